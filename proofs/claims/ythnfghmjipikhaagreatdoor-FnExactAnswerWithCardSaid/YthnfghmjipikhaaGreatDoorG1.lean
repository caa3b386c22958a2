/- Each function of the program does what its plain function says. -/
import Derived.Test.YthnfghmjipikhaaGreatDoorTy
import Derived.Test.YthnfghmjipikhaaGreatDoorPu
import Derived.Test.YthnfghmjipikhaaGreatDoorIns
import Derived.Test.YthnfghmjipikhaaGreatDoorLibT
import Derived.Test.YthnfghmjipikhaaGreatDoorChunk
set_option linter.unusedVariables false
set_option maxRecDepth 100000
namespace Go.Proofs.YthnfghmjipikhaaGreatDoor.Ev
abbrev p_s_l1Text_nil : List PK := [.val false (.int .i64) false]
abbrev r_s_l1Text_nil : List RK := [.val false .str]
noncomputable def D_s_l1Text_nil (f : Y_s_l1Text_nil) : Nat × Fn := (132, ⟨p_s_l1Text_nil, r_s_l1Text_nil, fun x => f x.1⟩)
noncomputable def F_s_l1Text_nil : Fn := (D_s_l1Text_nil P_s_l1Text_nil).2
theorem S_s_l1Text_nil : Sound Tryz.prog 132 F_s_l1Text_nil := fun x y h => by cases h
abbrev p_slices_Insert_impl_Field_impl_Field : List PK := [.val false (.sl 150 kField) false, .val false (.int .i64) false, .val false (.sl 150 kField) false]
abbrev r_slices_Insert_impl_Field_impl_Field : List RK := [.val false (.sl 150 kField)]
noncomputable def D_slices_Insert_impl_Field_impl_Field (f : Y_slices_Insert_impl_Field_impl_Field) : Nat × Fn := (194, ⟨p_slices_Insert_impl_Field_impl_Field, r_slices_Insert_impl_Field_impl_Field, fun x => f x.1 x.2.1 x.2.2.1⟩)
noncomputable def F_slices_Insert_impl_Field_impl_Field : Fn := (D_slices_Insert_impl_Field_impl_Field P_slices_Insert_impl_Field_impl_Field).2
theorem S_slices_Insert_impl_Field_impl_Field : Sound Tryz.prog 194 F_slices_Insert_impl_Field_impl_Field := insert_sound_Field kField (by decide)
abbrev p_slices_Grow_impl_Field_impl_Field : List PK := [.val false (.sl 150 kField) false, .val false (.int .i64) false]
abbrev r_slices_Grow_impl_Field_impl_Field : List RK := [.val false (.sl 150 kField)]
noncomputable def D_slices_Grow_impl_Field_impl_Field (f : Y_slices_Grow_impl_Field_impl_Field) : Nat × Fn := (230, ⟨p_slices_Grow_impl_Field_impl_Field, r_slices_Grow_impl_Field_impl_Field, fun x => f x.1 x.2.1⟩)
noncomputable def F_slices_Grow_impl_Field_impl_Field : Fn := (D_slices_Grow_impl_Field_impl_Field P_slices_Grow_impl_Field_impl_Field).2
theorem S_slices_Grow_impl_Field_impl_Field : Sound Tryz.prog 230 F_slices_Grow_impl_Field_impl_Field := grow_sound_Field
abbrev p_strings_Split : List PK := [.val false .str false, .val false .str false]
abbrev r_strings_Split : List RK := [.val false (.sl 9 .str)]
noncomputable def D_strings_Split (f : Y_strings_Split) : Nat × Fn := (231, ⟨p_strings_Split, r_strings_Split, fun x => f x.1 x.2.1⟩)
noncomputable def F_strings_Split : Fn := (D_strings_Split P_strings_Split).2
theorem S_strings_Split : Sound Tryz.prog 231 F_strings_Split := split_sound
abbrev p_strings_Cut : List PK := [.val false .str false, .val false .str false]
abbrev r_strings_Cut : List RK := [.val false .str, .val false .str, .val false .bool]
noncomputable def D_strings_Cut (f : Y_strings_Cut) : Nat × Fn := (232, ⟨p_strings_Cut, r_strings_Cut, fun x => f x.1 x.2.1⟩)
noncomputable def F_strings_Cut : Fn := (D_strings_Cut P_strings_Cut).2
theorem S_strings_Cut : Sound Tryz.prog 232 F_strings_Cut := cut_sound
abbrev p_strconv_Atoi : List PK := [.val false .str false]
abbrev r_strconv_Atoi : List RK := [.val false (.int .i64), .val false (.fnc 999999999)]
noncomputable def D_strconv_Atoi (f : Y_strconv_Atoi) : Nat × Fn := (233, ⟨p_strconv_Atoi, r_strconv_Atoi, fun x => f x.1⟩)
noncomputable def F_strconv_Atoi : Fn := (D_strconv_Atoi P_strconv_Atoi).2
theorem S_strconv_Atoi : Sound Tryz.prog 233 F_strconv_Atoi := atoi_sound
abbrev p_strconv_Itoa : List PK := [.val false (.int .i64) false]
abbrev r_strconv_Itoa : List RK := [.val false .str]
noncomputable def D_strconv_Itoa (f : Y_strconv_Itoa) : Nat × Fn := (142, ⟨p_strconv_Itoa, r_strconv_Itoa, fun x => f x.1⟩)
noncomputable def F_strconv_Itoa : Fn := (D_strconv_Itoa P_strconv_Itoa).2
theorem S_strconv_Itoa : Sound Tryz.prog 142 F_strconv_Itoa := itoa_sound
abbrev p_slices_Delete_impl_Str_impl_Str : List PK := [.val false (.sl 113 kStr) false, .val false (.int .i64) false, .val false (.int .i64) false]
abbrev r_slices_Delete_impl_Str_impl_Str : List RK := [.val false (.sl 113 kStr)]
noncomputable def D_slices_Delete_impl_Str_impl_Str (f : Y_slices_Delete_impl_Str_impl_Str) : Nat × Fn := (86, ⟨p_slices_Delete_impl_Str_impl_Str, r_slices_Delete_impl_Str_impl_Str, fun x => f x.1 x.2.1 x.2.2.1⟩)
noncomputable def F_slices_Delete_impl_Str_impl_Str : Fn := (D_slices_Delete_impl_Str_impl_Str P_slices_Delete_impl_Str_impl_Str).2
theorem S_slices_Delete_impl_Str_impl_Str : Sound Tryz.prog 86 F_slices_Delete_impl_Str_impl_Str := delete_sound_Str kStr (by decide)
def A_w_eqByteS : Nat → Option Jn := lookN [(58, ⟨[.t 5 false [.int .i64]], lt 11 15 [], false⟩)]
abbrev p_w_eqByteS : List PK := [.val false (.rs 5 (.int .u8)) false, .val false (.rs 5 (.int .u8)) false]
abbrev r_w_eqByteS : List RK := [.val false .bool]
noncomputable def D_w_eqByteS (f : Y_w_eqByteS) : Nat × Fn := (16, ⟨p_w_eqByteS, r_w_eqByteS, fun x => f x.1 x.2.1⟩)
noncomputable def F_w_eqByteS : Fn := (D_w_eqByteS P_w_eqByteS).2
theorem E_w_eqByteS : ∀ x, (mkFn cfg [] A_w_eqByteS 26 [.tmp 4] (Tryz.f16.body.getD .skip) p_w_eqByteS r_w_eqByteS).fn x = B_w_eqByteS x.1 x.2.1 := by intro x; kernel_rfl
theorem S_w_eqByteS : Sound Tryz.prog 16 F_w_eqByteS := sm MO cfg_ok tab_nil Tryz.func16 (by kernel_rfl) (by decide) (E_w_eqByteS)
def A_w_markByteS : Nat → Option Jn := lookN [(26, ⟨[.t 0 false [.own 1000], .t 1 false [.int .i64], .t 5 false [.int .i64], .r 1000 5 (.int .u8)], lt 6 13 [.x 16], false⟩)]
abbrev p_w_markByteS : List PK := [.val false (.sl 5 (.int .u8)) true, .val false (.int .i64) false]
abbrev r_w_markByteS : List RK := [.val false (.int .i64)]
noncomputable def D_w_markByteS (f : Y_w_markByteS) : Nat × Fn := (19, ⟨p_w_markByteS, r_w_markByteS, fun x => f x.1 x.2.1⟩)
noncomputable def F_w_markByteS : Fn := (D_w_markByteS P_w_markByteS).2
theorem E_w_markByteS : ∀ x, (mkFn cfg [] A_w_markByteS 20 [.tmp 4] (Tryz.f19.body.getD .skip) p_w_markByteS r_w_markByteS).fn x = B_w_markByteS x.1 x.2.1 := by intro x; kernel_rfl
theorem S_w_markByteS : Sound Tryz.prog 19 F_w_markByteS := sm MO cfg_ok tab_nil Tryz.func19 (by kernel_rfl) (by decide) (E_w_markByteS)
def A_w_heldByteS : Nat → Option Jn := lookN [(26, ⟨[.t 1 false [.int .i64], .t 5 false [.int .i64]], lt 6 15 [], false⟩)]
abbrev p_w_heldByteS : List PK := [.val false (.rs 5 (.int .u8)) false, .val false (.int .i64) false]
abbrev r_w_heldByteS : List RK := [.val false (.int .i64)]
noncomputable def D_w_heldByteS (f : Y_w_heldByteS) : Nat × Fn := (20, ⟨p_w_heldByteS, r_w_heldByteS, fun x => f x.1 x.2.1⟩)
noncomputable def F_w_heldByteS : Fn := (D_w_heldByteS P_w_heldByteS).2
theorem E_w_heldByteS : ∀ x, (mkFn cfg [] A_w_heldByteS 22 [.tmp 4] (Tryz.f20.body.getD .skip) p_w_heldByteS r_w_heldByteS).fn x = B_w_heldByteS x.1 x.2.1 := by intro x; kernel_rfl
theorem S_w_heldByteS : Sound Tryz.prog 20 F_w_heldByteS := sm MO cfg_ok tab_nil Tryz.func20 (by kernel_rfl) (by decide) (E_w_heldByteS)
abbrev p_w_szField : List PK := [.val true kField false, .val false (.int .i64) false]
abbrev r_w_szField : List RK := [.val false (.int .i64)]
noncomputable def D_w_szField (f : Y_w_szField) : Nat × Fn := (125, ⟨p_w_szField, r_w_szField, fun x => f x.1 x.2.1⟩)
noncomputable def F_w_szField : Fn := (D_w_szField P_w_szField).2
theorem E_w_szField : ∀ x, (mkFn cfg [] (lookN []) 20 [.tmp 4] (Tryz.f125.body.getD .skip) p_w_szField r_w_szField).fn x = B_w_szField x.1 x.2.1 := by intro x; kernel_rfl
theorem S_w_szField : Sound Tryz.prog 125 F_w_szField := sm MO cfg_ok tab_nil Tryz.func125 (by kernel_rfl) (by decide) (E_w_szField)
def A_w_szFieldS : Nat → Option Jn := lookN [(122, ⟨[.t 1 false [.int .i64], .t 5 false [.int .i64]], lt 12 14 [], false⟩)]
abbrev p_w_szFieldS : List PK := [.val false (.rs 161 kField) false, .val false (.int .i64) false]
abbrev r_w_szFieldS : List RK := [.val false (.int .i64)]
noncomputable def D_w_szFieldS (f : Y_w_szFieldS) : Nat × Fn := (50, ⟨p_w_szFieldS, r_w_szFieldS, fun x => f x.1 x.2.1⟩)
noncomputable def F_w_szFieldS : Fn := (D_w_szFieldS P_w_szFieldS).2
theorem E_w_szFieldS (f_w_szField : Y_w_szField) : ∀ x, (mkFn cfg [D_w_szField f_w_szField] A_w_szFieldS 27 [.tmp 4] (Tryz.f50.body.getD .skip) p_w_szFieldS r_w_szFieldS).fn x = B_w_szFieldS f_w_szField x.1 x.2.1 := by intro x; kernel_rfl
theorem S_w_szFieldS : Sound Tryz.prog 50 F_w_szFieldS := sm MO cfg_ok (tc Tryz.call125 S_w_szField tab_nil) Tryz.func50 (by kernel_rfl) (by decide) (E_w_szFieldS P_w_szField)
abbrev p_w_szTable : List PK := [.val true (.pair (.int .i64) (.rs 161 kField)) false, .val false (.int .i64) false]
abbrev r_w_szTable : List RK := [.val false (.int .i64)]
noncomputable def D_w_szTable (f : Y_w_szTable) : Nat × Fn := (9, ⟨p_w_szTable, r_w_szTable, fun x => f x.1 x.2.1⟩)
noncomputable def F_w_szTable : Fn := (D_w_szTable P_w_szTable).2
theorem E_w_szTable (f_w_szFieldS : Y_w_szFieldS) : ∀ x, (mkFn cfg [D_w_szFieldS f_w_szFieldS] (lookN []) 12 [.tmp 4] (Tryz.f9.body.getD .skip) p_w_szTable r_w_szTable).fn x = B_w_szTable f_w_szFieldS x.1 x.2.1 := by intro x; kernel_rfl
theorem S_w_szTable : Sound Tryz.prog 9 F_w_szTable := sm MO cfg_ok (tc Tryz.call50 S_w_szFieldS tab_nil) Tryz.func9 (by kernel_rfl) (by decide) (E_w_szTable P_w_szFieldS)
abbrev p_w_szByteS : List PK := [.val false (.rs 5 (.int .u8)) false, .val false (.int .i64) false]
abbrev r_w_szByteS : List RK := [.val false (.int .i64)]
noncomputable def D_w_szByteS (f : Y_w_szByteS) : Nat × Fn := (73, ⟨p_w_szByteS, r_w_szByteS, fun x => f x.1 x.2.1⟩)
noncomputable def F_w_szByteS : Fn := (D_w_szByteS P_w_szByteS).2
theorem E_w_szByteS : ∀ x, (mkFn cfg [] (lookN []) 12 [.tmp 4] (Tryz.f73.body.getD .skip) p_w_szByteS r_w_szByteS).fn x = B_w_szByteS x.1 x.2.1 := by intro x; kernel_rfl
theorem S_w_szByteS : Sound Tryz.prog 73 F_w_szByteS := sm MO cfg_ok tab_nil Tryz.func73 (by kernel_rfl) (by decide) (E_w_szByteS)
abbrev p_w_szGather : List PK := [.val true (.pair (.int .i64) (.pair .bool (.rs 5 (.int .u8)))) false, .val false (.int .i64) false]
abbrev r_w_szGather : List RK := [.val false (.int .i64)]
noncomputable def D_w_szGather (f : Y_w_szGather) : Nat × Fn := (74, ⟨p_w_szGather, r_w_szGather, fun x => f x.1 x.2.1⟩)
noncomputable def F_w_szGather : Fn := (D_w_szGather P_w_szGather).2
theorem E_w_szGather (f_w_szByteS : Y_w_szByteS) : ∀ x, (mkFn cfg [D_w_szByteS f_w_szByteS] (lookN []) 12 [.tmp 4] (Tryz.f74.body.getD .skip) p_w_szGather r_w_szGather).fn x = B_w_szGather f_w_szByteS x.1 x.2.1 := by intro x; kernel_rfl
theorem S_w_szGather : Sound Tryz.prog 74 F_w_szGather := sm MO cfg_ok (tc Tryz.call73 S_w_szByteS tab_nil) Tryz.func74 (by kernel_rfl) (by decide) (E_w_szGather P_w_szByteS)
abbrev p_w_szReq : List PK := [.val true kReq false, .val false (.int .i64) false]
abbrev r_w_szReq : List RK := [.val false (.int .i64)]
noncomputable def D_w_szReq (f : Y_w_szReq) : Nat × Fn := (10, ⟨p_w_szReq, r_w_szReq, fun x => f x.1 x.2.1⟩)
noncomputable def F_w_szReq : Fn := (D_w_szReq P_w_szReq).2
theorem E_w_szReq : ∀ x, (mkFn cfg [] (lookN []) 13 [.tmp 4] (Tryz.f10.body.getD .skip) p_w_szReq r_w_szReq).fn x = B_w_szReq x.1 x.2.1 := by intro x; kernel_rfl
theorem S_w_szReq : Sound Tryz.prog 10 F_w_szReq := sm MO cfg_ok tab_nil Tryz.func10 (by kernel_rfl) (by decide) (E_w_szReq)
abbrev p_w_szStr : List PK := [.val true (.pair (.int .i64) (.pair (.int .i64) (.pair kReq (.rs 5 (.int .u8))))) false, .val false (.int .i64) false]
abbrev r_w_szStr : List RK := [.val false (.int .i64)]
noncomputable def D_w_szStr (f : Y_w_szStr) : Nat × Fn := (147, ⟨p_w_szStr, r_w_szStr, fun x => f x.1 x.2.1⟩)
noncomputable def F_w_szStr : Fn := (D_w_szStr P_w_szStr).2
theorem E_w_szStr (f_w_szReq : Y_w_szReq) (f_w_szByteS : Y_w_szByteS) : ∀ x, (mkFn cfg [D_w_szReq f_w_szReq, D_w_szByteS f_w_szByteS] (lookN []) 18 [.tmp 4] (Tryz.f147.body.getD .skip) p_w_szStr r_w_szStr).fn x = B_w_szStr f_w_szReq f_w_szByteS x.1 x.2.1 := by intro x; kernel_rfl
theorem S_w_szStr : Sound Tryz.prog 147 F_w_szStr := sm MO cfg_ok (tc Tryz.call10 S_w_szReq (tc Tryz.call73 S_w_szByteS tab_nil)) Tryz.func147 (by kernel_rfl) (by decide) (E_w_szStr P_w_szReq P_w_szByteS)
def A_w_szStrS : Nat → Option Jn := lookN [(122, ⟨[.t 1 false [.int .i64], .t 5 false [.int .i64]], lt 12 14 [], false⟩)]
abbrev p_w_szStrS : List PK := [.val false (.rs 180 kStr) false, .val false (.int .i64) false]
abbrev r_w_szStrS : List RK := [.val false (.int .i64)]
noncomputable def D_w_szStrS (f : Y_w_szStrS) : Nat × Fn := (75, ⟨p_w_szStrS, r_w_szStrS, fun x => f x.1 x.2.1⟩)
noncomputable def F_w_szStrS : Fn := (D_w_szStrS P_w_szStrS).2
theorem E_w_szStrS (f_w_szStr : Y_w_szStr) : ∀ x, (mkFn cfg [D_w_szStr f_w_szStr] A_w_szStrS 27 [.tmp 4] (Tryz.f75.body.getD .skip) p_w_szStrS r_w_szStrS).fn x = B_w_szStrS f_w_szStr x.1 x.2.1 := by intro x; kernel_rfl
theorem S_w_szStrS : Sound Tryz.prog 75 F_w_szStrS := sm MO cfg_ok (tc Tryz.call147 S_w_szStr tab_nil) Tryz.func75 (by kernel_rfl) (by decide) (E_w_szStrS P_w_szStr)
abbrev p_w_szConn : List PK := [.val true (.pair (.int .i64) (.pair (.rs 5 (.int .u8)) (.pair (.pair (.int .i64) (.pair .bool (.rs 5 (.int .u8)))) (.pair (.pair (.int .i64) (.rs 161 kField)) (.pair (.pair (.int .i64) (.rs 161 kField)) (.pair (.rs 180 kStr) kResp)))))) false, .val false (.int .i64) false]
abbrev r_w_szConn : List RK := [.val false (.int .i64)]
noncomputable def D_w_szConn (f : Y_w_szConn) : Nat × Fn := (22, ⟨p_w_szConn, r_w_szConn, fun x => f x.1 x.2.1⟩)
noncomputable def F_w_szConn : Fn := (D_w_szConn P_w_szConn).2
theorem E_w_szConn (f_w_szTable : Y_w_szTable) (f_w_szByteS : Y_w_szByteS) (f_w_szGather : Y_w_szGather) (f_w_szStrS : Y_w_szStrS) : ∀ x, (mkFn cfg [D_w_szTable f_w_szTable, D_w_szByteS f_w_szByteS, D_w_szGather f_w_szGather, D_w_szStrS f_w_szStrS] (lookN []) 36 [.tmp 4] (Tryz.f22.body.getD .skip) p_w_szConn r_w_szConn).fn x = B_w_szConn f_w_szTable f_w_szByteS f_w_szGather f_w_szStrS x.1 x.2.1 := by intro x; kernel_rfl
theorem S_w_szConn : Sound Tryz.prog 22 F_w_szConn := sm MO cfg_ok (tc Tryz.call9 S_w_szTable (tc Tryz.call73 S_w_szByteS (tc Tryz.call74 S_w_szGather (tc Tryz.call75 S_w_szStrS tab_nil)))) Tryz.func22 (by kernel_rfl) (by decide) (E_w_szConn P_w_szTable P_w_szByteS P_w_szGather P_w_szStrS)
abbrev p_s_l1In : List PK := [.val false (.int .i64) false, .val false (.int .i64) false, .val false (.int .i64) false]
abbrev r_s_l1In : List RK := [.val false .bool]
noncomputable def D_s_l1In (f : Y_s_l1In) : Nat × Fn := (53, ⟨p_s_l1In, r_s_l1In, fun x => f x.1 x.2.1 x.2.2.1⟩)
noncomputable def F_s_l1In : Fn := (D_s_l1In P_s_l1In).2
theorem E_s_l1In : ∀ x, (mkFn cfg [] (lookN []) 15 [.tmp 6] (Tryz.f53.body.getD .skip) p_s_l1In r_s_l1In).fn x = B_s_l1In x.1 x.2.1 x.2.2.1 := by intro x; kernel_rfl
theorem S_s_l1In : Sound Tryz.prog 53 F_s_l1In := sm MO cfg_ok tab_nil Tryz.func53 (by kernel_rfl) (by decide) (E_s_l1In)
abbrev p_s_l4Of : List PK := [.val true kField false]
abbrev r_s_l4Of : List RK := [.val false (.int .i64)]
noncomputable def D_s_l4Of (f : Y_s_l4Of) : Nat × Fn := (173, ⟨p_s_l4Of, r_s_l4Of, fun x => f x.1⟩)
noncomputable def F_s_l4Of : Fn := (D_s_l4Of P_s_l4Of).2
theorem E_s_l4Of : ∀ x, (mkFn cfg [] (lookN []) 11 [.tmp 2] (Tryz.f173.body.getD .skip) p_s_l4Of r_s_l4Of).fn x = B_s_l4Of x.1 := by intro x; kernel_rfl
theorem S_s_l4Of : Sound Tryz.prog 173 F_s_l4Of := sm MO cfg_ok tab_nil Tryz.func173 (by kernel_rfl) (by decide) (E_s_l4Of)
def A_s_SizeOf : Nat → Option Jn := lookN [(58, ⟨[.t 3 false [.int .i64], .t 4 false [.int .i64]], lt 5 15 [], false⟩)]
abbrev p_s_SizeOf : List PK := [.val true (.pair (.int .i64) (.rs 150 kField)) false]
abbrev r_s_SizeOf : List RK := [.val false (.int .i64)]
noncomputable def D_s_SizeOf (f : Y_s_SizeOf) : Nat × Fn := (126, ⟨p_s_SizeOf, r_s_SizeOf, fun x => f x.1⟩)
noncomputable def F_s_SizeOf : Fn := (D_s_SizeOf P_s_SizeOf).2
theorem E_s_SizeOf (f_s_l4Of : Y_s_l4Of) : ∀ x, (mkFn cfg [D_s_l4Of f_s_l4Of] A_s_SizeOf 21 [.tmp 2] (Tryz.f126.body.getD .skip) p_s_SizeOf r_s_SizeOf).fn x = B_s_SizeOf f_s_l4Of x.1 := by intro x; kernel_rfl
theorem S_s_SizeOf : Sound Tryz.prog 126 F_s_SizeOf := sm MO cfg_ok (tc Tryz.call173 S_s_l4Of tab_nil) Tryz.func126 (by kernel_rfl) (by decide) (E_s_SizeOf P_s_l4Of)
abbrev p_s_TableOk : List PK := [.val true (.pair (.int .i64) (.rs 150 kField)) false]
abbrev r_s_TableOk : List RK := [.val false .bool]
noncomputable def D_s_TableOk (f : Y_s_TableOk) : Nat × Fn := (51, ⟨p_s_TableOk, r_s_TableOk, fun x => f x.1⟩)
noncomputable def F_s_TableOk : Fn := (D_s_TableOk P_s_TableOk).2
theorem E_s_TableOk (f_s_l1In : Y_s_l1In) (f_s_SizeOf : Y_s_SizeOf) : ∀ x, (mkFn cfg [D_s_l1In f_s_l1In, D_s_SizeOf f_s_SizeOf] (lookN []) 13 [.tmp 2] (Tryz.f51.body.getD .skip) p_s_TableOk r_s_TableOk).fn x = B_s_TableOk f_s_l1In f_s_SizeOf x.1 := by intro x; kernel_rfl
theorem S_s_TableOk : Sound Tryz.prog 51 F_s_TableOk := sm MO cfg_ok (tc Tryz.call53 S_s_l1In (tc Tryz.call126 S_s_SizeOf tab_nil)) Tryz.func51 (by kernel_rfl) (by decide) (E_s_TableOk P_s_l1In P_s_SizeOf)
abbrev p_s_GatherOk : List PK := [.val true (.pair (.int .i64) (.pair .bool (.rs 5 (.int .u8)))) false]
abbrev r_s_GatherOk : List RK := [.val false .bool]
noncomputable def D_s_GatherOk (f : Y_s_GatherOk) : Nat × Fn := (120, ⟨p_s_GatherOk, r_s_GatherOk, fun x => f x.1⟩)
noncomputable def F_s_GatherOk : Fn := (D_s_GatherOk P_s_GatherOk).2
theorem E_s_GatherOk (f_s_l1In : Y_s_l1In) : ∀ x, (mkFn cfg [D_s_l1In f_s_l1In] (lookN []) 24 [.tmp 2] (Tryz.f120.body.getD .skip) p_s_GatherOk r_s_GatherOk).fn x = B_s_GatherOk f_s_l1In x.1 := by intro x; kernel_rfl
theorem S_s_GatherOk : Sound Tryz.prog 120 F_s_GatherOk := sm MO cfg_ok (tc Tryz.call53 S_s_l1In tab_nil) Tryz.func120 (by kernel_rfl) (by decide) (E_s_GatherOk P_s_l1In)
def A_s_l16Strs : Nat → Option Jn := lookN [(3, ⟨[], lt 3 58 [.b 4], false⟩), (26, ⟨[.t 3 false [.int .i64]], lt 4 57 [.b 4], false⟩)]
abbrev p_s_l16Strs : List PK := [.val true (.pair (.int .i64) (.pair (.rs 5 (.int .u8)) (.pair (.pair (.int .i64) (.pair .bool (.rs 5 (.int .u8)))) (.pair (.pair (.int .i64) (.rs 150 kField)) (.pair (.pair (.int .i64) (.rs 150 kField)) (.pair (.rs 113 kStr) kResp)))))) false]
abbrev r_s_l16Strs : List RK := [.val false .bool]
noncomputable def D_s_l16Strs (f : Y_s_l16Strs) : Nat × Fn := (121, ⟨p_s_l16Strs, r_s_l16Strs, fun x => f x.1⟩)
noncomputable def F_s_l16Strs : Fn := (D_s_l16Strs P_s_l16Strs).2
theorem E_s_l16Strs (f_s_l1In : Y_s_l1In) : ∀ x, (mkFn cfg [D_s_l1In f_s_l1In] A_s_l16Strs 65 [.tmp 2] (Tryz.f121.body.getD .skip) p_s_l16Strs r_s_l16Strs).fn x = B_s_l16Strs f_s_l1In x.1 := by intro x; kernel_rfl
theorem S_s_l16Strs : Sound Tryz.prog 121 F_s_l16Strs := sm MO cfg_ok (tc Tryz.call53 S_s_l1In tab_nil) Tryz.func121 (by kernel_rfl) (by decide) (E_s_l16Strs P_s_l1In)
def A_s_GetBig : Nat → Option Jn := lookN [(3, ⟨[], lt 10 15 [], false⟩), (15, ⟨[.t 8 false [.int .i64]], lt 25 15 [.t 9], true⟩), (122, ⟨[.t 8 false [.int .i64], .t 9 false [.int .i64]], lt 25 15 [], false⟩)]
abbrev p_s_GetBig : List PK := [.val false (.rs 5 (.int .u8)) false, .val false (.int .i64) false, .val false (.int .i64) false]
abbrev r_s_GetBig : List RK := [.val false (.int .i64), .val false .bool]
noncomputable def D_s_GetBig (f : Y_s_GetBig) : Nat × Fn := (171, ⟨p_s_GetBig, r_s_GetBig, fun x => f x.1 x.2.1 x.2.2.1⟩)
noncomputable def F_s_GetBig : Fn := (D_s_GetBig P_s_GetBig).2
theorem E_s_GetBig (f_s_l1In : Y_s_l1In) : ∀ x, (mkFn cfg [D_s_l1In f_s_l1In] A_s_GetBig 41 [.tmp 6, .tmp 7] (Tryz.f171.body.getD .skip) p_s_GetBig r_s_GetBig).fn x = B_s_GetBig f_s_l1In x.1 x.2.1 x.2.2.1 := by intro x; kernel_rfl
theorem S_s_GetBig : Sound Tryz.prog 171 F_s_GetBig := sm MO cfg_ok (tc Tryz.call53 S_s_l1In tab_nil) Tryz.func171 (by kernel_rfl) (by decide) (E_s_GetBig P_s_l1In)
def A_s_GetFrame : Nat → Option Jn := lookN [(15, ⟨[], lt 39 8 (lt 34 3 (lt 25 7 [])), false⟩), (60, ⟨[.t 25 false [.bool]], lt 26 6 [], true⟩)]
abbrev p_s_GetFrame : List PK := [.val false (.rs 5 (.int .u8)) false, .val false (.int .i64) false]
abbrev r_s_GetFrame : List RK := [.val true kFrame, .val false (.int .i64), .val false (.int .i64)]
noncomputable def D_s_GetFrame (f : Y_s_GetFrame) : Nat × Fn := (122, ⟨p_s_GetFrame, r_s_GetFrame, fun x => f x.1 x.2.1⟩)
noncomputable def F_s_GetFrame : Fn := (D_s_GetFrame P_s_GetFrame).2
theorem E_s_GetFrame (f_s_GetBig : Y_s_GetBig) : ∀ x, (mkFn cfg [D_s_GetBig f_s_GetBig] A_s_GetFrame 80 [.cell 4 82, .tmp 5, .tmp 6] (Tryz.f122.body.getD .skip) p_s_GetFrame r_s_GetFrame).fn x = B_s_GetFrame f_s_GetBig x.1 x.2.1 := by intro x; kernel_rfl
theorem S_s_GetFrame : Sound Tryz.prog 122 F_s_GetFrame := sm MO cfg_ok (tc Tryz.call171 S_s_GetBig tab_nil) Tryz.func122 (by kernel_rfl) (by decide) (E_s_GetFrame P_s_GetBig)
def A_s_ConnOk : Nat → Option Jn := lookN [(3, ⟨[], lt 6 45 [], false⟩), (15, ⟨[], lt 58 13 [], false⟩)]
abbrev p_s_ConnOk : List PK := [.val true (.pair (.int .i64) (.pair (.rs 5 (.int .u8)) (.pair (.pair (.int .i64) (.pair .bool (.rs 5 (.int .u8)))) (.pair (.pair (.int .i64) (.rs 150 kField)) (.pair (.pair (.int .i64) (.rs 150 kField)) (.pair (.rs 113 kStr) kResp)))))) false]
abbrev r_s_ConnOk : List RK := [.val false .bool]
noncomputable def D_s_ConnOk (f : Y_s_ConnOk) : Nat × Fn := (46, ⟨p_s_ConnOk, r_s_ConnOk, fun x => f x.1⟩)
noncomputable def F_s_ConnOk : Fn := (D_s_ConnOk P_s_ConnOk).2
theorem E_s_ConnOk (f_s_TableOk : Y_s_TableOk) (f_s_l1In : Y_s_l1In) (f_s_GatherOk : Y_s_GatherOk) (f_s_l16Strs : Y_s_l16Strs) (f_s_GetFrame : Y_s_GetFrame) : ∀ x, (mkFn cfg [D_s_TableOk f_s_TableOk, D_s_l1In f_s_l1In, D_s_GatherOk f_s_GatherOk, D_s_l16Strs f_s_l16Strs, D_s_GetFrame f_s_GetFrame] A_s_ConnOk 92 [.tmp 2] (Tryz.f46.body.getD .skip) p_s_ConnOk r_s_ConnOk).fn x = B_s_ConnOk f_s_TableOk f_s_l1In f_s_GatherOk f_s_l16Strs f_s_GetFrame x.1 := by intro x; kernel_rfl
theorem S_s_ConnOk : Sound Tryz.prog 46 F_s_ConnOk := sm MO cfg_ok (tc Tryz.call51 S_s_TableOk (tc Tryz.call53 S_s_l1In (tc Tryz.call120 S_s_GatherOk (tc Tryz.call121 S_s_l16Strs (tc Tryz.call122 S_s_GetFrame tab_nil))))) Tryz.func46 (by kernel_rfl) (by decide) (E_s_ConnOk P_s_TableOk P_s_l1In P_s_GatherOk P_s_l16Strs P_s_GetFrame)
abbrev p_s_l4Copy : List PK := [.val true (.pair (.int .i64) (.rs 150 kField)) false]
abbrev r_s_l4Copy : List RK := [.val true kTable]
noncomputable def D_s_l4Copy (f : Y_s_l4Copy) : Nat × Fn := (54, ⟨p_s_l4Copy, r_s_l4Copy, fun x => f x.1⟩)
noncomputable def F_s_l4Copy : Fn := (D_s_l4Copy P_s_l4Copy).2
theorem E_s_l4Copy : ∀ x, (mkFn cfg [] (lookN []) 10 [.cell 2 32] (Tryz.f54.body.getD .skip) p_s_l4Copy r_s_l4Copy).fn x = B_s_l4Copy x.1 := by intro x; kernel_rfl
theorem S_s_l4Copy : Sound Tryz.prog 54 F_s_l4Copy := sm MO cfg_ok tab_nil Tryz.func54 (by kernel_rfl) (by decide) (E_s_l4Copy)
abbrev p_s_l4First : List PK := []
abbrev r_s_l4First : List RK := [.val false (.sl 150 kField)]
noncomputable def D_s_l4First (f : Y_s_l4First) : Nat × Fn := (205, ⟨p_s_l4First, r_s_l4First, fun x => f⟩)
noncomputable def F_s_l4First : Fn := (D_s_l4First P_s_l4First).2
theorem E_s_l4First : ∀ x, (mkFn cfg [] (lookN []) 63 [.tmp 0] (Tryz.f205.body.getD .skip) p_s_l4First r_s_l4First).fn x = B_s_l4First := by intro x; kernel_rfl
theorem S_s_l4First : Sound Tryz.prog 205 F_s_l4First := sm MO cfg_ok tab_nil Tryz.func205 (by kernel_rfl) (by decide) (E_s_l4First)
def A_s_FindField : Nat → Option Jn := lookN [(15, ⟨[.t 7 false [.int .i64]], lt 37 10 (lt 11 25 [.b 9, .t 8, .t 9, .x 25]), false⟩), (122, ⟨[.t 7 false [.int .i64], .t 8 false [.int .i64]], lt 37 10 (lt 11 25 [.b 9, .t 9, .x 25]), false⟩), (3913, ⟨[.b 9 [.str, .str]], lt 20 13 [.x 25], true⟩)]
abbrev p_s_FindField : List PK := [.val true (.pair (.int .i64) (.rs 150 kField)) false, .val true kField false]
abbrev r_s_FindField : List RK := [.val false (.int .i64), .val false .bool]
noncomputable def D_s_FindField (f : Y_s_FindField) : Nat × Fn := (174, ⟨p_s_FindField, r_s_FindField, fun x => f x.1 x.2.1⟩)
noncomputable def F_s_FindField : Fn := (D_s_FindField P_s_FindField).2
theorem E_s_FindField (f_s_l4First : Y_s_l4First) : ∀ x, (mkFn (cfg.withEq [(150, 1002)]) [D_s_l4First f_s_l4First] A_s_FindField 48 [.tmp 4, .tmp 5] (Tryz.f174.body.getD .skip) p_s_FindField r_s_FindField).fn x = B_s_FindField f_s_l4First x.1 x.2.1 := by intro x; kernel_rfl
theorem S_s_FindField : Sound Tryz.prog 174 F_s_FindField := sm MO (withEq_ok (l := [(150, 1002)]) cfg_ok ⟨eq150, trivial⟩) (tc Tryz.call205 S_s_l4First tab_nil) Tryz.func174 (by kernel_rfl) (by decide) (E_s_FindField P_s_l4First)
def A_s_PutPrefix : Nat → Option Jn := lookN [(7, ⟨[], lt 14 8 [], false⟩), (15, ⟨[.t 3 false [.int .i64]], [.t 23, .t 24], true⟩), (31, ⟨[.t 3 false [.int .i64]], [.t 25, .t 26], true⟩), (2047, ⟨[.t 3 false [.int .i64], .t 9 false [.own 100003000], .r 100003000 5 (.int .u8)], lt 54 11 [.r 50, .r 61, .r 62], true⟩), (8188, ⟨[.t 3 false [.int .i64], .t 9 false [.own 100003000], .r 100003000 5 (.int .u8)], lt 54 11 [.r 50, .r 61, .r 62], false⟩)]
abbrev p_s_PutPrefix : List PK := [.val false (.rs 5 (.int .u8)) false, .val false (.int .i64) false, .val false (.int .i64) false, .val false (.int .i64) false]
abbrev r_s_PutPrefix : List RK := [.val false (.sl 5 (.int .u8))]
noncomputable def D_s_PutPrefix (f : Y_s_PutPrefix) : Nat × Fn := (175, ⟨p_s_PutPrefix, r_s_PutPrefix, fun x => f x.1 x.2.1 x.2.2.1 x.2.2.2.1⟩)
noncomputable def F_s_PutPrefix : Fn := (D_s_PutPrefix P_s_PutPrefix).2
theorem E_s_PutPrefix (f_s_l1In : Y_s_l1In) : ∀ x, (mkFn cfg [D_s_l1In f_s_l1In] A_s_PutPrefix 70 [.tmp 8] (Tryz.f175.body.getD .skip) p_s_PutPrefix r_s_PutPrefix).fn x = B_s_PutPrefix f_s_l1In x.1 x.2.1 x.2.2.1 x.2.2.2.1 := by intro x; kernel_rfl
theorem S_s_PutPrefix : Sound Tryz.prog 175 F_s_PutPrefix := sm MO cfg_ok (tc Tryz.call53 S_s_l1In tab_nil) Tryz.func175 (by kernel_rfl) (by decide) (E_s_PutPrefix P_s_l1In)
abbrev p_s_l5Mode : List PK := [.val false (.int .i64) false]
abbrev r_s_l5Mode : List RK := [.val false (.int .i64), .val false (.int .i64)]
noncomputable def D_s_l5Mode (f : Y_s_l5Mode) : Nat × Fn := (176, ⟨p_s_l5Mode, r_s_l5Mode, fun x => f x.1⟩)
noncomputable def F_s_l5Mode : Fn := (D_s_l5Mode P_s_l5Mode).2
theorem E_s_l5Mode : ∀ x, (mkFn cfg [] (lookN []) 9 [.tmp 2, .tmp 3] (Tryz.f176.body.getD .skip) p_s_l5Mode r_s_l5Mode).fn x = B_s_l5Mode x.1 := by intro x; kernel_rfl
theorem S_s_l5Mode : Sound Tryz.prog 176 F_s_l5Mode := sm MO cfg_ok tab_nil Tryz.func176 (by kernel_rfl) (by decide) (E_s_l5Mode)
abbrev p_s_l3Lens : List PK := []
abbrev r_s_l3Lens : List RK := [.val false (.sl 3 (.int .i64))]
noncomputable def D_s_l3Lens (f : Y_s_l3Lens) : Nat × Fn := (228, ⟨p_s_l3Lens, r_s_l3Lens, fun x => f⟩)
noncomputable def F_s_l3Lens : Fn := (D_s_l3Lens P_s_l3Lens).2
theorem E_s_l3Lens : ∀ x, (mkFn cfg [] (lookN []) 2 [.tmp 0] (Tryz.f228.body.getD .skip) p_s_l3Lens r_s_l3Lens).fn x = B_s_l3Lens := by intro x; kernel_rfl
theorem S_s_l3Lens : Sound Tryz.prog 228 F_s_l3Lens := sm MO cfg_ok tab_nil Tryz.func228 (by kernel_rfl) (by decide) (E_s_l3Lens)
def A_s_l3Codes : Nat → Option Jn := lookN [(506, ⟨[.t 2 false [.own 8], .t 3 false [.int .i64], .t 4 false [.int .i64], .t 5 false [.int .i64], .r 8 3 (.int .i64)], lt 9 28 [.t 6, .x 19, .x 36], false⟩), (32402, ⟨[.t 2 false [.own 8], .t 3 false [.int .i64], .t 4 false [.int .i64], .t 6 false [.int .i64], .r 8 3 (.int .i64)], lt 13 24 [.x 19, .x 36], false⟩)]
abbrev p_s_l3Codes : List PK := []
abbrev r_s_l3Codes : List RK := [.val false (.sl 3 (.int .i64))]
noncomputable def D_s_l3Codes (f : Y_s_l3Codes) : Nat × Fn := (229, ⟨p_s_l3Codes, r_s_l3Codes, fun x => f⟩)
noncomputable def F_s_l3Codes : Fn := (D_s_l3Codes P_s_l3Codes).2
theorem E_s_l3Codes (f_s_l3Lens : Y_s_l3Lens) : ∀ x, (mkFn cfg [D_s_l3Lens f_s_l3Lens] A_s_l3Codes 38 [.tmp 0] (Tryz.f229.body.getD .skip) p_s_l3Codes r_s_l3Codes).fn x = B_s_l3Codes f_s_l3Lens := by intro x; kernel_rfl
theorem S_s_l3Codes : Sound Tryz.prog 229 F_s_l3Codes := sm MO cfg_ok (tc Tryz.call228 S_s_l3Lens tab_nil) Tryz.func229 (by kernel_rfl) (by decide) (E_s_l3Codes P_s_l3Lens)
def A_s_Huff : Nat → Option Jn := lookN [(127, ⟨[.t 5 false [.own 100000001], .t 6 false [.int .i64], .t 7 false [.int .i64], .r 100000001 5 (.int .u8)], lt 12 48 [.r 11, .r 52, .r 53, .r 100001000, .t 8, .x 23, .x 31, .x 39], true⟩), (1018, ⟨[.t 5 false [.own 100000001], .t 6 false [.int .i64], .t 7 false [.int .i64], .t 8 false [.int .i64], .r 100000001 5 (.int .u8)], lt 12 48 [.r 11, .r 52, .r 53, .r 100001000, .x 23, .x 31, .x 39], false⟩), (130342, ⟨[.t 5 false [.own 100001000], .t 6 false [.int .i64], .t 7 false [.int .i64], .r 100001000 5 (.int .u8)], lt 42 18 [.r 11, .r 52, .r 53, .r 100000001], false⟩)]
abbrev p_s_Huff : List PK := [.val false .str false]
abbrev r_s_Huff : List RK := [.val false (.sl 5 (.int .u8))]
noncomputable def D_s_Huff (f : Y_s_Huff) : Nat × Fn := (206, ⟨p_s_Huff, r_s_Huff, fun x => f x.1⟩)
noncomputable def F_s_Huff : Fn := (D_s_Huff P_s_Huff).2
theorem E_s_Huff (f_s_l3Lens : Y_s_l3Lens) (f_s_l3Codes : Y_s_l3Codes) : ∀ x, (mkFn cfg [D_s_l3Lens f_s_l3Lens, D_s_l3Codes f_s_l3Codes] A_s_Huff 78 [.tmp 2] (Tryz.f206.body.getD .skip) p_s_Huff r_s_Huff).fn x = B_s_Huff f_s_l3Lens f_s_l3Codes x.1 := by intro x; kernel_rfl
theorem S_s_Huff : Sound Tryz.prog 206 F_s_Huff := sm MO cfg_ok (tc Tryz.call228 S_s_l3Lens (tc Tryz.call229 S_s_l3Codes tab_nil)) Tryz.func206 (by kernel_rfl) (by decide) (E_s_Huff P_s_l3Lens P_s_l3Codes)
abbrev p_s_PutString : List PK := [.val false (.rs 5 (.int .u8)) false, .val false .str false]
abbrev r_s_PutString : List RK := [.val false (.sl 5 (.int .u8))]
noncomputable def D_s_PutString (f : Y_s_PutString) : Nat × Fn := (177, ⟨p_s_PutString, r_s_PutString, fun x => f x.1 x.2.1⟩)
noncomputable def F_s_PutString : Fn := (D_s_PutString P_s_PutString).2
theorem E_s_PutString (f_s_PutPrefix : Y_s_PutPrefix) (f_s_Huff : Y_s_Huff) : ∀ x, (mkFn cfg [D_s_PutPrefix f_s_PutPrefix, D_s_Huff f_s_Huff] (lookN []) 25 [.tmp 4] (Tryz.f177.body.getD .skip) p_s_PutString r_s_PutString).fn x = B_s_PutString f_s_PutPrefix f_s_Huff x.1 x.2.1 := by intro x; kernel_rfl
theorem S_s_PutString : Sound Tryz.prog 177 F_s_PutString := sm MO cfg_ok (tc Tryz.call175 S_s_PutPrefix (tc Tryz.call206 S_s_Huff tab_nil)) Tryz.func177 (by kernel_rfl) (by decide) (E_s_PutString P_s_PutPrefix P_s_Huff)
def A_s_l4Fit_r99_0 : Nat → Option Jn := lookN [(12, ⟨[.b 1 [.int .i64, .ro 150 kField]], lt 3 13 [], false⟩)]
abbrev p_s_l4Fit_r99_0 : List PK := [.val true (.pair (.int .i64) (.rs 150 kField)) false]
abbrev r_s_l4Fit_r99_0 : List RK := [.val true (.pair (.int .i64) (.rs 150 kField))]
noncomputable def D_s_l4Fit_r99_0 (f : Y_s_l4Fit_r99_0) : Nat × Fn := (207, ⟨p_s_l4Fit_r99_0, r_s_l4Fit_r99_0, fun x => f x.1⟩)
noncomputable def F_s_l4Fit_r99_0 : Fn := (D_s_l4Fit_r99_0 P_s_l4Fit_r99_0).2
theorem E_s_l4Fit_r99_0 (f_s_SizeOf : Y_s_SizeOf) : ∀ x, (mkFn cfg [D_s_SizeOf f_s_SizeOf] A_s_l4Fit_r99_0 17 [.cell 2 32] (Tryz.f207.body.getD .skip) p_s_l4Fit_r99_0 r_s_l4Fit_r99_0).fn x = B_s_l4Fit_r99_0 f_s_SizeOf x.1 := by intro x; kernel_rfl
theorem S_s_l4Fit_r99_0 : Sound Tryz.prog 207 F_s_l4Fit_r99_0 := sm MO cfg_ok (tc Tryz.call126 S_s_SizeOf tab_nil) Tryz.func207 (by kernel_rfl) (by decide) (E_s_l4Fit_r99_0 P_s_SizeOf)
abbrev p_s_l4Add_r99_0 : List PK := [.val true (.pair (.int .i64) (.rs 150 kField)) false, .val true kField false]
abbrev r_s_l4Add_r99_0 : List RK := [.val true (.pair (.int .i64) (.rs 150 kField))]
noncomputable def D_s_l4Add_r99_0 (f : Y_s_l4Add_r99_0) : Nat × Fn := (178, ⟨p_s_l4Add_r99_0, r_s_l4Add_r99_0, fun x => f x.1 x.2.1⟩)
noncomputable def F_s_l4Add_r99_0 : Fn := (D_s_l4Add_r99_0 P_s_l4Add_r99_0).2
theorem E_s_l4Add_r99_0 (f_s_l4Fit_r99_0 : Y_s_l4Fit_r99_0) : ∀ x, (mkFn cfg [D_s_l4Fit_r99_0 f_s_l4Fit_r99_0] (lookN []) 14 [.cell 4 32] (Tryz.f178.body.getD .skip) p_s_l4Add_r99_0 r_s_l4Add_r99_0).fn x = B_s_l4Add_r99_0 f_s_l4Fit_r99_0 x.1 x.2.1 := by intro x; kernel_rfl
theorem S_s_l4Add_r99_0 : Sound Tryz.prog 178 F_s_l4Add_r99_0 := sm MO cfg_ok (tc Tryz.call207 S_s_l4Fit_r99_0 tab_nil) Tryz.func178 (by kernel_rfl) (by decide) (E_s_l4Add_r99_0 P_s_l4Fit_r99_0)
def A_s_PutField_r99_0 : Nat → Option Jn := lookN [(7, ⟨[], lt 16 8 [], false⟩), (31, ⟨[], lt 32 5 [], false⟩), (62, ⟨[.t 36 false [.bool]], lt 32 4 [], true⟩), (255, ⟨[.t 13 false [.own 100003000], .r 100003000 5 (.int .u8)], lt 51 6 [.r 208896, .r 233472], true⟩)]
abbrev p_s_PutField_r99_0 : List PK := [.val true (.pair (.int .i64) (.rs 150 kField)) false, .val true kField false, .val false (.int .i64) false]
abbrev r_s_PutField_r99_0 : List RK := [.val false (.sl 5 (.int .u8)), .val true (.pair (.int .i64) (.rs 150 kField))]
noncomputable def D_s_PutField_r99_0 (f : Y_s_PutField_r99_0) : Nat × Fn := (129, ⟨p_s_PutField_r99_0, r_s_PutField_r99_0, fun x => f x.1 x.2.1 x.2.2.1⟩)
noncomputable def F_s_PutField_r99_0 : Fn := (D_s_PutField_r99_0 P_s_PutField_r99_0).2
theorem E_s_PutField_r99_0 (f_s_TableOk : Y_s_TableOk) (f_s_l1In : Y_s_l1In) (f_s_l4Copy : Y_s_l4Copy) (f_s_FindField : Y_s_FindField) (f_s_PutPrefix : Y_s_PutPrefix) (f_s_l5Mode : Y_s_l5Mode) (f_s_PutString : Y_s_PutString) (f_s_l4Add_r99_0 : Y_s_l4Add_r99_0) : ∀ x, (mkFn cfg [D_s_TableOk f_s_TableOk, D_s_l1In f_s_l1In, D_s_l4Copy f_s_l4Copy, D_s_FindField f_s_FindField, D_s_PutPrefix f_s_PutPrefix, D_s_l5Mode f_s_l5Mode, D_s_PutString f_s_PutString, D_s_l4Add_r99_0 f_s_l4Add_r99_0] A_s_PutField_r99_0 69 [.tmp 6, .cell 7 32] (Tryz.f129.body.getD .skip) p_s_PutField_r99_0 r_s_PutField_r99_0).fn x = B_s_PutField_r99_0 f_s_TableOk f_s_l1In f_s_l4Copy f_s_FindField f_s_PutPrefix f_s_l5Mode f_s_PutString f_s_l4Add_r99_0 x.1 x.2.1 x.2.2.1 := by intro x; kernel_rfl
theorem S_s_PutField_r99_0 : Sound Tryz.prog 129 F_s_PutField_r99_0 := sm MO cfg_ok (tc Tryz.call51 S_s_TableOk (tc Tryz.call53 S_s_l1In (tc Tryz.call54 S_s_l4Copy (tc Tryz.call174 S_s_FindField (tc Tryz.call175 S_s_PutPrefix (tc Tryz.call176 S_s_l5Mode (tc Tryz.call177 S_s_PutString (tc Tryz.call178 S_s_l4Add_r99_0 tab_nil)))))))) Tryz.func129 (by kernel_rfl) (by decide) (E_s_PutField_r99_0 P_s_TableOk P_s_l1In P_s_l4Copy P_s_FindField P_s_PutPrefix P_s_l5Mode P_s_PutString P_s_l4Add_r99_0)
abbrev p_s_FrameOk : List PK := [.val true (.pair (.int .i64) (.pair (.int .i64) (.pair (.int .i64) (.rs 5 (.int .u8))))) false]
abbrev r_s_FrameOk : List RK := [.val false .bool]
noncomputable def D_s_FrameOk (f : Y_s_FrameOk) : Nat × Fn := (133, ⟨p_s_FrameOk, r_s_FrameOk, fun x => f x.1⟩)
noncomputable def F_s_FrameOk : Fn := (D_s_FrameOk P_s_FrameOk).2
theorem E_s_FrameOk (f_s_l1In : Y_s_l1In) : ∀ x, (mkFn cfg [D_s_l1In f_s_l1In] (lookN []) 22 [.tmp 2] (Tryz.f133.body.getD .skip) p_s_FrameOk r_s_FrameOk).fn x = B_s_FrameOk f_s_l1In x.1 := by intro x; kernel_rfl
theorem S_s_FrameOk : Sound Tryz.prog 133 F_s_FrameOk := sm MO cfg_ok (tc Tryz.call53 S_s_l1In tab_nil) Tryz.func133 (by kernel_rfl) (by decide) (E_s_FrameOk P_s_l1In)
def A_s_PutBig : Nat → Option Jn := lookN [(7, ⟨[.t 1 false [.int .i64]], [.t 12, .t 13], true⟩), (250, ⟨[.t 7 false [.own 100001000], .t 8 false [.int .i64], .r 100001000 5 (.int .u8)], lt 20 13 [.r 11, .r 31, .r 32], false⟩)]
abbrev p_s_PutBig : List PK := [.val false (.rs 5 (.int .u8)) false, .val false (.int .i64) false, .val false (.int .i64) false]
abbrev r_s_PutBig : List RK := [.val false (.sl 5 (.int .u8))]
noncomputable def D_s_PutBig (f : Y_s_PutBig) : Nat × Fn := (134, ⟨p_s_PutBig, r_s_PutBig, fun x => f x.1 x.2.1 x.2.2.1⟩)
noncomputable def F_s_PutBig : Fn := (D_s_PutBig P_s_PutBig).2
theorem E_s_PutBig (f_s_l1In : Y_s_l1In) : ∀ x, (mkFn cfg [D_s_l1In f_s_l1In] A_s_PutBig 34 [.tmp 6] (Tryz.f134.body.getD .skip) p_s_PutBig r_s_PutBig).fn x = B_s_PutBig f_s_l1In x.1 x.2.1 x.2.2.1 := by intro x; kernel_rfl
theorem S_s_PutBig : Sound Tryz.prog 134 F_s_PutBig := sm MO cfg_ok (tc Tryz.call53 S_s_l1In tab_nil) Tryz.func134 (by kernel_rfl) (by decide) (E_s_PutBig P_s_l1In)
abbrev p_s_PutFrame : List PK := [.val true (.pair (.int .i64) (.pair (.int .i64) (.pair (.int .i64) (.rs 5 (.int .u8))))) false]
abbrev r_s_PutFrame : List RK := [.val false (.sl 5 (.int .u8))]
noncomputable def D_s_PutFrame (f : Y_s_PutFrame) : Nat × Fn := (59, ⟨p_s_PutFrame, r_s_PutFrame, fun x => f x.1⟩)
noncomputable def F_s_PutFrame : Fn := (D_s_PutFrame P_s_PutFrame).2
theorem E_s_PutFrame (f_s_FrameOk : Y_s_FrameOk) (f_s_PutBig : Y_s_PutBig) : ∀ x, (mkFn cfg [D_s_FrameOk f_s_FrameOk, D_s_PutBig f_s_PutBig] (lookN []) 28 [.tmp 2] (Tryz.f59.body.getD .skip) p_s_PutFrame r_s_PutFrame).fn x = B_s_PutFrame f_s_FrameOk f_s_PutBig x.1 := by intro x; kernel_rfl
theorem S_s_PutFrame : Sound Tryz.prog 59 F_s_PutFrame := sm MO cfg_ok (tc Tryz.call133 S_s_FrameOk (tc Tryz.call134 S_s_PutBig tab_nil)) Tryz.func59 (by kernel_rfl) (by decide) (E_s_PutFrame P_s_FrameOk P_s_PutBig)
def A_s_l16Frames : Nat → Option Jn := lookN [(58, ⟨[.t 3 false [.own 100000000], .t 4 false [.int .i64], .r 100000000 5 (.int .u8)], lt 6 13 [.r 5, .r 18, .r 73728], false⟩)]
abbrev p_s_l16Frames : List PK := [.val false (.rs 82 kFrame) false]
abbrev r_s_l16Frames : List RK := [.val false (.sl 5 (.int .u8))]
noncomputable def D_s_l16Frames (f : Y_s_l16Frames) : Nat × Fn := (57, ⟨p_s_l16Frames, r_s_l16Frames, fun x => f x.1⟩)
noncomputable def F_s_l16Frames : Fn := (D_s_l16Frames P_s_l16Frames).2
theorem E_s_l16Frames (f_s_PutFrame : Y_s_PutFrame) : ∀ x, (mkFn cfg [D_s_PutFrame f_s_PutFrame] A_s_l16Frames 20 [.tmp 2] (Tryz.f57.body.getD .skip) p_s_l16Frames r_s_l16Frames).fn x = B_s_l16Frames f_s_PutFrame x.1 := by intro x; kernel_rfl
theorem S_s_l16Frames : Sound Tryz.prog 57 F_s_l16Frames := sm MO cfg_ok (tc Tryz.call59 S_s_PutFrame tab_nil) Tryz.func57 (by kernel_rfl) (by decide) (E_s_l16Frames P_s_PutFrame)
abbrev p_s_l8Copy : List PK := [.val true (.pair (.int .i64) (.pair .bool (.rs 5 (.int .u8)))) false]
abbrev r_s_l8Copy : List RK := [.val true kGather]
noncomputable def D_s_l8Copy (f : Y_s_l8Copy) : Nat × Fn := (148, ⟨p_s_l8Copy, r_s_l8Copy, fun x => f x.1⟩)
noncomputable def F_s_l8Copy : Fn := (D_s_l8Copy P_s_l8Copy).2
theorem E_s_l8Copy : ∀ x, (mkFn cfg [] (lookN []) 9 [.cell 2 52] (Tryz.f148.body.getD .skip) p_s_l8Copy r_s_l8Copy).fn x = B_s_l8Copy x.1 := by intro x; kernel_rfl
theorem S_s_l8Copy : Sound Tryz.prog 148 F_s_l8Copy := sm MO cfg_ok tab_nil Tryz.func148 (by kernel_rfl) (by decide) (E_s_l8Copy)
def A_s_l16At : Nat → Option Jn := lookN [(26, ⟨[.t 5 false [.int .i64]], lt 6 15 [], false⟩)]
abbrev p_s_l16At : List PK := [.val true (.pair (.int .i64) (.pair (.rs 5 (.int .u8)) (.pair (.pair (.int .i64) (.pair .bool (.rs 5 (.int .u8)))) (.pair (.pair (.int .i64) (.rs 150 kField)) (.pair (.pair (.int .i64) (.rs 150 kField)) (.pair (.rs 113 kStr) kResp)))))) false, .val false (.int .i64) false]
abbrev r_s_l16At : List RK := [.val false (.int .i64)]
noncomputable def D_s_l16At (f : Y_s_l16At) : Nat × Fn := (77, ⟨p_s_l16At, r_s_l16At, fun x => f x.1 x.2.1⟩)
noncomputable def F_s_l16At : Fn := (D_s_l16At P_s_l16At).2
theorem E_s_l16At : ∀ x, (mkFn cfg [] A_s_l16At 22 [.tmp 4] (Tryz.f77.body.getD .skip) p_s_l16At r_s_l16At).fn x = B_s_l16At x.1 x.2.1 := by intro x; kernel_rfl
theorem S_s_l16At : Sound Tryz.prog 77 F_s_l16At := sm MO cfg_ok tab_nil Tryz.func77 (by kernel_rfl) (by decide) (E_s_l16At)
abbrev p_s_RespOk : List PK := [.val true kResp false]
abbrev r_s_RespOk : List RK := [.val false .bool]
noncomputable def D_s_RespOk (f : Y_s_RespOk) : Nat × Fn := (78, ⟨p_s_RespOk, r_s_RespOk, fun x => f x.1⟩)
noncomputable def F_s_RespOk : Fn := (D_s_RespOk P_s_RespOk).2
theorem E_s_RespOk (f_s_l1In : Y_s_l1In) : ∀ x, (mkFn cfg [D_s_l1In f_s_l1In] (lookN []) 11 [.tmp 2] (Tryz.f78.body.getD .skip) p_s_RespOk r_s_RespOk).fn x = B_s_RespOk f_s_l1In x.1 := by intro x; kernel_rfl
theorem S_s_RespOk : Sound Tryz.prog 78 F_s_RespOk := sm MO cfg_ok (tc Tryz.call53 S_s_l1In tab_nil) Tryz.func78 (by kernel_rfl) (by decide) (E_s_RespOk P_s_l1In)
abbrev p_s_l1Text_r89_1 : List PK := [.val false (.int .i64) false]
abbrev r_s_l1Text_r89_1 : List RK := [.val false .str]
noncomputable def D_s_l1Text_r89_1 (f : Y_s_l1Text_r89_1) : Nat × Fn := (132, ⟨p_s_l1Text_r89_1, r_s_l1Text_r89_1, fun x => f x.1⟩)
noncomputable def F_s_l1Text_r89_1 : Fn := (D_s_l1Text_r89_1 P_s_l1Text_r89_1).2
theorem E_s_l1Text_r89_1 (f_s_l1Text_nil : Y_s_l1Text_nil) : ∀ x, (mkFn cfg [D_s_l1Text_nil f_s_l1Text_nil] (lookN []) 20 [.tmp 2] (Tryz.f132.body.getD .skip) p_s_l1Text_r89_1 r_s_l1Text_r89_1).fn x = B_s_l1Text_r89_1 f_s_l1Text_nil x.1 := by intro x; kernel_rfl
theorem S_s_l1Text_r89_1 : Sound Tryz.prog 132 F_s_l1Text_r89_1 := sm MO cfg_ok (tc Tryz.call132 S_s_l1Text_nil tab_nil) Tryz.func132 (by kernel_rfl) (by decide) (E_s_l1Text_r89_1 P_s_l1Text_nil)
abbrev p_s_l1Text_r89_2 : List PK := [.val false (.int .i64) false]
abbrev r_s_l1Text_r89_2 : List RK := [.val false .str]
noncomputable def D_s_l1Text_r89_2 (f : Y_s_l1Text_r89_2) : Nat × Fn := (132, ⟨p_s_l1Text_r89_2, r_s_l1Text_r89_2, fun x => f x.1⟩)
noncomputable def F_s_l1Text_r89_2 : Fn := (D_s_l1Text_r89_2 P_s_l1Text_r89_2).2
theorem E_s_l1Text_r89_2 (f_s_l1Text_r89_1 : Y_s_l1Text_r89_1) : ∀ x, (mkFn cfg [D_s_l1Text_r89_1 f_s_l1Text_r89_1] (lookN []) 20 [.tmp 2] (Tryz.f132.body.getD .skip) p_s_l1Text_r89_2 r_s_l1Text_r89_2).fn x = B_s_l1Text_r89_2 f_s_l1Text_r89_1 x.1 := by intro x; kernel_rfl
theorem S_s_l1Text_r89_2 : Sound Tryz.prog 132 F_s_l1Text_r89_2 := sm MO cfg_ok (tc Tryz.call132 S_s_l1Text_r89_1 tab_nil) Tryz.func132 (by kernel_rfl) (by decide) (E_s_l1Text_r89_2 P_s_l1Text_r89_1)
abbrev p_s_l1Text_r89_3 : List PK := [.val false (.int .i64) false]
abbrev r_s_l1Text_r89_3 : List RK := [.val false .str]
noncomputable def D_s_l1Text_r89_3 (f : Y_s_l1Text_r89_3) : Nat × Fn := (132, ⟨p_s_l1Text_r89_3, r_s_l1Text_r89_3, fun x => f x.1⟩)
noncomputable def F_s_l1Text_r89_3 : Fn := (D_s_l1Text_r89_3 P_s_l1Text_r89_3).2
theorem E_s_l1Text_r89_3 (f_s_l1Text_r89_2 : Y_s_l1Text_r89_2) : ∀ x, (mkFn cfg [D_s_l1Text_r89_2 f_s_l1Text_r89_2] (lookN []) 20 [.tmp 2] (Tryz.f132.body.getD .skip) p_s_l1Text_r89_3 r_s_l1Text_r89_3).fn x = B_s_l1Text_r89_3 f_s_l1Text_r89_2 x.1 := by intro x; kernel_rfl
theorem S_s_l1Text_r89_3 : Sound Tryz.prog 132 F_s_l1Text_r89_3 := sm MO cfg_ok (tc Tryz.call132 S_s_l1Text_r89_2 tab_nil) Tryz.func132 (by kernel_rfl) (by decide) (E_s_l1Text_r89_3 P_s_l1Text_r89_2)
abbrev p_s_l1Text_r89_4 : List PK := [.val false (.int .i64) false]
abbrev r_s_l1Text_r89_4 : List RK := [.val false .str]
noncomputable def D_s_l1Text_r89_4 (f : Y_s_l1Text_r89_4) : Nat × Fn := (132, ⟨p_s_l1Text_r89_4, r_s_l1Text_r89_4, fun x => f x.1⟩)
noncomputable def F_s_l1Text_r89_4 : Fn := (D_s_l1Text_r89_4 P_s_l1Text_r89_4).2
theorem E_s_l1Text_r89_4 (f_s_l1Text_r89_3 : Y_s_l1Text_r89_3) : ∀ x, (mkFn cfg [D_s_l1Text_r89_3 f_s_l1Text_r89_3] (lookN []) 20 [.tmp 2] (Tryz.f132.body.getD .skip) p_s_l1Text_r89_4 r_s_l1Text_r89_4).fn x = B_s_l1Text_r89_4 f_s_l1Text_r89_3 x.1 := by intro x; kernel_rfl
theorem S_s_l1Text_r89_4 : Sound Tryz.prog 132 F_s_l1Text_r89_4 := sm MO cfg_ok (tc Tryz.call132 S_s_l1Text_r89_3 tab_nil) Tryz.func132 (by kernel_rfl) (by decide) (E_s_l1Text_r89_4 P_s_l1Text_r89_3)
abbrev p_s_l1Text_r89_5 : List PK := [.val false (.int .i64) false]
abbrev r_s_l1Text_r89_5 : List RK := [.val false .str]
noncomputable def D_s_l1Text_r89_5 (f : Y_s_l1Text_r89_5) : Nat × Fn := (132, ⟨p_s_l1Text_r89_5, r_s_l1Text_r89_5, fun x => f x.1⟩)
noncomputable def F_s_l1Text_r89_5 : Fn := (D_s_l1Text_r89_5 P_s_l1Text_r89_5).2
theorem E_s_l1Text_r89_5 (f_s_l1Text_r89_4 : Y_s_l1Text_r89_4) : ∀ x, (mkFn cfg [D_s_l1Text_r89_4 f_s_l1Text_r89_4] (lookN []) 20 [.tmp 2] (Tryz.f132.body.getD .skip) p_s_l1Text_r89_5 r_s_l1Text_r89_5).fn x = B_s_l1Text_r89_5 f_s_l1Text_r89_4 x.1 := by intro x; kernel_rfl
theorem S_s_l1Text_r89_5 : Sound Tryz.prog 132 F_s_l1Text_r89_5 := sm MO cfg_ok (tc Tryz.call132 S_s_l1Text_r89_4 tab_nil) Tryz.func132 (by kernel_rfl) (by decide) (E_s_l1Text_r89_5 P_s_l1Text_r89_4)
abbrev p_s_l1Text_r89_6 : List PK := [.val false (.int .i64) false]
abbrev r_s_l1Text_r89_6 : List RK := [.val false .str]
noncomputable def D_s_l1Text_r89_6 (f : Y_s_l1Text_r89_6) : Nat × Fn := (132, ⟨p_s_l1Text_r89_6, r_s_l1Text_r89_6, fun x => f x.1⟩)
noncomputable def F_s_l1Text_r89_6 : Fn := (D_s_l1Text_r89_6 P_s_l1Text_r89_6).2
theorem E_s_l1Text_r89_6 (f_s_l1Text_r89_5 : Y_s_l1Text_r89_5) : ∀ x, (mkFn cfg [D_s_l1Text_r89_5 f_s_l1Text_r89_5] (lookN []) 20 [.tmp 2] (Tryz.f132.body.getD .skip) p_s_l1Text_r89_6 r_s_l1Text_r89_6).fn x = B_s_l1Text_r89_6 f_s_l1Text_r89_5 x.1 := by intro x; kernel_rfl
theorem S_s_l1Text_r89_6 : Sound Tryz.prog 132 F_s_l1Text_r89_6 := sm MO cfg_ok (tc Tryz.call132 S_s_l1Text_r89_5 tab_nil) Tryz.func132 (by kernel_rfl) (by decide) (E_s_l1Text_r89_6 P_s_l1Text_r89_5)
abbrev p_s_l1Text_r89_7 : List PK := [.val false (.int .i64) false]
abbrev r_s_l1Text_r89_7 : List RK := [.val false .str]
noncomputable def D_s_l1Text_r89_7 (f : Y_s_l1Text_r89_7) : Nat × Fn := (132, ⟨p_s_l1Text_r89_7, r_s_l1Text_r89_7, fun x => f x.1⟩)
noncomputable def F_s_l1Text_r89_7 : Fn := (D_s_l1Text_r89_7 P_s_l1Text_r89_7).2
theorem E_s_l1Text_r89_7 (f_s_l1Text_r89_6 : Y_s_l1Text_r89_6) : ∀ x, (mkFn cfg [D_s_l1Text_r89_6 f_s_l1Text_r89_6] (lookN []) 20 [.tmp 2] (Tryz.f132.body.getD .skip) p_s_l1Text_r89_7 r_s_l1Text_r89_7).fn x = B_s_l1Text_r89_7 f_s_l1Text_r89_6 x.1 := by intro x; kernel_rfl
theorem S_s_l1Text_r89_7 : Sound Tryz.prog 132 F_s_l1Text_r89_7 := sm MO cfg_ok (tc Tryz.call132 S_s_l1Text_r89_6 tab_nil) Tryz.func132 (by kernel_rfl) (by decide) (E_s_l1Text_r89_7 P_s_l1Text_r89_6)
abbrev p_s_l1Text_r89_8 : List PK := [.val false (.int .i64) false]
abbrev r_s_l1Text_r89_8 : List RK := [.val false .str]
noncomputable def D_s_l1Text_r89_8 (f : Y_s_l1Text_r89_8) : Nat × Fn := (132, ⟨p_s_l1Text_r89_8, r_s_l1Text_r89_8, fun x => f x.1⟩)
noncomputable def F_s_l1Text_r89_8 : Fn := (D_s_l1Text_r89_8 P_s_l1Text_r89_8).2
theorem E_s_l1Text_r89_8 (f_s_l1Text_r89_7 : Y_s_l1Text_r89_7) : ∀ x, (mkFn cfg [D_s_l1Text_r89_7 f_s_l1Text_r89_7] (lookN []) 20 [.tmp 2] (Tryz.f132.body.getD .skip) p_s_l1Text_r89_8 r_s_l1Text_r89_8).fn x = B_s_l1Text_r89_8 f_s_l1Text_r89_7 x.1 := by intro x; kernel_rfl
theorem S_s_l1Text_r89_8 : Sound Tryz.prog 132 F_s_l1Text_r89_8 := sm MO cfg_ok (tc Tryz.call132 S_s_l1Text_r89_7 tab_nil) Tryz.func132 (by kernel_rfl) (by decide) (E_s_l1Text_r89_8 P_s_l1Text_r89_7)
abbrev p_s_l1Text_r89_9 : List PK := [.val false (.int .i64) false]
abbrev r_s_l1Text_r89_9 : List RK := [.val false .str]
noncomputable def D_s_l1Text_r89_9 (f : Y_s_l1Text_r89_9) : Nat × Fn := (132, ⟨p_s_l1Text_r89_9, r_s_l1Text_r89_9, fun x => f x.1⟩)
noncomputable def F_s_l1Text_r89_9 : Fn := (D_s_l1Text_r89_9 P_s_l1Text_r89_9).2
theorem E_s_l1Text_r89_9 (f_s_l1Text_r89_8 : Y_s_l1Text_r89_8) : ∀ x, (mkFn cfg [D_s_l1Text_r89_8 f_s_l1Text_r89_8] (lookN []) 20 [.tmp 2] (Tryz.f132.body.getD .skip) p_s_l1Text_r89_9 r_s_l1Text_r89_9).fn x = B_s_l1Text_r89_9 f_s_l1Text_r89_8 x.1 := by intro x; kernel_rfl
theorem S_s_l1Text_r89_9 : Sound Tryz.prog 132 F_s_l1Text_r89_9 := sm MO cfg_ok (tc Tryz.call132 S_s_l1Text_r89_8 tab_nil) Tryz.func132 (by kernel_rfl) (by decide) (E_s_l1Text_r89_9 P_s_l1Text_r89_8)
abbrev p_s_l1Text : List PK := [.val false (.int .i64) false]
abbrev r_s_l1Text : List RK := [.val false .str]
noncomputable def D_s_l1Text (f : Y_s_l1Text) : Nat × Fn := (132, ⟨p_s_l1Text, r_s_l1Text, fun x => f x.1⟩)
noncomputable def F_s_l1Text : Fn := (D_s_l1Text P_s_l1Text).2
theorem E_s_l1Text (f_s_l1Text_r89_9 : Y_s_l1Text_r89_9) : ∀ x, (mkFn cfg [D_s_l1Text_r89_9 f_s_l1Text_r89_9] (lookN []) 20 [.tmp 2] (Tryz.f132.body.getD .skip) p_s_l1Text r_s_l1Text).fn x = B_s_l1Text f_s_l1Text_r89_9 x.1 := by intro x; kernel_rfl
theorem S_s_l1Text : Sound Tryz.prog 132 F_s_l1Text := sm MO cfg_ok (tc Tryz.call132 S_s_l1Text_r89_9 tab_nil) Tryz.func132 (by kernel_rfl) (by decide) (E_s_l1Text P_s_l1Text_r89_9)
abbrev p_s_RespFields : List PK := [.val true kResp false]
abbrev r_s_RespFields : List RK := [.val false (.sl 150 kField)]
noncomputable def D_s_RespFields (f : Y_s_RespFields) : Nat × Fn := (79, ⟨p_s_RespFields, r_s_RespFields, fun x => f x.1⟩)
noncomputable def F_s_RespFields : Fn := (D_s_RespFields P_s_RespFields).2
theorem E_s_RespFields (f_s_RespOk : Y_s_RespOk) (f_s_l1Text : Y_s_l1Text) : ∀ x, (mkFn cfg [D_s_RespOk f_s_RespOk, D_s_l1Text f_s_l1Text] (lookN []) 24 [.tmp 2] (Tryz.f79.body.getD .skip) p_s_RespFields r_s_RespFields).fn x = B_s_RespFields f_s_RespOk f_s_l1Text x.1 := by intro x; kernel_rfl
theorem S_s_RespFields : Sound Tryz.prog 79 F_s_RespFields := sm MO cfg_ok (tc Tryz.call78 S_s_RespOk (tc Tryz.call132 S_s_l1Text tab_nil)) Tryz.func79 (by kernel_rfl) (by decide) (E_s_RespFields P_s_RespOk P_s_l1Text)
def A_s_PutFields_r99_0 : Nat → Option Jn := lookN [(15, ⟨[.t 6 false [.own 100000000], .b 7 [.int .i64, .ro 150 kField], .r 100000000 5 (.int .u8)], lt 14 27 (lt 8 4 [.b 11, .r 12, .r 39, .r 61441, .r 143360]), true⟩), (122, ⟨[.t 6 false [.own 100000000], .t 8 false [.int .i64], .b 7 [.int .i64, .ro 150 kField], .r 100000000 5 (.int .u8)], lt 14 27 (lt 9 3 [.b 11, .r 12, .r 39, .r 61441, .r 143360]), false⟩), (3913, ⟨[.t 9 false [.int .i64]], lt 21 6 [], true⟩)]
abbrev p_s_PutFields_r99_0 : List PK := [.val true (.pair (.int .i64) (.rs 150 kField)) false, .val false (.rs 150 kField) false]
abbrev r_s_PutFields_r99_0 : List RK := [.val false (.sl 5 (.int .u8)), .val true (.pair (.int .i64) (.rs 150 kField))]
noncomputable def D_s_PutFields_r99_0 (f : Y_s_PutFields_r99_0) : Nat × Fn := (55, ⟨p_s_PutFields_r99_0, r_s_PutFields_r99_0, fun x => f x.1 x.2.1⟩)
noncomputable def F_s_PutFields_r99_0 : Fn := (D_s_PutFields_r99_0 P_s_PutFields_r99_0).2
theorem E_s_PutFields_r99_0 (f_s_l4Copy : Y_s_l4Copy) (f_s_PutField_r99_0 : Y_s_PutField_r99_0) : ∀ x, (mkFn cfg [D_s_l4Copy f_s_l4Copy, D_s_PutField_r99_0 f_s_PutField_r99_0] A_s_PutFields_r99_0 43 [.tmp 4, .cell 5 32] (Tryz.f55.body.getD .skip) p_s_PutFields_r99_0 r_s_PutFields_r99_0).fn x = B_s_PutFields_r99_0 f_s_l4Copy f_s_PutField_r99_0 x.1 x.2.1 := by intro x; kernel_rfl
theorem S_s_PutFields_r99_0 : Sound Tryz.prog 55 F_s_PutFields_r99_0 := sm MO cfg_ok (tc Tryz.call54 S_s_l4Copy (tc Tryz.call129 S_s_PutField_r99_0 tab_nil)) Tryz.func55 (by kernel_rfl) (by decide) (E_s_PutFields_r99_0 P_s_l4Copy P_s_PutField_r99_0)
abbrev p_w_toField : List PK := [.val true kField false]
abbrev r_w_toField : List RK := [.val true kField]
noncomputable def D_w_toField (f : Y_w_toField) : Nat × Fn := (135, ⟨p_w_toField, r_w_toField, fun x => f x.1⟩)
noncomputable def F_w_toField : Fn := (D_w_toField P_w_toField).2
theorem E_w_toField : ∀ x, (mkFn cfg [] (lookN []) 11 [.cell 2 150] (Tryz.f135.body.getD .skip) p_w_toField r_w_toField).fn x = B_w_toField x.1 := by intro x; kernel_rfl
theorem S_w_toField : Sound Tryz.prog 135 F_w_toField := sm MO cfg_ok tab_nil Tryz.func135 (by kernel_rfl) (by decide) (E_w_toField)
def A_w_toFieldS : Nat → Option Jn := lookN [(58, ⟨[.t 3 false [.own 7], .t 4 false [.int .i64], .r 7 150 kField], lt 8 14 [.x 21], false⟩)]
abbrev p_w_toFieldS : List PK := [.val false (.rs 161 kField) false]
abbrev r_w_toFieldS : List RK := [.val false (.sl 150 kField)]
noncomputable def D_w_toFieldS (f : Y_w_toFieldS) : Nat × Fn := (60, ⟨p_w_toFieldS, r_w_toFieldS, fun x => f x.1⟩)
noncomputable def F_w_toFieldS : Fn := (D_w_toFieldS P_w_toFieldS).2
theorem E_w_toFieldS (f_w_toField : Y_w_toField) : ∀ x, (mkFn cfg [D_w_toField f_w_toField] A_w_toFieldS 23 [.tmp 2] (Tryz.f60.body.getD .skip) p_w_toFieldS r_w_toFieldS).fn x = B_w_toFieldS f_w_toField x.1 := by intro x; kernel_rfl
theorem S_w_toFieldS : Sound Tryz.prog 60 F_w_toFieldS := sm MO cfg_ok (tc Tryz.call135 S_w_toField tab_nil) Tryz.func60 (by kernel_rfl) (by decide) (E_w_toFieldS P_w_toField)
abbrev p_w_toTable : List PK := [.val true (.pair (.int .i64) (.rs 161 kField)) false]
abbrev r_w_toTable : List RK := [.val true kTable]
noncomputable def D_w_toTable (f : Y_w_toTable) : Nat × Fn := (12, ⟨p_w_toTable, r_w_toTable, fun x => f x.1⟩)
noncomputable def F_w_toTable : Fn := (D_w_toTable P_w_toTable).2
theorem E_w_toTable (f_w_toFieldS : Y_w_toFieldS) : ∀ x, (mkFn cfg [D_w_toFieldS f_w_toFieldS] (lookN []) 12 [.cell 2 32] (Tryz.f12.body.getD .skip) p_w_toTable r_w_toTable).fn x = B_w_toTable f_w_toFieldS x.1 := by intro x; kernel_rfl
theorem S_w_toTable : Sound Tryz.prog 12 F_w_toTable := sm MO cfg_ok (tc Tryz.call60 S_w_toFieldS tab_nil) Tryz.func12 (by kernel_rfl) (by decide) (E_w_toTable P_w_toFieldS)
def A_w_toByteS : Nat → Option Jn := lookN [(58, ⟨[.t 3 false [.own 7], .t 4 false [.int .i64], .r 7 5 (.int .u8)], lt 8 13 [.x 20], false⟩)]
abbrev p_w_toByteS : List PK := [.val false (.rs 5 (.int .u8)) false]
abbrev r_w_toByteS : List RK := [.val false (.sl 5 (.int .u8))]
noncomputable def D_w_toByteS (f : Y_w_toByteS) : Nat × Fn := (14, ⟨p_w_toByteS, r_w_toByteS, fun x => f x.1⟩)
noncomputable def F_w_toByteS : Fn := (D_w_toByteS P_w_toByteS).2
theorem E_w_toByteS : ∀ x, (mkFn cfg [] A_w_toByteS 22 [.tmp 2] (Tryz.f14.body.getD .skip) p_w_toByteS r_w_toByteS).fn x = B_w_toByteS x.1 := by intro x; kernel_rfl
theorem S_w_toByteS : Sound Tryz.prog 14 F_w_toByteS := sm MO cfg_ok tab_nil Tryz.func14 (by kernel_rfl) (by decide) (E_w_toByteS)
abbrev p_w_toGather : List PK := [.val true (.pair (.int .i64) (.pair .bool (.rs 5 (.int .u8)))) false]
abbrev r_w_toGather : List RK := [.val true kGather]
noncomputable def D_w_toGather (f : Y_w_toGather) : Nat × Fn := (80, ⟨p_w_toGather, r_w_toGather, fun x => f x.1⟩)
noncomputable def F_w_toGather : Fn := (D_w_toGather P_w_toGather).2
theorem E_w_toGather (f_w_toByteS : Y_w_toByteS) : ∀ x, (mkFn cfg [D_w_toByteS f_w_toByteS] (lookN []) 15 [.cell 2 52] (Tryz.f80.body.getD .skip) p_w_toGather r_w_toGather).fn x = B_w_toGather f_w_toByteS x.1 := by intro x; kernel_rfl
theorem S_w_toGather : Sound Tryz.prog 80 F_w_toGather := sm MO cfg_ok (tc Tryz.call14 S_w_toByteS tab_nil) Tryz.func80 (by kernel_rfl) (by decide) (E_w_toGather P_w_toByteS)
abbrev p_w_toReq : List PK := [.val true kReq false]
abbrev r_w_toReq : List RK := [.val true kReq]
noncomputable def D_w_toReq (f : Y_w_toReq) : Nat × Fn := (13, ⟨p_w_toReq, r_w_toReq, fun x => f x.1⟩)
noncomputable def F_w_toReq : Fn := (D_w_toReq P_w_toReq).2
theorem E_w_toReq : ∀ x, (mkFn cfg [] (lookN []) 14 [.cell 2 36] (Tryz.f13.body.getD .skip) p_w_toReq r_w_toReq).fn x = B_w_toReq x.1 := by intro x; kernel_rfl
theorem S_w_toReq : Sound Tryz.prog 13 F_w_toReq := sm MO cfg_ok tab_nil Tryz.func13 (by kernel_rfl) (by decide) (E_w_toReq)
abbrev p_w_toStr : List PK := [.val true (.pair (.int .i64) (.pair (.int .i64) (.pair kReq (.rs 5 (.int .u8))))) false]
abbrev r_w_toStr : List RK := [.val true kStr]
noncomputable def D_w_toStr (f : Y_w_toStr) : Nat × Fn := (149, ⟨p_w_toStr, r_w_toStr, fun x => f x.1⟩)
noncomputable def F_w_toStr : Fn := (D_w_toStr P_w_toStr).2
theorem E_w_toStr (f_w_toReq : Y_w_toReq) (f_w_toByteS : Y_w_toByteS) : ∀ x, (mkFn cfg [D_w_toReq f_w_toReq, D_w_toByteS f_w_toByteS] (lookN []) 19 [.cell 2 113] (Tryz.f149.body.getD .skip) p_w_toStr r_w_toStr).fn x = B_w_toStr f_w_toReq f_w_toByteS x.1 := by intro x; kernel_rfl
theorem S_w_toStr : Sound Tryz.prog 149 F_w_toStr := sm MO cfg_ok (tc Tryz.call13 S_w_toReq (tc Tryz.call14 S_w_toByteS tab_nil)) Tryz.func149 (by kernel_rfl) (by decide) (E_w_toStr P_w_toReq P_w_toByteS)
def A_w_toStrS : Nat → Option Jn := lookN [(58, ⟨[.t 3 false [.own 7], .t 4 false [.int .i64], .r 7 113 kStr], lt 8 14 [.r 86021, .x 21], false⟩)]
abbrev p_w_toStrS : List PK := [.val false (.rs 180 kStr) false]
abbrev r_w_toStrS : List RK := [.val false (.sl 113 kStr)]
noncomputable def D_w_toStrS (f : Y_w_toStrS) : Nat × Fn := (81, ⟨p_w_toStrS, r_w_toStrS, fun x => f x.1⟩)
noncomputable def F_w_toStrS : Fn := (D_w_toStrS P_w_toStrS).2
theorem E_w_toStrS (f_w_toStr : Y_w_toStr) : ∀ x, (mkFn cfg [D_w_toStr f_w_toStr] A_w_toStrS 23 [.tmp 2] (Tryz.f81.body.getD .skip) p_w_toStrS r_w_toStrS).fn x = B_w_toStrS f_w_toStr x.1 := by intro x; kernel_rfl
theorem S_w_toStrS : Sound Tryz.prog 81 F_w_toStrS := sm MO cfg_ok (tc Tryz.call149 S_w_toStr tab_nil) Tryz.func81 (by kernel_rfl) (by decide) (E_w_toStrS P_w_toStr)
abbrev p_w_toConn : List PK := [.val true (.pair (.int .i64) (.pair (.rs 5 (.int .u8)) (.pair (.pair (.int .i64) (.pair .bool (.rs 5 (.int .u8)))) (.pair (.pair (.int .i64) (.rs 161 kField)) (.pair (.pair (.int .i64) (.rs 161 kField)) (.pair (.rs 180 kStr) kResp)))))) false]
abbrev r_w_toConn : List RK := [.val true kConn]
noncomputable def D_w_toConn (f : Y_w_toConn) : Nat × Fn := (24, ⟨p_w_toConn, r_w_toConn, fun x => f x.1⟩)
noncomputable def F_w_toConn : Fn := (D_w_toConn P_w_toConn).2
theorem E_w_toConn (f_w_toTable : Y_w_toTable) (f_w_toByteS : Y_w_toByteS) (f_w_toGather : Y_w_toGather) (f_w_toStrS : Y_w_toStrS) : ∀ x, (mkFn cfg [D_w_toTable f_w_toTable, D_w_toByteS f_w_toByteS, D_w_toGather f_w_toGather, D_w_toStrS f_w_toStrS] (lookN []) 34 [.cell 2 55] (Tryz.f24.body.getD .skip) p_w_toConn r_w_toConn).fn x = B_w_toConn f_w_toTable f_w_toByteS f_w_toGather f_w_toStrS x.1 := by intro x; kernel_rfl
theorem S_w_toConn : Sound Tryz.prog 24 F_w_toConn := sm MO cfg_ok (tc Tryz.call12 S_w_toTable (tc Tryz.call14 S_w_toByteS (tc Tryz.call80 S_w_toGather (tc Tryz.call81 S_w_toStrS tab_nil)))) Tryz.func24 (by kernel_rfl) (by decide) (E_w_toConn P_w_toTable P_w_toByteS P_w_toGather P_w_toStrS)
abbrev p_w_toResp : List PK := [.val true kResp false]
abbrev r_w_toResp : List RK := [.val true kResp]
noncomputable def D_w_toResp (f : Y_w_toResp) : Nat × Fn := (25, ⟨p_w_toResp, r_w_toResp, fun x => f x.1⟩)
noncomputable def F_w_toResp : Fn := (D_w_toResp P_w_toResp).2
theorem E_w_toResp : ∀ x, (mkFn cfg [] (lookN []) 11 [.cell 2 59] (Tryz.f25.body.getD .skip) p_w_toResp r_w_toResp).fn x = B_w_toResp x.1 := by intro x; kernel_rfl
theorem S_w_toResp : Sound Tryz.prog 25 F_w_toResp := sm MO cfg_ok tab_nil Tryz.func25 (by kernel_rfl) (by decide) (E_w_toResp)
abbrev p_i_inRange : List PK := [.val false (.int .i64) false, .val false (.int .i64) false, .val false (.int .i64) false]
abbrev r_i_inRange : List RK := [.val false .bool]
noncomputable def D_i_inRange (f : Y_i_inRange) : Nat × Fn := (61, ⟨p_i_inRange, r_i_inRange, fun x => f x.1 x.2.1 x.2.2.1⟩)
noncomputable def F_i_inRange : Fn := (D_i_inRange P_i_inRange).2
theorem E_i_inRange : ∀ x, (mkFn cfg [] (lookN []) 15 [.tmp 6] (Tryz.f61.body.getD .skip) p_i_inRange r_i_inRange).fn x = B_i_inRange x.1 x.2.1 x.2.2.1 := by intro x; kernel_rfl
theorem S_i_inRange : Sound Tryz.prog 61 F_i_inRange := sm MO cfg_ok tab_nil Tryz.func61 (by kernel_rfl) (by decide) (E_i_inRange)
abbrev p_i_sizeOf : List PK := [.val true kField false]
abbrev r_i_sizeOf : List RK := [.val false (.int .i64)]
noncomputable def D_i_sizeOf (f : Y_i_sizeOf) : Nat × Fn := (179, ⟨p_i_sizeOf, r_i_sizeOf, fun x => f x.1⟩)
noncomputable def F_i_sizeOf : Fn := (D_i_sizeOf P_i_sizeOf).2
theorem E_i_sizeOf : ∀ x, (mkFn cfg [] (lookN []) 11 [.tmp 2] (Tryz.f179.body.getD .skip) p_i_sizeOf r_i_sizeOf).fn x = B_i_sizeOf x.1 := by intro x; kernel_rfl
theorem S_i_sizeOf : Sound Tryz.prog 179 F_i_sizeOf := sm MO cfg_ok tab_nil Tryz.func179 (by kernel_rfl) (by decide) (E_i_sizeOf)
def A_i_SizeOf : Nat → Option Jn := lookN [(58, ⟨[.t 3 false [.int .i64], .t 9 false [.int .i64]], lt 10 8 [.b 5, .t 5], false⟩)]
abbrev p_i_SizeOf : List PK := [.val true (.pair (.int .i64) (.rs 150 kField)) false]
abbrev r_i_SizeOf : List RK := [.val false (.int .i64)]
noncomputable def D_i_SizeOf (f : Y_i_SizeOf) : Nat × Fn := (138, ⟨p_i_SizeOf, r_i_SizeOf, fun x => f x.1⟩)
noncomputable def F_i_SizeOf : Fn := (D_i_SizeOf P_i_SizeOf).2
theorem E_i_SizeOf (f_i_sizeOf : Y_i_sizeOf) : ∀ x, (mkFn cfg [D_i_sizeOf f_i_sizeOf] A_i_SizeOf 19 [.tmp 2] (Tryz.f138.body.getD .skip) p_i_SizeOf r_i_SizeOf).fn x = B_i_SizeOf f_i_sizeOf x.1 := by intro x; kernel_rfl
theorem S_i_SizeOf : Sound Tryz.prog 138 F_i_SizeOf := sm MO cfg_ok (tc Tryz.call179 S_i_sizeOf tab_nil) Tryz.func138 (by kernel_rfl) (by decide) (E_i_SizeOf P_i_sizeOf)
abbrev p_i_TableOk : List PK := [.val true (.pair (.int .i64) (.rs 150 kField)) false]
abbrev r_i_TableOk : List RK := [.val false .bool]
noncomputable def D_i_TableOk (f : Y_i_TableOk) : Nat × Fn := (63, ⟨p_i_TableOk, r_i_TableOk, fun x => f x.1⟩)
noncomputable def F_i_TableOk : Fn := (D_i_TableOk P_i_TableOk).2
theorem E_i_TableOk (f_i_inRange : Y_i_inRange) (f_i_SizeOf : Y_i_SizeOf) : ∀ x, (mkFn cfg [D_i_inRange f_i_inRange, D_i_SizeOf f_i_SizeOf] (lookN []) 13 [.tmp 2] (Tryz.f63.body.getD .skip) p_i_TableOk r_i_TableOk).fn x = B_i_TableOk f_i_inRange f_i_SizeOf x.1 := by intro x; kernel_rfl
theorem S_i_TableOk : Sound Tryz.prog 63 F_i_TableOk := sm MO cfg_ok (tc Tryz.call61 S_i_inRange (tc Tryz.call138 S_i_SizeOf tab_nil)) Tryz.func63 (by kernel_rfl) (by decide) (E_i_TableOk P_i_inRange P_i_SizeOf)
abbrev p_slices_Clone_byte_byte : List PK := [.val false (.rs 5 (.int .u8)) false]
abbrev r_slices_Clone_byte_byte : List RK := [.val false (.sl 5 (.int .u8))]
noncomputable def D_slices_Clone_byte_byte (f : Y_slices_Clone_byte_byte) : Nat × Fn := (144, ⟨p_slices_Clone_byte_byte, r_slices_Clone_byte_byte, fun x => f x.1⟩)
noncomputable def F_slices_Clone_byte_byte : Fn := (D_slices_Clone_byte_byte P_slices_Clone_byte_byte).2
theorem E_slices_Clone_byte_byte : ∀ x, (mkFn cfg [] (lookN []) 8 [.tmp 2] (Tryz.f144.body.getD .skip) p_slices_Clone_byte_byte r_slices_Clone_byte_byte).fn x = B_slices_Clone_byte_byte x.1 := by intro x; kernel_rfl
theorem S_slices_Clone_byte_byte : Sound Tryz.prog 144 F_slices_Clone_byte_byte := sm MO cfg_ok tab_nil Tryz.func144 (by kernel_rfl) (by decide) (E_slices_Clone_byte_byte)
def A_i_GetBig : Nat → Option Jn := lookN [(3, ⟨[], lt 11 15 [], false⟩), (15, ⟨[.t 8 false [.int .i64]], lt 26 17 [.t 10], true⟩), (122, ⟨[.t 8 false [.int .i64], .t 33 false [.int .i64]], lt 34 9 [.t 10], false⟩)]
abbrev p_i_GetBig : List PK := [.val false (.rs 5 (.int .u8)) false, .val false (.int .i64) false, .val false (.int .i64) false]
abbrev r_i_GetBig : List RK := [.val false (.int .i64), .val false .bool]
noncomputable def D_i_GetBig (f : Y_i_GetBig) : Nat × Fn := (155, ⟨p_i_GetBig, r_i_GetBig, fun x => f x.1 x.2.1 x.2.2.1⟩)
noncomputable def F_i_GetBig : Fn := (D_i_GetBig P_i_GetBig).2
theorem E_i_GetBig (f_i_inRange : Y_i_inRange) : ∀ x, (mkFn cfg [D_i_inRange f_i_inRange] A_i_GetBig 44 [.tmp 6, .tmp 7] (Tryz.f155.body.getD .skip) p_i_GetBig r_i_GetBig).fn x = B_i_GetBig f_i_inRange x.1 x.2.1 x.2.2.1 := by intro x; kernel_rfl
theorem S_i_GetBig : Sound Tryz.prog 155 F_i_GetBig := sm MO cfg_ok (tc Tryz.call61 S_i_inRange tab_nil) Tryz.func155 (by kernel_rfl) (by decide) (E_i_GetBig P_i_inRange)
def A_i_GetFrame : Nat → Option Jn := lookN [(3, ⟨[], lt 13 9 [], false⟩)]
abbrev p_i_GetFrame : List PK := [.val false (.rs 5 (.int .u8)) false, .val false (.int .i64) false]
abbrev r_i_GetFrame : List RK := [.val true kFrame, .val false (.int .i64), .val false (.int .i64)]
noncomputable def D_i_GetFrame (f : Y_i_GetFrame) : Nat × Fn := (103, ⟨p_i_GetFrame, r_i_GetFrame, fun x => f x.1 x.2.1⟩)
noncomputable def F_i_GetFrame : Fn := (D_i_GetFrame P_i_GetFrame).2
theorem E_i_GetFrame (f_slices_Clone_byte_byte : Y_slices_Clone_byte_byte) (f_i_GetBig : Y_i_GetBig) : ∀ x, (mkFn cfg [D_slices_Clone_byte_byte f_slices_Clone_byte_byte, D_i_GetBig f_i_GetBig] A_i_GetFrame 80 [.cell 4 82, .tmp 5, .tmp 6] (Tryz.f103.body.getD .skip) p_i_GetFrame r_i_GetFrame).fn x = B_i_GetFrame f_slices_Clone_byte_byte f_i_GetBig x.1 x.2.1 := by intro x; kernel_rfl
theorem S_i_GetFrame : Sound Tryz.prog 103 F_i_GetFrame := sm MO cfg_ok (tc Tryz.call144 S_slices_Clone_byte_byte (tc Tryz.call155 S_i_GetBig tab_nil)) Tryz.func103 (by kernel_rfl) (by decide) (E_i_GetFrame P_slices_Clone_byte_byte P_i_GetBig)
abbrev p_i_GatherOk : List PK := [.val true (.pair (.int .i64) (.pair .bool (.rs 5 (.int .u8)))) false]
abbrev r_i_GatherOk : List RK := [.val false .bool]
noncomputable def D_i_GatherOk (f : Y_i_GatherOk) : Nat × Fn := (104, ⟨p_i_GatherOk, r_i_GatherOk, fun x => f x.1⟩)
noncomputable def F_i_GatherOk : Fn := (D_i_GatherOk P_i_GatherOk).2
theorem E_i_GatherOk (f_i_inRange : Y_i_inRange) : ∀ x, (mkFn cfg [D_i_inRange f_i_inRange] (lookN []) 24 [.tmp 2] (Tryz.f104.body.getD .skip) p_i_GatherOk r_i_GatherOk).fn x = B_i_GatherOk f_i_inRange x.1 := by intro x; kernel_rfl
theorem S_i_GatherOk : Sound Tryz.prog 104 F_i_GatherOk := sm MO cfg_ok (tc Tryz.call61 S_i_inRange tab_nil) Tryz.func104 (by kernel_rfl) (by decide) (E_i_GatherOk P_i_inRange)
def A_i_strsOk : Nat → Option Jn := lookN [(3, ⟨[], lt 3 53 [.b 4], false⟩), (26, ⟨[.t 8 false [.int .i64]], lt 9 47 [.b 4, .t 3, .t 4], false⟩), (1689, ⟨[], lt 13 28 [], false⟩)]
abbrev p_i_strsOk : List PK := [.val true (.pair (.int .i64) (.pair (.rs 5 (.int .u8)) (.pair (.pair (.int .i64) (.pair .bool (.rs 5 (.int .u8)))) (.pair (.pair (.int .i64) (.rs 150 kField)) (.pair (.pair (.int .i64) (.rs 150 kField)) (.pair (.rs 113 kStr) kResp)))))) false]
abbrev r_i_strsOk : List RK := [.val false .bool]
noncomputable def D_i_strsOk (f : Y_i_strsOk) : Nat × Fn := (116, ⟨p_i_strsOk, r_i_strsOk, fun x => f x.1⟩)
noncomputable def F_i_strsOk : Fn := (D_i_strsOk P_i_strsOk).2
theorem E_i_strsOk (f_i_inRange : Y_i_inRange) : ∀ x, (mkFn cfg [D_i_inRange f_i_inRange] A_i_strsOk 60 [.tmp 2] (Tryz.f116.body.getD .skip) p_i_strsOk r_i_strsOk).fn x = B_i_strsOk f_i_inRange x.1 := by intro x; kernel_rfl
theorem S_i_strsOk : Sound Tryz.prog 116 F_i_strsOk := sm MO cfg_ok (tc Tryz.call61 S_i_inRange tab_nil) Tryz.func116 (by kernel_rfl) (by decide) (E_i_strsOk P_i_inRange)
end Go.Proofs.YthnfghmjipikhaaGreatDoor.Ev
