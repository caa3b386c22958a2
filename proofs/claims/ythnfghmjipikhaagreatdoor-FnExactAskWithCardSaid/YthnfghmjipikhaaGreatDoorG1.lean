/- Each function of the program does what its plain function says. -/
import Derived.Test.YthnfghmjipikhaaGreatDoorTy
import Derived.Test.YthnfghmjipikhaaGreatDoorPu
import Derived.Test.YthnfghmjipikhaaGreatDoorIns
import Derived.Test.YthnfghmjipikhaaGreatDoorLibT
import Derived.Test.YthnfghmjipikhaaGreatDoorChunk
set_option linter.unusedVariables false
set_option maxRecDepth 100000
namespace Go.Proofs.YthnfghmjipikhaaGreatDoor.Ev
abbrev p_s_l1Text_nil : List PK := [.val false (.int .i64) false]
abbrev r_s_l1Text_nil : List RK := [.val false .str]
noncomputable def D_s_l1Text_nil (f : Y_s_l1Text_nil) : Nat × Fn := (132, ⟨p_s_l1Text_nil, r_s_l1Text_nil, fun x => f x.1⟩)
noncomputable def F_s_l1Text_nil : Fn := (D_s_l1Text_nil P_s_l1Text_nil).2
theorem S_s_l1Text_nil : Sound Tryz.prog 132 F_s_l1Text_nil := fun x y h => by cases h
abbrev p_slices_Insert_impl_Field_impl_Field : List PK := [.val false (.sl 150 kField) false, .val false (.int .i64) false, .val false (.sl 150 kField) false]
abbrev r_slices_Insert_impl_Field_impl_Field : List RK := [.val false (.sl 150 kField)]
noncomputable def D_slices_Insert_impl_Field_impl_Field (f : Y_slices_Insert_impl_Field_impl_Field) : Nat × Fn := (194, ⟨p_slices_Insert_impl_Field_impl_Field, r_slices_Insert_impl_Field_impl_Field, fun x => f x.1 x.2.1 x.2.2.1⟩)
noncomputable def F_slices_Insert_impl_Field_impl_Field : Fn := (D_slices_Insert_impl_Field_impl_Field P_slices_Insert_impl_Field_impl_Field).2
theorem S_slices_Insert_impl_Field_impl_Field : Sound Tryz.prog 194 F_slices_Insert_impl_Field_impl_Field := insert_sound_Field kField (by decide)
abbrev p_slices_Grow_impl_Field_impl_Field : List PK := [.val false (.sl 150 kField) false, .val false (.int .i64) false]
abbrev r_slices_Grow_impl_Field_impl_Field : List RK := [.val false (.sl 150 kField)]
noncomputable def D_slices_Grow_impl_Field_impl_Field (f : Y_slices_Grow_impl_Field_impl_Field) : Nat × Fn := (230, ⟨p_slices_Grow_impl_Field_impl_Field, r_slices_Grow_impl_Field_impl_Field, fun x => f x.1 x.2.1⟩)
noncomputable def F_slices_Grow_impl_Field_impl_Field : Fn := (D_slices_Grow_impl_Field_impl_Field P_slices_Grow_impl_Field_impl_Field).2
theorem S_slices_Grow_impl_Field_impl_Field : Sound Tryz.prog 230 F_slices_Grow_impl_Field_impl_Field := grow_sound_Field
abbrev p_strings_Split : List PK := [.val false .str false, .val false .str false]
abbrev r_strings_Split : List RK := [.val false (.sl 9 .str)]
noncomputable def D_strings_Split (f : Y_strings_Split) : Nat × Fn := (231, ⟨p_strings_Split, r_strings_Split, fun x => f x.1 x.2.1⟩)
noncomputable def F_strings_Split : Fn := (D_strings_Split P_strings_Split).2
theorem S_strings_Split : Sound Tryz.prog 231 F_strings_Split := split_sound
abbrev p_strings_Cut : List PK := [.val false .str false, .val false .str false]
abbrev r_strings_Cut : List RK := [.val false .str, .val false .str, .val false .bool]
noncomputable def D_strings_Cut (f : Y_strings_Cut) : Nat × Fn := (232, ⟨p_strings_Cut, r_strings_Cut, fun x => f x.1 x.2.1⟩)
noncomputable def F_strings_Cut : Fn := (D_strings_Cut P_strings_Cut).2
theorem S_strings_Cut : Sound Tryz.prog 232 F_strings_Cut := cut_sound
abbrev p_strconv_Atoi : List PK := [.val false .str false]
abbrev r_strconv_Atoi : List RK := [.val false (.int .i64), .val false (.fnc 999999999)]
noncomputable def D_strconv_Atoi (f : Y_strconv_Atoi) : Nat × Fn := (233, ⟨p_strconv_Atoi, r_strconv_Atoi, fun x => f x.1⟩)
noncomputable def F_strconv_Atoi : Fn := (D_strconv_Atoi P_strconv_Atoi).2
theorem S_strconv_Atoi : Sound Tryz.prog 233 F_strconv_Atoi := atoi_sound
abbrev p_strconv_Itoa : List PK := [.val false (.int .i64) false]
abbrev r_strconv_Itoa : List RK := [.val false .str]
noncomputable def D_strconv_Itoa (f : Y_strconv_Itoa) : Nat × Fn := (142, ⟨p_strconv_Itoa, r_strconv_Itoa, fun x => f x.1⟩)
noncomputable def F_strconv_Itoa : Fn := (D_strconv_Itoa P_strconv_Itoa).2
theorem S_strconv_Itoa : Sound Tryz.prog 142 F_strconv_Itoa := itoa_sound
abbrev p_w_szField : List PK := [.val true kField false, .val false (.int .i64) false]
abbrev r_w_szField : List RK := [.val false (.int .i64)]
noncomputable def D_w_szField (f : Y_w_szField) : Nat × Fn := (125, ⟨p_w_szField, r_w_szField, fun x => f x.1 x.2.1⟩)
noncomputable def F_w_szField : Fn := (D_w_szField P_w_szField).2
theorem E_w_szField : ∀ x, (mkFn cfg [] (lookN []) 20 [.tmp 4] (Tryz.f125.body.getD .skip) p_w_szField r_w_szField).fn x = B_w_szField x.1 x.2.1 := by intro x; kernel_rfl
theorem S_w_szField : Sound Tryz.prog 125 F_w_szField := sm MO cfg_ok tab_nil Tryz.func125 (by kernel_rfl) (by decide) (E_w_szField)
def A_w_szFieldS : Nat → Option Jn := lookN [(122, ⟨[.t 1 false [.int .i64], .t 5 false [.int .i64]], lt 12 14 [], false⟩)]
abbrev p_w_szFieldS : List PK := [.val false (.rs 161 kField) false, .val false (.int .i64) false]
abbrev r_w_szFieldS : List RK := [.val false (.int .i64)]
noncomputable def D_w_szFieldS (f : Y_w_szFieldS) : Nat × Fn := (50, ⟨p_w_szFieldS, r_w_szFieldS, fun x => f x.1 x.2.1⟩)
noncomputable def F_w_szFieldS : Fn := (D_w_szFieldS P_w_szFieldS).2
theorem E_w_szFieldS (f_w_szField : Y_w_szField) : ∀ x, (mkFn cfg [D_w_szField f_w_szField] A_w_szFieldS 27 [.tmp 4] (Tryz.f50.body.getD .skip) p_w_szFieldS r_w_szFieldS).fn x = B_w_szFieldS f_w_szField x.1 x.2.1 := by intro x; kernel_rfl
theorem S_w_szFieldS : Sound Tryz.prog 50 F_w_szFieldS := sm MO cfg_ok (tc Tryz.call125 S_w_szField tab_nil) Tryz.func50 (by kernel_rfl) (by decide) (E_w_szFieldS P_w_szField)
abbrev p_w_szTable : List PK := [.val true (.pair (.int .i64) (.rs 161 kField)) false, .val false (.int .i64) false]
abbrev r_w_szTable : List RK := [.val false (.int .i64)]
noncomputable def D_w_szTable (f : Y_w_szTable) : Nat × Fn := (9, ⟨p_w_szTable, r_w_szTable, fun x => f x.1 x.2.1⟩)
noncomputable def F_w_szTable : Fn := (D_w_szTable P_w_szTable).2
theorem E_w_szTable (f_w_szFieldS : Y_w_szFieldS) : ∀ x, (mkFn cfg [D_w_szFieldS f_w_szFieldS] (lookN []) 12 [.tmp 4] (Tryz.f9.body.getD .skip) p_w_szTable r_w_szTable).fn x = B_w_szTable f_w_szFieldS x.1 x.2.1 := by intro x; kernel_rfl
theorem S_w_szTable : Sound Tryz.prog 9 F_w_szTable := sm MO cfg_ok (tc Tryz.call50 S_w_szFieldS tab_nil) Tryz.func9 (by kernel_rfl) (by decide) (E_w_szTable P_w_szFieldS)
abbrev p_w_szReq : List PK := [.val true kReq false, .val false (.int .i64) false]
abbrev r_w_szReq : List RK := [.val false (.int .i64)]
noncomputable def D_w_szReq (f : Y_w_szReq) : Nat × Fn := (10, ⟨p_w_szReq, r_w_szReq, fun x => f x.1 x.2.1⟩)
noncomputable def F_w_szReq : Fn := (D_w_szReq P_w_szReq).2
theorem E_w_szReq : ∀ x, (mkFn cfg [] (lookN []) 13 [.tmp 4] (Tryz.f10.body.getD .skip) p_w_szReq r_w_szReq).fn x = B_w_szReq x.1 x.2.1 := by intro x; kernel_rfl
theorem S_w_szReq : Sound Tryz.prog 10 F_w_szReq := sm MO cfg_ok tab_nil Tryz.func10 (by kernel_rfl) (by decide) (E_w_szReq)
abbrev p_s_l1In : List PK := [.val false (.int .i64) false, .val false (.int .i64) false, .val false (.int .i64) false]
abbrev r_s_l1In : List RK := [.val false .bool]
noncomputable def D_s_l1In (f : Y_s_l1In) : Nat × Fn := (53, ⟨p_s_l1In, r_s_l1In, fun x => f x.1 x.2.1 x.2.2.1⟩)
noncomputable def F_s_l1In : Fn := (D_s_l1In P_s_l1In).2
theorem E_s_l1In : ∀ x, (mkFn cfg [] (lookN []) 15 [.tmp 6] (Tryz.f53.body.getD .skip) p_s_l1In r_s_l1In).fn x = B_s_l1In x.1 x.2.1 x.2.2.1 := by intro x; kernel_rfl
theorem S_s_l1In : Sound Tryz.prog 53 F_s_l1In := sm MO cfg_ok tab_nil Tryz.func53 (by kernel_rfl) (by decide) (E_s_l1In)
abbrev p_s_l4Of : List PK := [.val true kField false]
abbrev r_s_l4Of : List RK := [.val false (.int .i64)]
noncomputable def D_s_l4Of (f : Y_s_l4Of) : Nat × Fn := (173, ⟨p_s_l4Of, r_s_l4Of, fun x => f x.1⟩)
noncomputable def F_s_l4Of : Fn := (D_s_l4Of P_s_l4Of).2
theorem E_s_l4Of : ∀ x, (mkFn cfg [] (lookN []) 11 [.tmp 2] (Tryz.f173.body.getD .skip) p_s_l4Of r_s_l4Of).fn x = B_s_l4Of x.1 := by intro x; kernel_rfl
theorem S_s_l4Of : Sound Tryz.prog 173 F_s_l4Of := sm MO cfg_ok tab_nil Tryz.func173 (by kernel_rfl) (by decide) (E_s_l4Of)
def A_s_SizeOf : Nat → Option Jn := lookN [(58, ⟨[.t 3 false [.int .i64], .t 4 false [.int .i64]], lt 5 15 [], false⟩)]
abbrev p_s_SizeOf : List PK := [.val true (.pair (.int .i64) (.rs 150 kField)) false]
abbrev r_s_SizeOf : List RK := [.val false (.int .i64)]
noncomputable def D_s_SizeOf (f : Y_s_SizeOf) : Nat × Fn := (126, ⟨p_s_SizeOf, r_s_SizeOf, fun x => f x.1⟩)
noncomputable def F_s_SizeOf : Fn := (D_s_SizeOf P_s_SizeOf).2
theorem E_s_SizeOf (f_s_l4Of : Y_s_l4Of) : ∀ x, (mkFn cfg [D_s_l4Of f_s_l4Of] A_s_SizeOf 21 [.tmp 2] (Tryz.f126.body.getD .skip) p_s_SizeOf r_s_SizeOf).fn x = B_s_SizeOf f_s_l4Of x.1 := by intro x; kernel_rfl
theorem S_s_SizeOf : Sound Tryz.prog 126 F_s_SizeOf := sm MO cfg_ok (tc Tryz.call173 S_s_l4Of tab_nil) Tryz.func126 (by kernel_rfl) (by decide) (E_s_SizeOf P_s_l4Of)
abbrev p_s_TableOk : List PK := [.val true (.pair (.int .i64) (.rs 150 kField)) false]
abbrev r_s_TableOk : List RK := [.val false .bool]
noncomputable def D_s_TableOk (f : Y_s_TableOk) : Nat × Fn := (51, ⟨p_s_TableOk, r_s_TableOk, fun x => f x.1⟩)
noncomputable def F_s_TableOk : Fn := (D_s_TableOk P_s_TableOk).2
theorem E_s_TableOk (f_s_l1In : Y_s_l1In) (f_s_SizeOf : Y_s_SizeOf) : ∀ x, (mkFn cfg [D_s_l1In f_s_l1In, D_s_SizeOf f_s_SizeOf] (lookN []) 13 [.tmp 2] (Tryz.f51.body.getD .skip) p_s_TableOk r_s_TableOk).fn x = B_s_TableOk f_s_l1In f_s_SizeOf x.1 := by intro x; kernel_rfl
theorem S_s_TableOk : Sound Tryz.prog 51 F_s_TableOk := sm MO cfg_ok (tc Tryz.call53 S_s_l1In (tc Tryz.call126 S_s_SizeOf tab_nil)) Tryz.func51 (by kernel_rfl) (by decide) (E_s_TableOk P_s_l1In P_s_SizeOf)
def A_s_l11Id : Nat → Option Jn := lookN [(3, ⟨[], lt 3 21 [], false⟩), (26, ⟨[.t 3 false [.int .i64]], lt 4 20 [], false⟩)]
abbrev p_s_l11Id : List PK := [.val false .str false]
abbrev r_s_l11Id : List RK := [.val false .bool]
noncomputable def D_s_l11Id (f : Y_s_l11Id) : Nat × Fn := (127, ⟨p_s_l11Id, r_s_l11Id, fun x => f x.1⟩)
noncomputable def F_s_l11Id : Fn := (D_s_l11Id P_s_l11Id).2
theorem E_s_l11Id (f_s_l1In : Y_s_l1In) : ∀ x, (mkFn cfg [D_s_l1In f_s_l1In] A_s_l11Id 27 [.tmp 2] (Tryz.f127.body.getD .skip) p_s_l11Id r_s_l11Id).fn x = B_s_l11Id f_s_l1In x.1 := by intro x; kernel_rfl
theorem S_s_l11Id : Sound Tryz.prog 127 F_s_l11Id := sm MO cfg_ok (tc Tryz.call53 S_s_l1In tab_nil) Tryz.func127 (by kernel_rfl) (by decide) (E_s_l11Id P_s_l1In)
abbrev p_s_l11Most : List PK := [.val false (.int .i64) false]
abbrev r_s_l11Most : List RK := [.val false (.int .i64)]
noncomputable def D_s_l11Most (f : Y_s_l11Most) : Nat × Fn := (128, ⟨p_s_l11Most, r_s_l11Most, fun x => f x.1⟩)
noncomputable def F_s_l11Most : Fn := (D_s_l11Most P_s_l11Most).2
theorem E_s_l11Most : ∀ x, (mkFn cfg [] (lookN []) 9 [.tmp 2] (Tryz.f128.body.getD .skip) p_s_l11Most r_s_l11Most).fn x = B_s_l11Most x.1 := by intro x; kernel_rfl
theorem S_s_l11Most : Sound Tryz.prog 128 F_s_l11Most := sm MO cfg_ok tab_nil Tryz.func128 (by kernel_rfl) (by decide) (E_s_l11Most)
def A_s_ReqOk : Nat → Option Jn := lookN [(3, ⟨[], lt 4 10 [], false⟩)]
abbrev p_s_ReqOk : List PK := [.val true kReq false]
abbrev r_s_ReqOk : List RK := [.val false .bool]
noncomputable def D_s_ReqOk (f : Y_s_ReqOk) : Nat × Fn := (52, ⟨p_s_ReqOk, r_s_ReqOk, fun x => f x.1⟩)
noncomputable def F_s_ReqOk : Fn := (D_s_ReqOk P_s_ReqOk).2
theorem E_s_ReqOk (f_s_l1In : Y_s_l1In) (f_s_l11Id : Y_s_l11Id) (f_s_l11Most : Y_s_l11Most) : ∀ x, (mkFn cfg [D_s_l1In f_s_l1In, D_s_l11Id f_s_l11Id, D_s_l11Most f_s_l11Most] A_s_ReqOk 26 [.tmp 2] (Tryz.f52.body.getD .skip) p_s_ReqOk r_s_ReqOk).fn x = B_s_ReqOk f_s_l1In f_s_l11Id f_s_l11Most x.1 := by intro x; kernel_rfl
theorem S_s_ReqOk : Sound Tryz.prog 52 F_s_ReqOk := sm MO cfg_ok (tc Tryz.call53 S_s_l1In (tc Tryz.call127 S_s_l11Id (tc Tryz.call128 S_s_l11Most tab_nil))) Tryz.func52 (by kernel_rfl) (by decide) (E_s_ReqOk P_s_l1In P_s_l11Id P_s_l11Most)
abbrev p_s_l4Copy : List PK := [.val true (.pair (.int .i64) (.rs 150 kField)) false]
abbrev r_s_l4Copy : List RK := [.val true kTable]
noncomputable def D_s_l4Copy (f : Y_s_l4Copy) : Nat × Fn := (54, ⟨p_s_l4Copy, r_s_l4Copy, fun x => f x.1⟩)
noncomputable def F_s_l4Copy : Fn := (D_s_l4Copy P_s_l4Copy).2
theorem E_s_l4Copy : ∀ x, (mkFn cfg [] (lookN []) 10 [.cell 2 32] (Tryz.f54.body.getD .skip) p_s_l4Copy r_s_l4Copy).fn x = B_s_l4Copy x.1 := by intro x; kernel_rfl
theorem S_s_l4Copy : Sound Tryz.prog 54 F_s_l4Copy := sm MO cfg_ok tab_nil Tryz.func54 (by kernel_rfl) (by decide) (E_s_l4Copy)
abbrev p_s_l4First : List PK := []
abbrev r_s_l4First : List RK := [.val false (.sl 150 kField)]
noncomputable def D_s_l4First (f : Y_s_l4First) : Nat × Fn := (205, ⟨p_s_l4First, r_s_l4First, fun x => f⟩)
noncomputable def F_s_l4First : Fn := (D_s_l4First P_s_l4First).2
theorem E_s_l4First : ∀ x, (mkFn cfg [] (lookN []) 63 [.tmp 0] (Tryz.f205.body.getD .skip) p_s_l4First r_s_l4First).fn x = B_s_l4First := by intro x; kernel_rfl
theorem S_s_l4First : Sound Tryz.prog 205 F_s_l4First := sm MO cfg_ok tab_nil Tryz.func205 (by kernel_rfl) (by decide) (E_s_l4First)
def A_s_FindField : Nat → Option Jn := lookN [(15, ⟨[.t 7 false [.int .i64]], lt 37 10 (lt 11 25 [.b 9, .t 8, .t 9, .x 25]), false⟩), (122, ⟨[.t 7 false [.int .i64], .t 8 false [.int .i64]], lt 37 10 (lt 11 25 [.b 9, .t 9, .x 25]), false⟩), (3913, ⟨[.b 9 [.str, .str]], lt 20 13 [.x 25], true⟩)]
abbrev p_s_FindField : List PK := [.val true (.pair (.int .i64) (.rs 150 kField)) false, .val true kField false]
abbrev r_s_FindField : List RK := [.val false (.int .i64), .val false .bool]
noncomputable def D_s_FindField (f : Y_s_FindField) : Nat × Fn := (174, ⟨p_s_FindField, r_s_FindField, fun x => f x.1 x.2.1⟩)
noncomputable def F_s_FindField : Fn := (D_s_FindField P_s_FindField).2
theorem E_s_FindField (f_s_l4First : Y_s_l4First) : ∀ x, (mkFn (cfg.withEq [(150, 1002)]) [D_s_l4First f_s_l4First] A_s_FindField 48 [.tmp 4, .tmp 5] (Tryz.f174.body.getD .skip) p_s_FindField r_s_FindField).fn x = B_s_FindField f_s_l4First x.1 x.2.1 := by intro x; kernel_rfl
theorem S_s_FindField : Sound Tryz.prog 174 F_s_FindField := sm MO (withEq_ok (l := [(150, 1002)]) cfg_ok ⟨eq150, trivial⟩) (tc Tryz.call205 S_s_l4First tab_nil) Tryz.func174 (by kernel_rfl) (by decide) (E_s_FindField P_s_l4First)
def A_s_PutPrefix : Nat → Option Jn := lookN [(7, ⟨[], lt 14 8 [], false⟩), (15, ⟨[.t 3 false [.int .i64]], [.t 23, .t 24], true⟩), (31, ⟨[.t 3 false [.int .i64]], [.t 25, .t 26], true⟩), (2047, ⟨[.t 3 false [.int .i64], .t 9 false [.own 100003000], .r 100003000 5 (.int .u8)], lt 54 11 [.r 50, .r 61, .r 62], true⟩), (8188, ⟨[.t 3 false [.int .i64], .t 9 false [.own 100003000], .r 100003000 5 (.int .u8)], lt 54 11 [.r 50, .r 61, .r 62], false⟩)]
abbrev p_s_PutPrefix : List PK := [.val false (.rs 5 (.int .u8)) false, .val false (.int .i64) false, .val false (.int .i64) false, .val false (.int .i64) false]
abbrev r_s_PutPrefix : List RK := [.val false (.sl 5 (.int .u8))]
noncomputable def D_s_PutPrefix (f : Y_s_PutPrefix) : Nat × Fn := (175, ⟨p_s_PutPrefix, r_s_PutPrefix, fun x => f x.1 x.2.1 x.2.2.1 x.2.2.2.1⟩)
noncomputable def F_s_PutPrefix : Fn := (D_s_PutPrefix P_s_PutPrefix).2
theorem E_s_PutPrefix (f_s_l1In : Y_s_l1In) : ∀ x, (mkFn cfg [D_s_l1In f_s_l1In] A_s_PutPrefix 70 [.tmp 8] (Tryz.f175.body.getD .skip) p_s_PutPrefix r_s_PutPrefix).fn x = B_s_PutPrefix f_s_l1In x.1 x.2.1 x.2.2.1 x.2.2.2.1 := by intro x; kernel_rfl
theorem S_s_PutPrefix : Sound Tryz.prog 175 F_s_PutPrefix := sm MO cfg_ok (tc Tryz.call53 S_s_l1In tab_nil) Tryz.func175 (by kernel_rfl) (by decide) (E_s_PutPrefix P_s_l1In)
abbrev p_s_l5Mode : List PK := [.val false (.int .i64) false]
abbrev r_s_l5Mode : List RK := [.val false (.int .i64), .val false (.int .i64)]
noncomputable def D_s_l5Mode (f : Y_s_l5Mode) : Nat × Fn := (176, ⟨p_s_l5Mode, r_s_l5Mode, fun x => f x.1⟩)
noncomputable def F_s_l5Mode : Fn := (D_s_l5Mode P_s_l5Mode).2
theorem E_s_l5Mode : ∀ x, (mkFn cfg [] (lookN []) 9 [.tmp 2, .tmp 3] (Tryz.f176.body.getD .skip) p_s_l5Mode r_s_l5Mode).fn x = B_s_l5Mode x.1 := by intro x; kernel_rfl
theorem S_s_l5Mode : Sound Tryz.prog 176 F_s_l5Mode := sm MO cfg_ok tab_nil Tryz.func176 (by kernel_rfl) (by decide) (E_s_l5Mode)
abbrev p_s_l3Lens : List PK := []
abbrev r_s_l3Lens : List RK := [.val false (.sl 3 (.int .i64))]
noncomputable def D_s_l3Lens (f : Y_s_l3Lens) : Nat × Fn := (228, ⟨p_s_l3Lens, r_s_l3Lens, fun x => f⟩)
noncomputable def F_s_l3Lens : Fn := (D_s_l3Lens P_s_l3Lens).2
theorem E_s_l3Lens : ∀ x, (mkFn cfg [] (lookN []) 2 [.tmp 0] (Tryz.f228.body.getD .skip) p_s_l3Lens r_s_l3Lens).fn x = B_s_l3Lens := by intro x; kernel_rfl
theorem S_s_l3Lens : Sound Tryz.prog 228 F_s_l3Lens := sm MO cfg_ok tab_nil Tryz.func228 (by kernel_rfl) (by decide) (E_s_l3Lens)
def A_s_l3Codes : Nat → Option Jn := lookN [(506, ⟨[.t 2 false [.own 8], .t 3 false [.int .i64], .t 4 false [.int .i64], .t 5 false [.int .i64], .r 8 3 (.int .i64)], lt 9 28 [.t 6, .x 19, .x 36], false⟩), (32402, ⟨[.t 2 false [.own 8], .t 3 false [.int .i64], .t 4 false [.int .i64], .t 6 false [.int .i64], .r 8 3 (.int .i64)], lt 13 24 [.x 19, .x 36], false⟩)]
abbrev p_s_l3Codes : List PK := []
abbrev r_s_l3Codes : List RK := [.val false (.sl 3 (.int .i64))]
noncomputable def D_s_l3Codes (f : Y_s_l3Codes) : Nat × Fn := (229, ⟨p_s_l3Codes, r_s_l3Codes, fun x => f⟩)
noncomputable def F_s_l3Codes : Fn := (D_s_l3Codes P_s_l3Codes).2
theorem E_s_l3Codes (f_s_l3Lens : Y_s_l3Lens) : ∀ x, (mkFn cfg [D_s_l3Lens f_s_l3Lens] A_s_l3Codes 38 [.tmp 0] (Tryz.f229.body.getD .skip) p_s_l3Codes r_s_l3Codes).fn x = B_s_l3Codes f_s_l3Lens := by intro x; kernel_rfl
theorem S_s_l3Codes : Sound Tryz.prog 229 F_s_l3Codes := sm MO cfg_ok (tc Tryz.call228 S_s_l3Lens tab_nil) Tryz.func229 (by kernel_rfl) (by decide) (E_s_l3Codes P_s_l3Lens)
def A_s_Huff : Nat → Option Jn := lookN [(127, ⟨[.t 5 false [.own 100000001], .t 6 false [.int .i64], .t 7 false [.int .i64], .r 100000001 5 (.int .u8)], lt 12 48 [.r 11, .r 52, .r 53, .r 100001000, .t 8, .x 23, .x 31, .x 39], true⟩), (1018, ⟨[.t 5 false [.own 100000001], .t 6 false [.int .i64], .t 7 false [.int .i64], .t 8 false [.int .i64], .r 100000001 5 (.int .u8)], lt 12 48 [.r 11, .r 52, .r 53, .r 100001000, .x 23, .x 31, .x 39], false⟩), (130342, ⟨[.t 5 false [.own 100001000], .t 6 false [.int .i64], .t 7 false [.int .i64], .r 100001000 5 (.int .u8)], lt 42 18 [.r 11, .r 52, .r 53, .r 100000001], false⟩)]
abbrev p_s_Huff : List PK := [.val false .str false]
abbrev r_s_Huff : List RK := [.val false (.sl 5 (.int .u8))]
noncomputable def D_s_Huff (f : Y_s_Huff) : Nat × Fn := (206, ⟨p_s_Huff, r_s_Huff, fun x => f x.1⟩)
noncomputable def F_s_Huff : Fn := (D_s_Huff P_s_Huff).2
theorem E_s_Huff (f_s_l3Lens : Y_s_l3Lens) (f_s_l3Codes : Y_s_l3Codes) : ∀ x, (mkFn cfg [D_s_l3Lens f_s_l3Lens, D_s_l3Codes f_s_l3Codes] A_s_Huff 78 [.tmp 2] (Tryz.f206.body.getD .skip) p_s_Huff r_s_Huff).fn x = B_s_Huff f_s_l3Lens f_s_l3Codes x.1 := by intro x; kernel_rfl
theorem S_s_Huff : Sound Tryz.prog 206 F_s_Huff := sm MO cfg_ok (tc Tryz.call228 S_s_l3Lens (tc Tryz.call229 S_s_l3Codes tab_nil)) Tryz.func206 (by kernel_rfl) (by decide) (E_s_Huff P_s_l3Lens P_s_l3Codes)
abbrev p_s_PutString : List PK := [.val false (.rs 5 (.int .u8)) false, .val false .str false]
abbrev r_s_PutString : List RK := [.val false (.sl 5 (.int .u8))]
noncomputable def D_s_PutString (f : Y_s_PutString) : Nat × Fn := (177, ⟨p_s_PutString, r_s_PutString, fun x => f x.1 x.2.1⟩)
noncomputable def F_s_PutString : Fn := (D_s_PutString P_s_PutString).2
theorem E_s_PutString (f_s_PutPrefix : Y_s_PutPrefix) (f_s_Huff : Y_s_Huff) : ∀ x, (mkFn cfg [D_s_PutPrefix f_s_PutPrefix, D_s_Huff f_s_Huff] (lookN []) 25 [.tmp 4] (Tryz.f177.body.getD .skip) p_s_PutString r_s_PutString).fn x = B_s_PutString f_s_PutPrefix f_s_Huff x.1 x.2.1 := by intro x; kernel_rfl
theorem S_s_PutString : Sound Tryz.prog 177 F_s_PutString := sm MO cfg_ok (tc Tryz.call175 S_s_PutPrefix (tc Tryz.call206 S_s_Huff tab_nil)) Tryz.func177 (by kernel_rfl) (by decide) (E_s_PutString P_s_PutPrefix P_s_Huff)
def A_s_l4Fit_r99_0 : Nat → Option Jn := lookN [(12, ⟨[.b 1 [.int .i64, .ro 150 kField]], lt 3 13 [], false⟩)]
abbrev p_s_l4Fit_r99_0 : List PK := [.val true (.pair (.int .i64) (.rs 150 kField)) false]
abbrev r_s_l4Fit_r99_0 : List RK := [.val true (.pair (.int .i64) (.rs 150 kField))]
noncomputable def D_s_l4Fit_r99_0 (f : Y_s_l4Fit_r99_0) : Nat × Fn := (207, ⟨p_s_l4Fit_r99_0, r_s_l4Fit_r99_0, fun x => f x.1⟩)
noncomputable def F_s_l4Fit_r99_0 : Fn := (D_s_l4Fit_r99_0 P_s_l4Fit_r99_0).2
theorem E_s_l4Fit_r99_0 (f_s_SizeOf : Y_s_SizeOf) : ∀ x, (mkFn cfg [D_s_SizeOf f_s_SizeOf] A_s_l4Fit_r99_0 17 [.cell 2 32] (Tryz.f207.body.getD .skip) p_s_l4Fit_r99_0 r_s_l4Fit_r99_0).fn x = B_s_l4Fit_r99_0 f_s_SizeOf x.1 := by intro x; kernel_rfl
theorem S_s_l4Fit_r99_0 : Sound Tryz.prog 207 F_s_l4Fit_r99_0 := sm MO cfg_ok (tc Tryz.call126 S_s_SizeOf tab_nil) Tryz.func207 (by kernel_rfl) (by decide) (E_s_l4Fit_r99_0 P_s_SizeOf)
abbrev p_s_l4Add_r99_0 : List PK := [.val true (.pair (.int .i64) (.rs 150 kField)) false, .val true kField false]
abbrev r_s_l4Add_r99_0 : List RK := [.val true (.pair (.int .i64) (.rs 150 kField))]
noncomputable def D_s_l4Add_r99_0 (f : Y_s_l4Add_r99_0) : Nat × Fn := (178, ⟨p_s_l4Add_r99_0, r_s_l4Add_r99_0, fun x => f x.1 x.2.1⟩)
noncomputable def F_s_l4Add_r99_0 : Fn := (D_s_l4Add_r99_0 P_s_l4Add_r99_0).2
theorem E_s_l4Add_r99_0 (f_s_l4Fit_r99_0 : Y_s_l4Fit_r99_0) : ∀ x, (mkFn cfg [D_s_l4Fit_r99_0 f_s_l4Fit_r99_0] (lookN []) 14 [.cell 4 32] (Tryz.f178.body.getD .skip) p_s_l4Add_r99_0 r_s_l4Add_r99_0).fn x = B_s_l4Add_r99_0 f_s_l4Fit_r99_0 x.1 x.2.1 := by intro x; kernel_rfl
theorem S_s_l4Add_r99_0 : Sound Tryz.prog 178 F_s_l4Add_r99_0 := sm MO cfg_ok (tc Tryz.call207 S_s_l4Fit_r99_0 tab_nil) Tryz.func178 (by kernel_rfl) (by decide) (E_s_l4Add_r99_0 P_s_l4Fit_r99_0)
def A_s_PutField_r99_0 : Nat → Option Jn := lookN [(7, ⟨[], lt 16 8 [], false⟩), (31, ⟨[], lt 32 5 [], false⟩), (62, ⟨[.t 36 false [.bool]], lt 32 4 [], true⟩), (255, ⟨[.t 13 false [.own 100003000], .r 100003000 5 (.int .u8)], lt 51 6 [.r 208896, .r 233472], true⟩)]
abbrev p_s_PutField_r99_0 : List PK := [.val true (.pair (.int .i64) (.rs 150 kField)) false, .val true kField false, .val false (.int .i64) false]
abbrev r_s_PutField_r99_0 : List RK := [.val false (.sl 5 (.int .u8)), .val true (.pair (.int .i64) (.rs 150 kField))]
noncomputable def D_s_PutField_r99_0 (f : Y_s_PutField_r99_0) : Nat × Fn := (129, ⟨p_s_PutField_r99_0, r_s_PutField_r99_0, fun x => f x.1 x.2.1 x.2.2.1⟩)
noncomputable def F_s_PutField_r99_0 : Fn := (D_s_PutField_r99_0 P_s_PutField_r99_0).2
theorem E_s_PutField_r99_0 (f_s_TableOk : Y_s_TableOk) (f_s_l1In : Y_s_l1In) (f_s_l4Copy : Y_s_l4Copy) (f_s_FindField : Y_s_FindField) (f_s_PutPrefix : Y_s_PutPrefix) (f_s_l5Mode : Y_s_l5Mode) (f_s_PutString : Y_s_PutString) (f_s_l4Add_r99_0 : Y_s_l4Add_r99_0) : ∀ x, (mkFn cfg [D_s_TableOk f_s_TableOk, D_s_l1In f_s_l1In, D_s_l4Copy f_s_l4Copy, D_s_FindField f_s_FindField, D_s_PutPrefix f_s_PutPrefix, D_s_l5Mode f_s_l5Mode, D_s_PutString f_s_PutString, D_s_l4Add_r99_0 f_s_l4Add_r99_0] A_s_PutField_r99_0 69 [.tmp 6, .cell 7 32] (Tryz.f129.body.getD .skip) p_s_PutField_r99_0 r_s_PutField_r99_0).fn x = B_s_PutField_r99_0 f_s_TableOk f_s_l1In f_s_l4Copy f_s_FindField f_s_PutPrefix f_s_l5Mode f_s_PutString f_s_l4Add_r99_0 x.1 x.2.1 x.2.2.1 := by intro x; kernel_rfl
theorem S_s_PutField_r99_0 : Sound Tryz.prog 129 F_s_PutField_r99_0 := sm MO cfg_ok (tc Tryz.call51 S_s_TableOk (tc Tryz.call53 S_s_l1In (tc Tryz.call54 S_s_l4Copy (tc Tryz.call174 S_s_FindField (tc Tryz.call175 S_s_PutPrefix (tc Tryz.call176 S_s_l5Mode (tc Tryz.call177 S_s_PutString (tc Tryz.call178 S_s_l4Add_r99_0 tab_nil)))))))) Tryz.func129 (by kernel_rfl) (by decide) (E_s_PutField_r99_0 P_s_TableOk P_s_l1In P_s_l4Copy P_s_FindField P_s_PutPrefix P_s_l5Mode P_s_PutString P_s_l4Add_r99_0)
abbrev p_s_l11Method : List PK := [.val false (.int .i64) false]
abbrev r_s_l11Method : List RK := [.val false .str]
noncomputable def D_s_l11Method (f : Y_s_l11Method) : Nat × Fn := (130, ⟨p_s_l11Method, r_s_l11Method, fun x => f x.1⟩)
noncomputable def F_s_l11Method : Fn := (D_s_l11Method P_s_l11Method).2
theorem E_s_l11Method : ∀ x, (mkFn cfg [] (lookN []) 7 [.tmp 2] (Tryz.f130.body.getD .skip) p_s_l11Method r_s_l11Method).fn x = B_s_l11Method x.1 := by intro x; kernel_rfl
theorem S_s_l11Method : Sound Tryz.prog 130 F_s_l11Method := sm MO cfg_ok tab_nil Tryz.func130 (by kernel_rfl) (by decide) (E_s_l11Method)
abbrev p_s_l11Name : List PK := [.val false (.int .i64) false]
abbrev r_s_l11Name : List RK := [.val false .str]
noncomputable def D_s_l11Name (f : Y_s_l11Name) : Nat × Fn := (131, ⟨p_s_l11Name, r_s_l11Name, fun x => f x.1⟩)
noncomputable def F_s_l11Name : Fn := (D_s_l11Name P_s_l11Name).2
theorem E_s_l11Name : ∀ x, (mkFn cfg [] (lookN []) 10 [.tmp 2] (Tryz.f131.body.getD .skip) p_s_l11Name r_s_l11Name).fn x = B_s_l11Name x.1 := by intro x; kernel_rfl
theorem S_s_l11Name : Sound Tryz.prog 131 F_s_l11Name := sm MO cfg_ok tab_nil Tryz.func131 (by kernel_rfl) (by decide) (E_s_l11Name)
abbrev p_s_l1Text_r89_1 : List PK := [.val false (.int .i64) false]
abbrev r_s_l1Text_r89_1 : List RK := [.val false .str]
noncomputable def D_s_l1Text_r89_1 (f : Y_s_l1Text_r89_1) : Nat × Fn := (132, ⟨p_s_l1Text_r89_1, r_s_l1Text_r89_1, fun x => f x.1⟩)
noncomputable def F_s_l1Text_r89_1 : Fn := (D_s_l1Text_r89_1 P_s_l1Text_r89_1).2
theorem E_s_l1Text_r89_1 (f_s_l1Text_nil : Y_s_l1Text_nil) : ∀ x, (mkFn cfg [D_s_l1Text_nil f_s_l1Text_nil] (lookN []) 20 [.tmp 2] (Tryz.f132.body.getD .skip) p_s_l1Text_r89_1 r_s_l1Text_r89_1).fn x = B_s_l1Text_r89_1 f_s_l1Text_nil x.1 := by intro x; kernel_rfl
theorem S_s_l1Text_r89_1 : Sound Tryz.prog 132 F_s_l1Text_r89_1 := sm MO cfg_ok (tc Tryz.call132 S_s_l1Text_nil tab_nil) Tryz.func132 (by kernel_rfl) (by decide) (E_s_l1Text_r89_1 P_s_l1Text_nil)
abbrev p_s_l1Text_r89_2 : List PK := [.val false (.int .i64) false]
abbrev r_s_l1Text_r89_2 : List RK := [.val false .str]
noncomputable def D_s_l1Text_r89_2 (f : Y_s_l1Text_r89_2) : Nat × Fn := (132, ⟨p_s_l1Text_r89_2, r_s_l1Text_r89_2, fun x => f x.1⟩)
noncomputable def F_s_l1Text_r89_2 : Fn := (D_s_l1Text_r89_2 P_s_l1Text_r89_2).2
theorem E_s_l1Text_r89_2 (f_s_l1Text_r89_1 : Y_s_l1Text_r89_1) : ∀ x, (mkFn cfg [D_s_l1Text_r89_1 f_s_l1Text_r89_1] (lookN []) 20 [.tmp 2] (Tryz.f132.body.getD .skip) p_s_l1Text_r89_2 r_s_l1Text_r89_2).fn x = B_s_l1Text_r89_2 f_s_l1Text_r89_1 x.1 := by intro x; kernel_rfl
theorem S_s_l1Text_r89_2 : Sound Tryz.prog 132 F_s_l1Text_r89_2 := sm MO cfg_ok (tc Tryz.call132 S_s_l1Text_r89_1 tab_nil) Tryz.func132 (by kernel_rfl) (by decide) (E_s_l1Text_r89_2 P_s_l1Text_r89_1)
abbrev p_s_l1Text_r89_3 : List PK := [.val false (.int .i64) false]
abbrev r_s_l1Text_r89_3 : List RK := [.val false .str]
noncomputable def D_s_l1Text_r89_3 (f : Y_s_l1Text_r89_3) : Nat × Fn := (132, ⟨p_s_l1Text_r89_3, r_s_l1Text_r89_3, fun x => f x.1⟩)
noncomputable def F_s_l1Text_r89_3 : Fn := (D_s_l1Text_r89_3 P_s_l1Text_r89_3).2
theorem E_s_l1Text_r89_3 (f_s_l1Text_r89_2 : Y_s_l1Text_r89_2) : ∀ x, (mkFn cfg [D_s_l1Text_r89_2 f_s_l1Text_r89_2] (lookN []) 20 [.tmp 2] (Tryz.f132.body.getD .skip) p_s_l1Text_r89_3 r_s_l1Text_r89_3).fn x = B_s_l1Text_r89_3 f_s_l1Text_r89_2 x.1 := by intro x; kernel_rfl
theorem S_s_l1Text_r89_3 : Sound Tryz.prog 132 F_s_l1Text_r89_3 := sm MO cfg_ok (tc Tryz.call132 S_s_l1Text_r89_2 tab_nil) Tryz.func132 (by kernel_rfl) (by decide) (E_s_l1Text_r89_3 P_s_l1Text_r89_2)
abbrev p_s_l1Text_r89_4 : List PK := [.val false (.int .i64) false]
abbrev r_s_l1Text_r89_4 : List RK := [.val false .str]
noncomputable def D_s_l1Text_r89_4 (f : Y_s_l1Text_r89_4) : Nat × Fn := (132, ⟨p_s_l1Text_r89_4, r_s_l1Text_r89_4, fun x => f x.1⟩)
noncomputable def F_s_l1Text_r89_4 : Fn := (D_s_l1Text_r89_4 P_s_l1Text_r89_4).2
theorem E_s_l1Text_r89_4 (f_s_l1Text_r89_3 : Y_s_l1Text_r89_3) : ∀ x, (mkFn cfg [D_s_l1Text_r89_3 f_s_l1Text_r89_3] (lookN []) 20 [.tmp 2] (Tryz.f132.body.getD .skip) p_s_l1Text_r89_4 r_s_l1Text_r89_4).fn x = B_s_l1Text_r89_4 f_s_l1Text_r89_3 x.1 := by intro x; kernel_rfl
theorem S_s_l1Text_r89_4 : Sound Tryz.prog 132 F_s_l1Text_r89_4 := sm MO cfg_ok (tc Tryz.call132 S_s_l1Text_r89_3 tab_nil) Tryz.func132 (by kernel_rfl) (by decide) (E_s_l1Text_r89_4 P_s_l1Text_r89_3)
abbrev p_s_l1Text_r89_5 : List PK := [.val false (.int .i64) false]
abbrev r_s_l1Text_r89_5 : List RK := [.val false .str]
noncomputable def D_s_l1Text_r89_5 (f : Y_s_l1Text_r89_5) : Nat × Fn := (132, ⟨p_s_l1Text_r89_5, r_s_l1Text_r89_5, fun x => f x.1⟩)
noncomputable def F_s_l1Text_r89_5 : Fn := (D_s_l1Text_r89_5 P_s_l1Text_r89_5).2
theorem E_s_l1Text_r89_5 (f_s_l1Text_r89_4 : Y_s_l1Text_r89_4) : ∀ x, (mkFn cfg [D_s_l1Text_r89_4 f_s_l1Text_r89_4] (lookN []) 20 [.tmp 2] (Tryz.f132.body.getD .skip) p_s_l1Text_r89_5 r_s_l1Text_r89_5).fn x = B_s_l1Text_r89_5 f_s_l1Text_r89_4 x.1 := by intro x; kernel_rfl
theorem S_s_l1Text_r89_5 : Sound Tryz.prog 132 F_s_l1Text_r89_5 := sm MO cfg_ok (tc Tryz.call132 S_s_l1Text_r89_4 tab_nil) Tryz.func132 (by kernel_rfl) (by decide) (E_s_l1Text_r89_5 P_s_l1Text_r89_4)
abbrev p_s_l1Text_r89_6 : List PK := [.val false (.int .i64) false]
abbrev r_s_l1Text_r89_6 : List RK := [.val false .str]
noncomputable def D_s_l1Text_r89_6 (f : Y_s_l1Text_r89_6) : Nat × Fn := (132, ⟨p_s_l1Text_r89_6, r_s_l1Text_r89_6, fun x => f x.1⟩)
noncomputable def F_s_l1Text_r89_6 : Fn := (D_s_l1Text_r89_6 P_s_l1Text_r89_6).2
theorem E_s_l1Text_r89_6 (f_s_l1Text_r89_5 : Y_s_l1Text_r89_5) : ∀ x, (mkFn cfg [D_s_l1Text_r89_5 f_s_l1Text_r89_5] (lookN []) 20 [.tmp 2] (Tryz.f132.body.getD .skip) p_s_l1Text_r89_6 r_s_l1Text_r89_6).fn x = B_s_l1Text_r89_6 f_s_l1Text_r89_5 x.1 := by intro x; kernel_rfl
theorem S_s_l1Text_r89_6 : Sound Tryz.prog 132 F_s_l1Text_r89_6 := sm MO cfg_ok (tc Tryz.call132 S_s_l1Text_r89_5 tab_nil) Tryz.func132 (by kernel_rfl) (by decide) (E_s_l1Text_r89_6 P_s_l1Text_r89_5)
abbrev p_s_l1Text_r89_7 : List PK := [.val false (.int .i64) false]
abbrev r_s_l1Text_r89_7 : List RK := [.val false .str]
noncomputable def D_s_l1Text_r89_7 (f : Y_s_l1Text_r89_7) : Nat × Fn := (132, ⟨p_s_l1Text_r89_7, r_s_l1Text_r89_7, fun x => f x.1⟩)
noncomputable def F_s_l1Text_r89_7 : Fn := (D_s_l1Text_r89_7 P_s_l1Text_r89_7).2
theorem E_s_l1Text_r89_7 (f_s_l1Text_r89_6 : Y_s_l1Text_r89_6) : ∀ x, (mkFn cfg [D_s_l1Text_r89_6 f_s_l1Text_r89_6] (lookN []) 20 [.tmp 2] (Tryz.f132.body.getD .skip) p_s_l1Text_r89_7 r_s_l1Text_r89_7).fn x = B_s_l1Text_r89_7 f_s_l1Text_r89_6 x.1 := by intro x; kernel_rfl
theorem S_s_l1Text_r89_7 : Sound Tryz.prog 132 F_s_l1Text_r89_7 := sm MO cfg_ok (tc Tryz.call132 S_s_l1Text_r89_6 tab_nil) Tryz.func132 (by kernel_rfl) (by decide) (E_s_l1Text_r89_7 P_s_l1Text_r89_6)
abbrev p_s_l1Text_r89_8 : List PK := [.val false (.int .i64) false]
abbrev r_s_l1Text_r89_8 : List RK := [.val false .str]
noncomputable def D_s_l1Text_r89_8 (f : Y_s_l1Text_r89_8) : Nat × Fn := (132, ⟨p_s_l1Text_r89_8, r_s_l1Text_r89_8, fun x => f x.1⟩)
noncomputable def F_s_l1Text_r89_8 : Fn := (D_s_l1Text_r89_8 P_s_l1Text_r89_8).2
theorem E_s_l1Text_r89_8 (f_s_l1Text_r89_7 : Y_s_l1Text_r89_7) : ∀ x, (mkFn cfg [D_s_l1Text_r89_7 f_s_l1Text_r89_7] (lookN []) 20 [.tmp 2] (Tryz.f132.body.getD .skip) p_s_l1Text_r89_8 r_s_l1Text_r89_8).fn x = B_s_l1Text_r89_8 f_s_l1Text_r89_7 x.1 := by intro x; kernel_rfl
theorem S_s_l1Text_r89_8 : Sound Tryz.prog 132 F_s_l1Text_r89_8 := sm MO cfg_ok (tc Tryz.call132 S_s_l1Text_r89_7 tab_nil) Tryz.func132 (by kernel_rfl) (by decide) (E_s_l1Text_r89_8 P_s_l1Text_r89_7)
abbrev p_s_l1Text_r89_9 : List PK := [.val false (.int .i64) false]
abbrev r_s_l1Text_r89_9 : List RK := [.val false .str]
noncomputable def D_s_l1Text_r89_9 (f : Y_s_l1Text_r89_9) : Nat × Fn := (132, ⟨p_s_l1Text_r89_9, r_s_l1Text_r89_9, fun x => f x.1⟩)
noncomputable def F_s_l1Text_r89_9 : Fn := (D_s_l1Text_r89_9 P_s_l1Text_r89_9).2
theorem E_s_l1Text_r89_9 (f_s_l1Text_r89_8 : Y_s_l1Text_r89_8) : ∀ x, (mkFn cfg [D_s_l1Text_r89_8 f_s_l1Text_r89_8] (lookN []) 20 [.tmp 2] (Tryz.f132.body.getD .skip) p_s_l1Text_r89_9 r_s_l1Text_r89_9).fn x = B_s_l1Text_r89_9 f_s_l1Text_r89_8 x.1 := by intro x; kernel_rfl
theorem S_s_l1Text_r89_9 : Sound Tryz.prog 132 F_s_l1Text_r89_9 := sm MO cfg_ok (tc Tryz.call132 S_s_l1Text_r89_8 tab_nil) Tryz.func132 (by kernel_rfl) (by decide) (E_s_l1Text_r89_9 P_s_l1Text_r89_8)
abbrev p_s_l1Text : List PK := [.val false (.int .i64) false]
abbrev r_s_l1Text : List RK := [.val false .str]
noncomputable def D_s_l1Text (f : Y_s_l1Text) : Nat × Fn := (132, ⟨p_s_l1Text, r_s_l1Text, fun x => f x.1⟩)
noncomputable def F_s_l1Text : Fn := (D_s_l1Text P_s_l1Text).2
theorem E_s_l1Text (f_s_l1Text_r89_9 : Y_s_l1Text_r89_9) : ∀ x, (mkFn cfg [D_s_l1Text_r89_9 f_s_l1Text_r89_9] (lookN []) 20 [.tmp 2] (Tryz.f132.body.getD .skip) p_s_l1Text r_s_l1Text).fn x = B_s_l1Text f_s_l1Text_r89_9 x.1 := by intro x; kernel_rfl
theorem S_s_l1Text : Sound Tryz.prog 132 F_s_l1Text := sm MO cfg_ok (tc Tryz.call132 S_s_l1Text_r89_9 tab_nil) Tryz.func132 (by kernel_rfl) (by decide) (E_s_l1Text P_s_l1Text_r89_9)
abbrev p_s_FieldsOf : List PK := [.val true kReq false]
abbrev r_s_FieldsOf : List RK := [.val false (.sl 150 kField)]
noncomputable def D_s_FieldsOf (f : Y_s_FieldsOf) : Nat × Fn := (56, ⟨p_s_FieldsOf, r_s_FieldsOf, fun x => f x.1⟩)
noncomputable def F_s_FieldsOf : Fn := (D_s_FieldsOf P_s_FieldsOf).2
theorem E_s_FieldsOf (f_s_ReqOk : Y_s_ReqOk) (f_s_l11Method : Y_s_l11Method) (f_s_l11Name : Y_s_l11Name) (f_s_l1Text : Y_s_l1Text) : ∀ x, (mkFn cfg [D_s_ReqOk f_s_ReqOk, D_s_l11Method f_s_l11Method, D_s_l11Name f_s_l11Name, D_s_l1Text f_s_l1Text] (lookN []) 33 [.tmp 2] (Tryz.f56.body.getD .skip) p_s_FieldsOf r_s_FieldsOf).fn x = B_s_FieldsOf f_s_ReqOk f_s_l11Method f_s_l11Name f_s_l1Text x.1 := by intro x; kernel_rfl
theorem S_s_FieldsOf : Sound Tryz.prog 56 F_s_FieldsOf := sm MO cfg_ok (tc Tryz.call52 S_s_ReqOk (tc Tryz.call130 S_s_l11Method (tc Tryz.call131 S_s_l11Name (tc Tryz.call132 S_s_l1Text tab_nil)))) Tryz.func56 (by kernel_rfl) (by decide) (E_s_FieldsOf P_s_ReqOk P_s_l11Method P_s_l11Name P_s_l1Text)
abbrev p_s_FrameOk : List PK := [.val true (.pair (.int .i64) (.pair (.int .i64) (.pair (.int .i64) (.rs 5 (.int .u8))))) false]
abbrev r_s_FrameOk : List RK := [.val false .bool]
noncomputable def D_s_FrameOk (f : Y_s_FrameOk) : Nat × Fn := (133, ⟨p_s_FrameOk, r_s_FrameOk, fun x => f x.1⟩)
noncomputable def F_s_FrameOk : Fn := (D_s_FrameOk P_s_FrameOk).2
theorem E_s_FrameOk (f_s_l1In : Y_s_l1In) : ∀ x, (mkFn cfg [D_s_l1In f_s_l1In] (lookN []) 22 [.tmp 2] (Tryz.f133.body.getD .skip) p_s_FrameOk r_s_FrameOk).fn x = B_s_FrameOk f_s_l1In x.1 := by intro x; kernel_rfl
theorem S_s_FrameOk : Sound Tryz.prog 133 F_s_FrameOk := sm MO cfg_ok (tc Tryz.call53 S_s_l1In tab_nil) Tryz.func133 (by kernel_rfl) (by decide) (E_s_FrameOk P_s_l1In)
def A_s_PutBig : Nat → Option Jn := lookN [(7, ⟨[.t 1 false [.int .i64]], [.t 12, .t 13], true⟩), (250, ⟨[.t 7 false [.own 100001000], .t 8 false [.int .i64], .r 100001000 5 (.int .u8)], lt 20 13 [.r 11, .r 31, .r 32], false⟩)]
abbrev p_s_PutBig : List PK := [.val false (.rs 5 (.int .u8)) false, .val false (.int .i64) false, .val false (.int .i64) false]
abbrev r_s_PutBig : List RK := [.val false (.sl 5 (.int .u8))]
noncomputable def D_s_PutBig (f : Y_s_PutBig) : Nat × Fn := (134, ⟨p_s_PutBig, r_s_PutBig, fun x => f x.1 x.2.1 x.2.2.1⟩)
noncomputable def F_s_PutBig : Fn := (D_s_PutBig P_s_PutBig).2
theorem E_s_PutBig (f_s_l1In : Y_s_l1In) : ∀ x, (mkFn cfg [D_s_l1In f_s_l1In] A_s_PutBig 34 [.tmp 6] (Tryz.f134.body.getD .skip) p_s_PutBig r_s_PutBig).fn x = B_s_PutBig f_s_l1In x.1 x.2.1 x.2.2.1 := by intro x; kernel_rfl
theorem S_s_PutBig : Sound Tryz.prog 134 F_s_PutBig := sm MO cfg_ok (tc Tryz.call53 S_s_l1In tab_nil) Tryz.func134 (by kernel_rfl) (by decide) (E_s_PutBig P_s_l1In)
abbrev p_s_PutFrame : List PK := [.val true (.pair (.int .i64) (.pair (.int .i64) (.pair (.int .i64) (.rs 5 (.int .u8))))) false]
abbrev r_s_PutFrame : List RK := [.val false (.sl 5 (.int .u8))]
noncomputable def D_s_PutFrame (f : Y_s_PutFrame) : Nat × Fn := (59, ⟨p_s_PutFrame, r_s_PutFrame, fun x => f x.1⟩)
noncomputable def F_s_PutFrame : Fn := (D_s_PutFrame P_s_PutFrame).2
theorem E_s_PutFrame (f_s_FrameOk : Y_s_FrameOk) (f_s_PutBig : Y_s_PutBig) : ∀ x, (mkFn cfg [D_s_FrameOk f_s_FrameOk, D_s_PutBig f_s_PutBig] (lookN []) 28 [.tmp 2] (Tryz.f59.body.getD .skip) p_s_PutFrame r_s_PutFrame).fn x = B_s_PutFrame f_s_FrameOk f_s_PutBig x.1 := by intro x; kernel_rfl
theorem S_s_PutFrame : Sound Tryz.prog 59 F_s_PutFrame := sm MO cfg_ok (tc Tryz.call133 S_s_FrameOk (tc Tryz.call134 S_s_PutBig tab_nil)) Tryz.func59 (by kernel_rfl) (by decide) (E_s_PutFrame P_s_FrameOk P_s_PutBig)
def A_s_l16Frames : Nat → Option Jn := lookN [(58, ⟨[.t 3 false [.own 100000000], .t 4 false [.int .i64], .r 100000000 5 (.int .u8)], lt 6 13 [.r 5, .r 18, .r 73728], false⟩)]
abbrev p_s_l16Frames : List PK := [.val false (.rs 82 kFrame) false]
abbrev r_s_l16Frames : List RK := [.val false (.sl 5 (.int .u8))]
noncomputable def D_s_l16Frames (f : Y_s_l16Frames) : Nat × Fn := (57, ⟨p_s_l16Frames, r_s_l16Frames, fun x => f x.1⟩)
noncomputable def F_s_l16Frames : Fn := (D_s_l16Frames P_s_l16Frames).2
theorem E_s_l16Frames (f_s_PutFrame : Y_s_PutFrame) : ∀ x, (mkFn cfg [D_s_PutFrame f_s_PutFrame] A_s_l16Frames 20 [.tmp 2] (Tryz.f57.body.getD .skip) p_s_l16Frames r_s_l16Frames).fn x = B_s_l16Frames f_s_PutFrame x.1 := by intro x; kernel_rfl
theorem S_s_l16Frames : Sound Tryz.prog 57 F_s_l16Frames := sm MO cfg_ok (tc Tryz.call59 S_s_PutFrame tab_nil) Tryz.func57 (by kernel_rfl) (by decide) (E_s_l16Frames P_s_PutFrame)
def A_s_Part : Nat → Option Jn := lookN [(15, ⟨[.t 3 false [.int .i64]], [.t 18, .t 19], true⟩), (31, ⟨[.t 3 false [.int .i64]], [.t 20, .t 21], true⟩), (506, ⟨[.t 9 false [.own 100002000], .t 10 false [.int .i64], .r 100002000 82 kFrame], lt 22 42 [.b 11, .r 13, .r 53, .r 58, .r 62, .r 63, .t 11, .t 12], false⟩), (1012, ⟨[], lt 22 8 [], false⟩), (16201, ⟨[.b 11 [.int .i64, .int .i64, .int .i64, .nil]], lt 35 5 [], true⟩), (64807, ⟨[.t 12 false [.int .i64], .b 11 [.int .i64, .int .i64, .int .i64, .nil]], lt 43 10 [], true⟩)]
abbrev p_s_Part : List PK := [.val false (.int .i64) false, .val false .bool false, .val false (.rs 5 (.int .u8)) false, .val false (.int .i64) false]
abbrev r_s_Part : List RK := [.val false (.sl 82 kFrame)]
noncomputable def D_s_Part (f : Y_s_Part) : Nat × Fn := (58, ⟨p_s_Part, r_s_Part, fun x => f x.1 x.2.1 x.2.2.1 x.2.2.2.1⟩)
noncomputable def F_s_Part : Fn := (D_s_Part P_s_Part).2
theorem E_s_Part (f_s_l1In : Y_s_l1In) : ∀ x, (mkFn cfg [D_s_l1In f_s_l1In] A_s_Part 65 [.tmp 8] (Tryz.f58.body.getD .skip) p_s_Part r_s_Part).fn x = B_s_Part f_s_l1In x.1 x.2.1 x.2.2.1 x.2.2.2.1 := by intro x; kernel_rfl
theorem S_s_Part : Sound Tryz.prog 58 F_s_Part := sm MO cfg_ok (tc Tryz.call53 S_s_l1In tab_nil) Tryz.func58 (by kernel_rfl) (by decide) (E_s_Part P_s_l1In)
def A_s_PutFields_r99_0 : Nat → Option Jn := lookN [(15, ⟨[.t 6 false [.own 100000000], .b 7 [.int .i64, .ro 150 kField], .r 100000000 5 (.int .u8)], lt 14 27 (lt 8 4 [.b 11, .r 12, .r 39, .r 61441, .r 143360]), true⟩), (122, ⟨[.t 6 false [.own 100000000], .t 8 false [.int .i64], .b 7 [.int .i64, .ro 150 kField], .r 100000000 5 (.int .u8)], lt 14 27 (lt 9 3 [.b 11, .r 12, .r 39, .r 61441, .r 143360]), false⟩), (3913, ⟨[.t 9 false [.int .i64]], lt 21 6 [], true⟩)]
abbrev p_s_PutFields_r99_0 : List PK := [.val true (.pair (.int .i64) (.rs 150 kField)) false, .val false (.rs 150 kField) false]
abbrev r_s_PutFields_r99_0 : List RK := [.val false (.sl 5 (.int .u8)), .val true (.pair (.int .i64) (.rs 150 kField))]
noncomputable def D_s_PutFields_r99_0 (f : Y_s_PutFields_r99_0) : Nat × Fn := (55, ⟨p_s_PutFields_r99_0, r_s_PutFields_r99_0, fun x => f x.1 x.2.1⟩)
noncomputable def F_s_PutFields_r99_0 : Fn := (D_s_PutFields_r99_0 P_s_PutFields_r99_0).2
theorem E_s_PutFields_r99_0 (f_s_l4Copy : Y_s_l4Copy) (f_s_PutField_r99_0 : Y_s_PutField_r99_0) : ∀ x, (mkFn cfg [D_s_l4Copy f_s_l4Copy, D_s_PutField_r99_0 f_s_PutField_r99_0] A_s_PutFields_r99_0 43 [.tmp 4, .cell 5 32] (Tryz.f55.body.getD .skip) p_s_PutFields_r99_0 r_s_PutFields_r99_0).fn x = B_s_PutFields_r99_0 f_s_l4Copy f_s_PutField_r99_0 x.1 x.2.1 := by intro x; kernel_rfl
theorem S_s_PutFields_r99_0 : Sound Tryz.prog 55 F_s_PutFields_r99_0 := sm MO cfg_ok (tc Tryz.call54 S_s_l4Copy (tc Tryz.call129 S_s_PutField_r99_0 tab_nil)) Tryz.func55 (by kernel_rfl) (by decide) (E_s_PutFields_r99_0 P_s_l4Copy P_s_PutField_r99_0)
abbrev p_w_toField : List PK := [.val true kField false]
abbrev r_w_toField : List RK := [.val true kField]
noncomputable def D_w_toField (f : Y_w_toField) : Nat × Fn := (135, ⟨p_w_toField, r_w_toField, fun x => f x.1⟩)
noncomputable def F_w_toField : Fn := (D_w_toField P_w_toField).2
theorem E_w_toField : ∀ x, (mkFn cfg [] (lookN []) 11 [.cell 2 150] (Tryz.f135.body.getD .skip) p_w_toField r_w_toField).fn x = B_w_toField x.1 := by intro x; kernel_rfl
theorem S_w_toField : Sound Tryz.prog 135 F_w_toField := sm MO cfg_ok tab_nil Tryz.func135 (by kernel_rfl) (by decide) (E_w_toField)
def A_w_toFieldS : Nat → Option Jn := lookN [(58, ⟨[.t 3 false [.own 7], .t 4 false [.int .i64], .r 7 150 kField], lt 8 14 [.x 21], false⟩)]
abbrev p_w_toFieldS : List PK := [.val false (.rs 161 kField) false]
abbrev r_w_toFieldS : List RK := [.val false (.sl 150 kField)]
noncomputable def D_w_toFieldS (f : Y_w_toFieldS) : Nat × Fn := (60, ⟨p_w_toFieldS, r_w_toFieldS, fun x => f x.1⟩)
noncomputable def F_w_toFieldS : Fn := (D_w_toFieldS P_w_toFieldS).2
theorem E_w_toFieldS (f_w_toField : Y_w_toField) : ∀ x, (mkFn cfg [D_w_toField f_w_toField] A_w_toFieldS 23 [.tmp 2] (Tryz.f60.body.getD .skip) p_w_toFieldS r_w_toFieldS).fn x = B_w_toFieldS f_w_toField x.1 := by intro x; kernel_rfl
theorem S_w_toFieldS : Sound Tryz.prog 60 F_w_toFieldS := sm MO cfg_ok (tc Tryz.call135 S_w_toField tab_nil) Tryz.func60 (by kernel_rfl) (by decide) (E_w_toFieldS P_w_toField)
abbrev p_w_toTable : List PK := [.val true (.pair (.int .i64) (.rs 161 kField)) false]
abbrev r_w_toTable : List RK := [.val true kTable]
noncomputable def D_w_toTable (f : Y_w_toTable) : Nat × Fn := (12, ⟨p_w_toTable, r_w_toTable, fun x => f x.1⟩)
noncomputable def F_w_toTable : Fn := (D_w_toTable P_w_toTable).2
theorem E_w_toTable (f_w_toFieldS : Y_w_toFieldS) : ∀ x, (mkFn cfg [D_w_toFieldS f_w_toFieldS] (lookN []) 12 [.cell 2 32] (Tryz.f12.body.getD .skip) p_w_toTable r_w_toTable).fn x = B_w_toTable f_w_toFieldS x.1 := by intro x; kernel_rfl
theorem S_w_toTable : Sound Tryz.prog 12 F_w_toTable := sm MO cfg_ok (tc Tryz.call60 S_w_toFieldS tab_nil) Tryz.func12 (by kernel_rfl) (by decide) (E_w_toTable P_w_toFieldS)
abbrev p_w_toReq : List PK := [.val true kReq false]
abbrev r_w_toReq : List RK := [.val true kReq]
noncomputable def D_w_toReq (f : Y_w_toReq) : Nat × Fn := (13, ⟨p_w_toReq, r_w_toReq, fun x => f x.1⟩)
noncomputable def F_w_toReq : Fn := (D_w_toReq P_w_toReq).2
theorem E_w_toReq : ∀ x, (mkFn cfg [] (lookN []) 14 [.cell 2 36] (Tryz.f13.body.getD .skip) p_w_toReq r_w_toReq).fn x = B_w_toReq x.1 := by intro x; kernel_rfl
theorem S_w_toReq : Sound Tryz.prog 13 F_w_toReq := sm MO cfg_ok tab_nil Tryz.func13 (by kernel_rfl) (by decide) (E_w_toReq)
def A_w_toByteS : Nat → Option Jn := lookN [(58, ⟨[.t 3 false [.own 7], .t 4 false [.int .i64], .r 7 5 (.int .u8)], lt 8 13 [.x 20], false⟩)]
abbrev p_w_toByteS : List PK := [.val false (.rs 5 (.int .u8)) false]
abbrev r_w_toByteS : List RK := [.val false (.sl 5 (.int .u8))]
noncomputable def D_w_toByteS (f : Y_w_toByteS) : Nat × Fn := (14, ⟨p_w_toByteS, r_w_toByteS, fun x => f x.1⟩)
noncomputable def F_w_toByteS : Fn := (D_w_toByteS P_w_toByteS).2
theorem E_w_toByteS : ∀ x, (mkFn cfg [] A_w_toByteS 22 [.tmp 2] (Tryz.f14.body.getD .skip) p_w_toByteS r_w_toByteS).fn x = B_w_toByteS x.1 := by intro x; kernel_rfl
theorem S_w_toByteS : Sound Tryz.prog 14 F_w_toByteS := sm MO cfg_ok tab_nil Tryz.func14 (by kernel_rfl) (by decide) (E_w_toByteS)
abbrev p_i_inRange : List PK := [.val false (.int .i64) false, .val false (.int .i64) false, .val false (.int .i64) false]
abbrev r_i_inRange : List RK := [.val false .bool]
noncomputable def D_i_inRange (f : Y_i_inRange) : Nat × Fn := (61, ⟨p_i_inRange, r_i_inRange, fun x => f x.1 x.2.1 x.2.2.1⟩)
noncomputable def F_i_inRange : Fn := (D_i_inRange P_i_inRange).2
theorem E_i_inRange : ∀ x, (mkFn cfg [] (lookN []) 15 [.tmp 6] (Tryz.f61.body.getD .skip) p_i_inRange r_i_inRange).fn x = B_i_inRange x.1 x.2.1 x.2.2.1 := by intro x; kernel_rfl
theorem S_i_inRange : Sound Tryz.prog 61 F_i_inRange := sm MO cfg_ok tab_nil Tryz.func61 (by kernel_rfl) (by decide) (E_i_inRange)
abbrev p_i_numberField : List PK := [.val false (.int .i64) false]
abbrev r_i_numberField : List RK := [.val false .str, .val false (.int .i64)]
noncomputable def D_i_numberField (f : Y_i_numberField) : Nat × Fn := (136, ⟨p_i_numberField, r_i_numberField, fun x => f x.1⟩)
noncomputable def F_i_numberField : Fn := (D_i_numberField P_i_numberField).2
theorem E_i_numberField : ∀ x, (mkFn cfg [] (lookN []) 11 [.tmp 2, .tmp 3] (Tryz.f136.body.getD .skip) p_i_numberField r_i_numberField).fn x = B_i_numberField x.1 := by intro x; kernel_rfl
theorem S_i_numberField : Sound Tryz.prog 136 F_i_numberField := sm MO cfg_ok tab_nil Tryz.func136 (by kernel_rfl) (by decide) (E_i_numberField)
def A_i_idOk : Nat → Option Jn := lookN [(3, ⟨[], lt 3 30 [], false⟩), (26, ⟨[.t 3 false [.int .i64]], lt 4 29 [], false⟩)]
abbrev p_i_idOk : List PK := [.val false .str false]
abbrev r_i_idOk : List RK := [.val false .bool]
noncomputable def D_i_idOk (f : Y_i_idOk) : Nat × Fn := (137, ⟨p_i_idOk, r_i_idOk, fun x => f x.1⟩)
noncomputable def F_i_idOk : Fn := (D_i_idOk P_i_idOk).2
theorem E_i_idOk (f_i_inRange : Y_i_inRange) : ∀ x, (mkFn cfg [D_i_inRange f_i_inRange] A_i_idOk 36 [.tmp 2] (Tryz.f137.body.getD .skip) p_i_idOk r_i_idOk).fn x = B_i_idOk f_i_inRange x.1 := by intro x; kernel_rfl
theorem S_i_idOk : Sound Tryz.prog 137 F_i_idOk := sm MO cfg_ok (tc Tryz.call61 S_i_inRange tab_nil) Tryz.func137 (by kernel_rfl) (by decide) (E_i_idOk P_i_inRange)
abbrev p_i_ReqOk : List PK := [.val true kReq false]
abbrev r_i_ReqOk : List RK := [.val false .bool]
noncomputable def D_i_ReqOk (f : Y_i_ReqOk) : Nat × Fn := (62, ⟨p_i_ReqOk, r_i_ReqOk, fun x => f x.1⟩)
noncomputable def F_i_ReqOk : Fn := (D_i_ReqOk P_i_ReqOk).2
theorem E_i_ReqOk (f_i_inRange : Y_i_inRange) (f_i_numberField : Y_i_numberField) (f_i_idOk : Y_i_idOk) : ∀ x, (mkFn cfg [D_i_inRange f_i_inRange, D_i_numberField f_i_numberField, D_i_idOk f_i_idOk] (lookN []) 25 [.tmp 2] (Tryz.f62.body.getD .skip) p_i_ReqOk r_i_ReqOk).fn x = B_i_ReqOk f_i_inRange f_i_numberField f_i_idOk x.1 := by intro x; kernel_rfl
theorem S_i_ReqOk : Sound Tryz.prog 62 F_i_ReqOk := sm MO cfg_ok (tc Tryz.call61 S_i_inRange (tc Tryz.call136 S_i_numberField (tc Tryz.call137 S_i_idOk tab_nil))) Tryz.func62 (by kernel_rfl) (by decide) (E_i_ReqOk P_i_inRange P_i_numberField P_i_idOk)
abbrev p_i_sizeOf : List PK := [.val true kField false]
abbrev r_i_sizeOf : List RK := [.val false (.int .i64)]
noncomputable def D_i_sizeOf (f : Y_i_sizeOf) : Nat × Fn := (179, ⟨p_i_sizeOf, r_i_sizeOf, fun x => f x.1⟩)
noncomputable def F_i_sizeOf : Fn := (D_i_sizeOf P_i_sizeOf).2
theorem E_i_sizeOf : ∀ x, (mkFn cfg [] (lookN []) 11 [.tmp 2] (Tryz.f179.body.getD .skip) p_i_sizeOf r_i_sizeOf).fn x = B_i_sizeOf x.1 := by intro x; kernel_rfl
theorem S_i_sizeOf : Sound Tryz.prog 179 F_i_sizeOf := sm MO cfg_ok tab_nil Tryz.func179 (by kernel_rfl) (by decide) (E_i_sizeOf)
def A_i_SizeOf : Nat → Option Jn := lookN [(58, ⟨[.t 3 false [.int .i64], .t 9 false [.int .i64]], lt 10 8 [.b 5, .t 5], false⟩)]
abbrev p_i_SizeOf : List PK := [.val true (.pair (.int .i64) (.rs 150 kField)) false]
abbrev r_i_SizeOf : List RK := [.val false (.int .i64)]
noncomputable def D_i_SizeOf (f : Y_i_SizeOf) : Nat × Fn := (138, ⟨p_i_SizeOf, r_i_SizeOf, fun x => f x.1⟩)
noncomputable def F_i_SizeOf : Fn := (D_i_SizeOf P_i_SizeOf).2
theorem E_i_SizeOf (f_i_sizeOf : Y_i_sizeOf) : ∀ x, (mkFn cfg [D_i_sizeOf f_i_sizeOf] A_i_SizeOf 19 [.tmp 2] (Tryz.f138.body.getD .skip) p_i_SizeOf r_i_SizeOf).fn x = B_i_SizeOf f_i_sizeOf x.1 := by intro x; kernel_rfl
theorem S_i_SizeOf : Sound Tryz.prog 138 F_i_SizeOf := sm MO cfg_ok (tc Tryz.call179 S_i_sizeOf tab_nil) Tryz.func138 (by kernel_rfl) (by decide) (E_i_SizeOf P_i_sizeOf)
abbrev p_i_TableOk : List PK := [.val true (.pair (.int .i64) (.rs 150 kField)) false]
abbrev r_i_TableOk : List RK := [.val false .bool]
noncomputable def D_i_TableOk (f : Y_i_TableOk) : Nat × Fn := (63, ⟨p_i_TableOk, r_i_TableOk, fun x => f x.1⟩)
noncomputable def F_i_TableOk : Fn := (D_i_TableOk P_i_TableOk).2
theorem E_i_TableOk (f_i_inRange : Y_i_inRange) (f_i_SizeOf : Y_i_SizeOf) : ∀ x, (mkFn cfg [D_i_inRange f_i_inRange, D_i_SizeOf f_i_SizeOf] (lookN []) 13 [.tmp 2] (Tryz.f63.body.getD .skip) p_i_TableOk r_i_TableOk).fn x = B_i_TableOk f_i_inRange f_i_SizeOf x.1 := by intro x; kernel_rfl
theorem S_i_TableOk : Sound Tryz.prog 63 F_i_TableOk := sm MO cfg_ok (tc Tryz.call61 S_i_inRange (tc Tryz.call138 S_i_SizeOf tab_nil)) Tryz.func63 (by kernel_rfl) (by decide) (E_i_TableOk P_i_inRange P_i_SizeOf)
abbrev p_slices_Clone_impl_Field_impl_Field : List PK := [.val false (.rs 150 kField) false]
abbrev r_slices_Clone_impl_Field_impl_Field : List RK := [.val false (.sl 150 kField)]
noncomputable def D_slices_Clone_impl_Field_impl_Field (f : Y_slices_Clone_impl_Field_impl_Field) : Nat × Fn := (139, ⟨p_slices_Clone_impl_Field_impl_Field, r_slices_Clone_impl_Field_impl_Field, fun x => f x.1⟩)
noncomputable def F_slices_Clone_impl_Field_impl_Field : Fn := (D_slices_Clone_impl_Field_impl_Field P_slices_Clone_impl_Field_impl_Field).2
theorem E_slices_Clone_impl_Field_impl_Field : ∀ x, (mkFn cfg [] (lookN []) 8 [.tmp 2] (Tryz.f139.body.getD .skip) p_slices_Clone_impl_Field_impl_Field r_slices_Clone_impl_Field_impl_Field).fn x = B_slices_Clone_impl_Field_impl_Field x.1 := by intro x; kernel_rfl
theorem S_slices_Clone_impl_Field_impl_Field : Sound Tryz.prog 139 F_slices_Clone_impl_Field_impl_Field := sm MO cfg_ok tab_nil Tryz.func139 (by kernel_rfl) (by decide) (E_slices_Clone_impl_Field_impl_Field)
abbrev p_i_copyTable : List PK := [.val true (.pair (.int .i64) (.rs 150 kField)) false]
abbrev r_i_copyTable : List RK := [.val true kTable]
noncomputable def D_i_copyTable (f : Y_i_copyTable) : Nat × Fn := (64, ⟨p_i_copyTable, r_i_copyTable, fun x => f x.1⟩)
noncomputable def F_i_copyTable : Fn := (D_i_copyTable P_i_copyTable).2
theorem E_i_copyTable (f_slices_Clone_impl_Field_impl_Field : Y_slices_Clone_impl_Field_impl_Field) : ∀ x, (mkFn cfg [D_slices_Clone_impl_Field_impl_Field f_slices_Clone_impl_Field_impl_Field] (lookN []) 9 [.cell 2 32] (Tryz.f64.body.getD .skip) p_i_copyTable r_i_copyTable).fn x = B_i_copyTable f_slices_Clone_impl_Field_impl_Field x.1 := by intro x; kernel_rfl
theorem S_i_copyTable : Sound Tryz.prog 64 F_i_copyTable := sm MO cfg_ok (tc Tryz.call139 S_slices_Clone_impl_Field_impl_Field tab_nil) Tryz.func64 (by kernel_rfl) (by decide) (E_i_copyTable P_slices_Clone_impl_Field_impl_Field)
def A_i_Table_trim : Nat → Option Jn := lookN [(14, ⟨[.t 2 false [.int .i64], .t 14 false [.int .i64]], lt 15 10 [.b 4, .t 3, .t 4, .t 35, .x 17], false⟩)]
abbrev p_i_Table_trim : List PK := [.ptr kTable]
abbrev r_i_Table_trim : List RK := []
noncomputable def D_i_Table_trim (f : Y_i_Table_trim) : Nat × Fn := (195, ⟨p_i_Table_trim, r_i_Table_trim, fun x => f x.1⟩)
noncomputable def F_i_Table_trim : Fn := (D_i_Table_trim P_i_Table_trim).2
theorem E_i_Table_trim (f_slices_Clone_impl_Field_impl_Field : Y_slices_Clone_impl_Field_impl_Field) (f_i_sizeOf : Y_i_sizeOf) : ∀ x, (mkFn cfg [D_slices_Clone_impl_Field_impl_Field f_slices_Clone_impl_Field_impl_Field, D_i_sizeOf f_i_sizeOf] A_i_Table_trim 36 [] (Tryz.f195.body.getD .skip) p_i_Table_trim r_i_Table_trim).fn x = B_i_Table_trim f_slices_Clone_impl_Field_impl_Field f_i_sizeOf x.1 := by intro x; kernel_rfl
theorem S_i_Table_trim : Sound Tryz.prog 195 F_i_Table_trim := sm MO cfg_ok (tc Tryz.call139 S_slices_Clone_impl_Field_impl_Field (tc Tryz.call179 S_i_sizeOf tab_nil)) Tryz.func195 (by kernel_rfl) (by decide) (E_i_Table_trim P_slices_Clone_impl_Field_impl_Field P_i_sizeOf)
abbrev p_i_Table_add : List PK := [.ptr kTable, .val true kField false]
abbrev r_i_Table_add : List RK := []
noncomputable def D_i_Table_add (f : Y_i_Table_add) : Nat × Fn := (161, ⟨p_i_Table_add, r_i_Table_add, fun x => f x.1 x.2.1⟩)
noncomputable def F_i_Table_add : Fn := (D_i_Table_add P_i_Table_add).2
theorem E_i_Table_add (f_slices_Insert_impl_Field_impl_Field : Y_slices_Insert_impl_Field_impl_Field) (f_i_Table_trim : Y_i_Table_trim) : ∀ x, (mkFn cfg [D_slices_Insert_impl_Field_impl_Field f_slices_Insert_impl_Field_impl_Field, D_i_Table_trim f_i_Table_trim] (lookN []) 16 [] (Tryz.f161.body.getD .skip) p_i_Table_add r_i_Table_add).fn x = B_i_Table_add f_slices_Insert_impl_Field_impl_Field f_i_Table_trim x.1 x.2.1 := by intro x; kernel_rfl
theorem S_i_Table_add : Sound Tryz.prog 161 F_i_Table_add := sm MO cfg_ok (tc Tryz.call194 S_slices_Insert_impl_Field_impl_Field (tc Tryz.call195 S_i_Table_trim tab_nil)) Tryz.func161 (by kernel_rfl) (by decide) (E_i_Table_add P_slices_Insert_impl_Field_impl_Field P_i_Table_trim)
def A_slices_Concat_impl_Field_impl_Field : Nat → Option Jn := lookN [(7, ⟨[.t 3 false [.int .i64]], lt 9 12 [.t 5, .t 22], true⟩), (58, ⟨[.t 3 false [.int .i64], .t 11 false [.int .i64]], lt 12 9 [.t 5, .t 22], false⟩), (250, ⟨[.t 6 false [.own 100002000], .t 27 false [.int .i64], .r 100002000 150 kField], lt 28 7 [.r 33, .r 102400, .t 8], false⟩)]
abbrev p_slices_Concat_impl_Field_impl_Field : List PK := [.val false (.rs 30 (.sl 150 kField)) false]
abbrev r_slices_Concat_impl_Field_impl_Field : List RK := [.val false (.sl 150 kField)]
noncomputable def D_slices_Concat_impl_Field_impl_Field (f : Y_slices_Concat_impl_Field_impl_Field) : Nat × Fn := (208, ⟨p_slices_Concat_impl_Field_impl_Field, r_slices_Concat_impl_Field_impl_Field, fun x => f x.1⟩)
noncomputable def F_slices_Concat_impl_Field_impl_Field : Fn := (D_slices_Concat_impl_Field_impl_Field P_slices_Concat_impl_Field_impl_Field).2
theorem E_slices_Concat_impl_Field_impl_Field (f_slices_Grow_impl_Field_impl_Field : Y_slices_Grow_impl_Field_impl_Field) : ∀ x, (mkFn cfg [D_slices_Grow_impl_Field_impl_Field f_slices_Grow_impl_Field_impl_Field] A_slices_Concat_impl_Field_impl_Field 36 [.tmp 2] (Tryz.f208.body.getD .skip) p_slices_Concat_impl_Field_impl_Field r_slices_Concat_impl_Field_impl_Field).fn x = B_slices_Concat_impl_Field_impl_Field f_slices_Grow_impl_Field_impl_Field x.1 := by intro x; kernel_rfl
theorem S_slices_Concat_impl_Field_impl_Field : Sound Tryz.prog 208 F_slices_Concat_impl_Field_impl_Field := sm MO cfg_ok (tc Tryz.call230 S_slices_Grow_impl_Field_impl_Field tab_nil) Tryz.func208 (by kernel_rfl) (by decide) (E_slices_Concat_impl_Field_impl_Field P_slices_Grow_impl_Field_impl_Field)
def A_i_firstFields : Nat → Option Jn := lookN [(58, ⟨[.t 1 false [.own 100000000], .t 9 false [.int .i64], .r 100000000 150 kField], lt 10 16 (lt 3 4 [.r 23, .r 24, .x 11]), false⟩)]
abbrev p_i_firstFields : List PK := []
abbrev r_i_firstFields : List RK := [.val false (.sl 150 kField)]
noncomputable def D_i_firstFields (f : Y_i_firstFields) : Nat × Fn := (209, ⟨p_i_firstFields, r_i_firstFields, fun x => f⟩)
noncomputable def F_i_firstFields : Fn := (D_i_firstFields P_i_firstFields).2
theorem E_i_firstFields (f_strings_Split : Y_strings_Split) (f_strings_Cut : Y_strings_Cut) : ∀ x, (mkFn cfg [D_strings_Split f_strings_Split, D_strings_Cut f_strings_Cut] A_i_firstFields 27 [.tmp 0] (Tryz.f209.body.getD .skip) p_i_firstFields r_i_firstFields).fn x = B_i_firstFields f_strings_Split f_strings_Cut := by intro x; kernel_rfl
theorem S_i_firstFields : Sound Tryz.prog 209 F_i_firstFields := sm MO cfg_ok (tc Tryz.call231 S_strings_Split (tc Tryz.call232 S_strings_Cut tab_nil)) Tryz.func209 (by kernel_rfl) (by decide) (E_i_firstFields P_strings_Split P_strings_Cut)
def A_i_putPrefix : Nat → Option Jn := lookN [(255, ⟨[.t 0 false [.own 100000000], .t 3 false [.int .i64], .r 100000000 5 (.int .u8)], lt 41 11 [.r 37, .r 48, .r 49], true⟩), (1020, ⟨[.t 0 false [.own 100000000], .t 3 false [.int .i64], .r 100000000 5 (.int .u8)], lt 41 11 [.r 37, .r 48, .r 49], false⟩)]
abbrev p_i_putPrefix : List PK := [.val false (.sl 5 (.int .u8)) false, .val false (.int .i64) false, .val false (.int .i64) false, .val false (.int .i64) false]
abbrev r_i_putPrefix : List RK := [.val false (.sl 5 (.int .u8))]
noncomputable def D_i_putPrefix (f : Y_i_putPrefix) : Nat × Fn := (181, ⟨p_i_putPrefix, r_i_putPrefix, fun x => f x.1 x.2.1 x.2.2.1 x.2.2.2.1⟩)
noncomputable def F_i_putPrefix : Fn := (D_i_putPrefix P_i_putPrefix).2
theorem E_i_putPrefix : ∀ x, (mkFn cfg [] A_i_putPrefix 57 [.tmp 8] (Tryz.f181.body.getD .skip) p_i_putPrefix r_i_putPrefix).fn x = B_i_putPrefix x.1 x.2.1 x.2.2.1 x.2.2.2.1 := by intro x; kernel_rfl
theorem S_i_putPrefix : Sound Tryz.prog 181 F_i_putPrefix := sm MO cfg_ok tab_nil Tryz.func181 (by kernel_rfl) (by decide) (E_i_putPrefix)
abbrev p_i_formOf : List PK := [.val false (.int .i64) false]
abbrev r_i_formOf : List RK := [.val false (.int .i64), .val false (.int .i64)]
noncomputable def D_i_formOf (f : Y_i_formOf) : Nat × Fn := (182, ⟨p_i_formOf, r_i_formOf, fun x => f x.1⟩)
noncomputable def F_i_formOf : Fn := (D_i_formOf P_i_formOf).2
theorem E_i_formOf : ∀ x, (mkFn cfg [] (lookN []) 9 [.tmp 2, .tmp 3] (Tryz.f182.body.getD .skip) p_i_formOf r_i_formOf).fn x = B_i_formOf x.1 := by intro x; kernel_rfl
theorem S_i_formOf : Sound Tryz.prog 182 F_i_formOf := sm MO cfg_ok tab_nil Tryz.func182 (by kernel_rfl) (by decide) (E_i_formOf)
def A_i_codesOf : Nat → Option Jn := lookN [(7, ⟨[.r 1 247 kResp], lt 7 16 [.r 32768, .t 2, .t 3, .x 12, .x 20], true⟩), (58, ⟨[.t 9 false [.int .i64], .r 1 247 kResp], lt 10 13 [.t 2, .t 3, .x 12, .x 20], false⟩), (250, ⟨[.t 4 false [.int .i64], .t 5 false [.int .i64], .r 1 247 kResp], lt 23 22 [.t 6, .x 33, .x 40], false⟩), (32038, ⟨[.t 4 false [.int .i64], .t 29 false [.int .i64], .r 1 247 kResp], lt 30 15 [.t 6, .x 33, .x 40], false⟩)]
abbrev p_i_codesOf : List PK := []
abbrev r_i_codesOf : List RK := [.val false (.pa 257 kResp)]
noncomputable def D_i_codesOf (f : Y_i_codesOf) : Nat × Fn := (210, ⟨p_i_codesOf, r_i_codesOf, fun x => f⟩)
noncomputable def F_i_codesOf : Fn := (D_i_codesOf P_i_codesOf).2
theorem E_i_codesOf (f_strings_Split : Y_strings_Split) (f_strconv_Atoi : Y_strconv_Atoi) : ∀ x, (mkFn (cfg.withAr [(247, 257, 246)]) [D_strings_Split f_strings_Split, D_strconv_Atoi f_strconv_Atoi] A_i_codesOf 45 [.tmp 0] (Tryz.f210.body.getD .skip) p_i_codesOf r_i_codesOf).fn x = B_i_codesOf f_strings_Split f_strconv_Atoi := by intro x; kernel_rfl
theorem S_i_codesOf : Sound Tryz.prog 210 F_i_codesOf := sm MO (withAr_ok (l := [(247, 257, 246)]) cfg_ok ⟨arOk_mk (f := Tryz.t247) (ti := ⟨true, kResp, 16, [(0, 1, false), (1, 1, false)]⟩) Tryz.underlying247 (by kernel_rfl) (by kernel_rfl) (by kernel_rfl), trivial⟩) (tc Tryz.call231 S_strings_Split (tc Tryz.call233 S_strconv_Atoi tab_nil)) Tryz.func210 (by kernel_rfl) (by decide) (E_i_codesOf P_strings_Split P_strconv_Atoi)
def A_i_huffLen : Nat → Option Jn := lookN [(7, ⟨[.t 5 false [.int .i64]], lt 6 17 [], true⟩), (58, ⟨[.t 5 false [.int .i64], .t 6 false [.int .i64]], lt 7 16 [], false⟩)]
abbrev p_i_huffLen : List PK := [.val false (.pa 257 kResp) false, .val false .str false]
abbrev r_i_huffLen : List RK := [.val false (.int .i64)]
noncomputable def D_i_huffLen (f : Y_i_huffLen) : Nat × Fn := (211, ⟨p_i_huffLen, r_i_huffLen, fun x => f x.1 x.2.1⟩)
noncomputable def F_i_huffLen : Fn := (D_i_huffLen P_i_huffLen).2
theorem E_i_huffLen : ∀ x, (mkFn (cfg.withAr [(247, 257, 246)]) [] A_i_huffLen 26 [.tmp 4] (Tryz.f211.body.getD .skip) p_i_huffLen r_i_huffLen).fn x = B_i_huffLen x.1 x.2.1 := by intro x; kernel_rfl
theorem S_i_huffLen : Sound Tryz.prog 211 F_i_huffLen := sm MO (withAr_ok (l := [(247, 257, 246)]) cfg_ok ⟨arOk_mk (f := Tryz.t247) (ti := ⟨true, kResp, 16, [(0, 1, false), (1, 1, false)]⟩) Tryz.underlying247 (by kernel_rfl) (by kernel_rfl) (by kernel_rfl), trivial⟩) tab_nil Tryz.func211 (by kernel_rfl) (by decide) (E_i_huffLen)
def A_i_huff : Nat → Option Jn := lookN [(7, ⟨[.t 1 false [.own 100000001], .t 7 false [.int .i64], .t 8 false [.int .i64], .r 100000001 5 (.int .u8)], lt 12 43 [.b 10, .r 47, .r 48, .r 1100, .r 100001000, .t 9, .t 10], true⟩), (58, ⟨[.t 1 false [.own 100000001], .t 7 false [.int .i64], .t 8 false [.int .i64], .t 9 false [.int .i64], .r 100000001 5 (.int .u8)], lt 12 43 [.b 10, .r 47, .r 48, .r 1100, .r 100001000, .t 10], false⟩), (14926, ⟨[.t 1 false [.own 100001000], .t 7 false [.int .i64], .t 8 false [.int .i64], .r 100001000 5 (.int .u8)], lt 37 18 [.r 47, .r 48, .r 1100, .r 100000001], false⟩)]
abbrev p_i_huff : List PK := [.val false (.pa 257 kResp) false, .val false (.sl 5 (.int .u8)) false, .val false .str false]
abbrev r_i_huff : List RK := [.val false (.sl 5 (.int .u8))]
noncomputable def D_i_huff (f : Y_i_huff) : Nat × Fn := (212, ⟨p_i_huff, r_i_huff, fun x => f x.1 x.2.1 x.2.2.1⟩)
noncomputable def F_i_huff : Fn := (D_i_huff P_i_huff).2
theorem E_i_huff : ∀ x, (mkFn (cfg.withAr [(247, 257, 246)]) [] A_i_huff 72 [.tmp 6] (Tryz.f212.body.getD .skip) p_i_huff r_i_huff).fn x = B_i_huff x.1 x.2.1 x.2.2.1 := by intro x; kernel_rfl
theorem S_i_huff : Sound Tryz.prog 212 F_i_huff := sm MO (withAr_ok (l := [(247, 257, 246)]) cfg_ok ⟨arOk_mk (f := Tryz.t247) (ti := ⟨true, kResp, 16, [(0, 1, false), (1, 1, false)]⟩) Tryz.underlying247 (by kernel_rfl) (by kernel_rfl) (by kernel_rfl), trivial⟩) tab_nil Tryz.func212 (by kernel_rfl) (by decide) (E_i_huff)
abbrev p_i_putString : List PK := [.val false (.sl 5 (.int .u8)) false, .val false .str false]
abbrev r_i_putString : List RK := [.val false (.sl 5 (.int .u8))]
noncomputable def D_i_putString (f : Y_i_putString) : Nat × Fn := (183, ⟨p_i_putString, r_i_putString, fun x => f x.1 x.2.1⟩)
noncomputable def F_i_putString : Fn := (D_i_putString P_i_putString).2
theorem E_i_putString (f_i_putPrefix : Y_i_putPrefix) (f_i_codesOf : Y_i_codesOf) (f_i_huffLen : Y_i_huffLen) (f_i_huff : Y_i_huff) : ∀ x, (mkFn cfg [D_i_putPrefix f_i_putPrefix, D_i_codesOf f_i_codesOf, D_i_huffLen f_i_huffLen, D_i_huff f_i_huff] (lookN []) 27 [.tmp 4] (Tryz.f183.body.getD .skip) p_i_putString r_i_putString).fn x = B_i_putString f_i_putPrefix f_i_codesOf f_i_huffLen f_i_huff x.1 x.2.1 := by intro x; kernel_rfl
theorem S_i_putString : Sound Tryz.prog 183 F_i_putString := sm MO cfg_ok (tc Tryz.call181 S_i_putPrefix (tc Tryz.call210 S_i_codesOf (tc Tryz.call211 S_i_huffLen (tc Tryz.call212 S_i_huff tab_nil)))) Tryz.func183 (by kernel_rfl) (by decide) (E_i_putString P_i_putPrefix P_i_codesOf P_i_huffLen P_i_huff)
def A_i_FindField_r98_0_r99_0 : Nat → Option Jn := lookN [(7, ⟨[.t 6 false [.int .i64]], lt 25 12 (lt 7 16 [.b 8, .r 12, .r 40960, .r 57344, .x 18]), false⟩), (58, ⟨[.t 6 false [.int .i64], .t 15 false [.int .i64]], lt 25 12 (lt 16 7 [.b 8, .t 7, .t 8, .x 18]), false⟩)]
abbrev p_i_FindField_r98_0_r99_0 : List PK := [.val true (.pair (.int .i64) (.rs 150 kField)) false, .val true kField false]
abbrev r_i_FindField_r98_0_r99_0 : List RK := [.val false (.int .i64), .val false .bool]
noncomputable def D_i_FindField_r98_0_r99_0 (f : Y_i_FindField) : Nat × Fn := (180, ⟨p_i_FindField_r98_0_r99_0, r_i_FindField_r98_0_r99_0, fun x => f x.1 x.2.1⟩)
noncomputable def F_i_FindField_r98_0_r99_0 : Fn := (D_i_FindField_r98_0_r99_0 P_i_FindField).2
theorem E_i_FindField_r98_0_r99_0 (f_slices_Concat_impl_Field_impl_Field : Y_slices_Concat_impl_Field_impl_Field) (f_i_firstFields : Y_i_firstFields) : ∀ x, (mkFn (cfgR.withEq [(150, 1002)]) [D_slices_Concat_impl_Field_impl_Field f_slices_Concat_impl_Field_impl_Field, D_i_firstFields f_i_firstFields] A_i_FindField_r98_0_r99_0 38 [.tmp 4, .tmp 5] (Tryz.f180.body.getD .skip) p_i_FindField_r98_0_r99_0 r_i_FindField_r98_0_r99_0).fn x = B_i_FindField f_slices_Concat_impl_Field_impl_Field f_i_firstFields x.1 x.2.1 := by intro x; kernel_rfl
theorem S_i_FindField_r98_0_r99_0 : Sound Tryz.prog 180 F_i_FindField_r98_0_r99_0 := sm MO (withEq_ok (l := [(150, 1002)]) cfgR_ok ⟨eq150, trivial⟩) (tc Tryz.call208 S_slices_Concat_impl_Field_impl_Field (tc Tryz.call209 S_i_firstFields tab_nil)) Tryz.func180 (by kernel_rfl) (by decide) (E_i_FindField_r98_0_r99_0 P_slices_Concat_impl_Field_impl_Field P_i_firstFields)
end Go.Proofs.YthnfghmjipikhaaGreatDoor.Ev
