/- Each function of the program does what its plain function says. -/
import Derived.Test.YtpdcljonclhhpaaGreatTy
import Derived.Test.YtpdcljonclhhpaaGreatPu
import Derived.Test.YtpdcljonclhhpaaGreatIns
set_option linter.unusedVariables false
set_option maxRecDepth 100000
namespace Go.Proofs.YtpdcljonclhhpaaGreat.Ev
abbrev p_slices_Insert_impl_Up_impl_Up : List PK := [.val false (.sl 109 kUp) false, .val false (.int .i64) false, .val false (.sl 109 kUp) false]
abbrev r_slices_Insert_impl_Up_impl_Up : List RK := [.val false (.sl 109 kUp)]
noncomputable def D_slices_Insert_impl_Up_impl_Up (f : Y_slices_Insert_impl_Up_impl_Up) : Nat × Fn := (290, ⟨p_slices_Insert_impl_Up_impl_Up, r_slices_Insert_impl_Up_impl_Up, fun x => f x.1 x.2.1 x.2.2.1⟩)
noncomputable def F_slices_Insert_impl_Up_impl_Up : Fn := (D_slices_Insert_impl_Up_impl_Up P_slices_Insert_impl_Up_impl_Up).2
theorem S_slices_Insert_impl_Up_impl_Up : Sound Tryz.prog 290 F_slices_Insert_impl_Up_impl_Up := insert_sound kUp (by decide)
abbrev p_slices_Delete_impl_Up_impl_Up : List PK := [.val false (.sl 109 kUp) false, .val false (.int .i64) false, .val false (.int .i64) false]
abbrev r_slices_Delete_impl_Up_impl_Up : List RK := [.val false (.sl 109 kUp)]
noncomputable def D_slices_Delete_impl_Up_impl_Up (f : Y_slices_Delete_impl_Up_impl_Up) : Nat × Fn := (291, ⟨p_slices_Delete_impl_Up_impl_Up, r_slices_Delete_impl_Up_impl_Up, fun x => f x.1 x.2.1 x.2.2.1⟩)
noncomputable def F_slices_Delete_impl_Up_impl_Up : Fn := (D_slices_Delete_impl_Up_impl_Up P_slices_Delete_impl_Up_impl_Up).2
theorem S_slices_Delete_impl_Up_impl_Up : Sound Tryz.prog 291 F_slices_Delete_impl_Up_impl_Up := delete_sound kUp (by decide)
abbrev p_w_big : List PK := [.val false (.rs 5 (.int .u8)) false]
abbrev r_w_big : List RK := [.val false .bool]
noncomputable def D_w_big (f : Y_w_big) : Nat × Fn := (15, ⟨p_w_big, r_w_big, fun x => f x.1⟩)
noncomputable def F_w_big : Fn := (D_w_big P_w_big).2
theorem E_w_big : ∀ x, (mkFn cfg [] (lookN []) 6 [.tmp 2] (Tryz.f15.body.getD .skip) p_w_big r_w_big).fn x = B_w_big x.1 := by intro x; kernel_rfl
theorem S_w_big : Sound Tryz.prog 15 F_w_big := sm MO cfg_ok tab_nil Tryz.func15 (by kernel_rfl) (by decide) (E_w_big)
abbrev p_s_l1In : List PK := [.val false (.int .i64) false, .val false (.int .i64) false, .val false (.int .i64) false]
abbrev r_s_l1In : List RK := [.val false .bool]
noncomputable def D_s_l1In (f : Y_s_l1In) : Nat × Fn := (120, ⟨p_s_l1In, r_s_l1In, fun x => f x.1 x.2.1 x.2.2.1⟩)
noncomputable def F_s_l1In : Fn := (D_s_l1In P_s_l1In).2
theorem E_s_l1In : ∀ x, (mkFn cfg [] (lookN []) 15 [.tmp 6] (Tryz.f120.body.getD .skip) p_s_l1In r_s_l1In).fn x = B_s_l1In x.1 x.2.1 x.2.2.1 := by intro x; kernel_rfl
theorem S_s_l1In : Sound Tryz.prog 120 F_s_l1In := sm MO cfg_ok tab_nil Tryz.func120 (by kernel_rfl) (by decide) (E_s_l1In)
def A_s_Crc : Nat → Option Jn := lookN [(7, ⟨[.t 3 false [.int .i64]], lt 4 28 [], true⟩), (58, ⟨[.t 3 false [.int .i64], .t 4 false [.int .i64]], lt 5 27 [], false⟩), (7462, ⟨[.t 3 false [.int .i64], .t 5 false [.int .i64]], lt 20 12 [.t 6], false⟩)]
abbrev p_s_Crc : List PK := [.val false (.rs 5 (.int .u8)) false]
abbrev r_s_Crc : List RK := [.val false (.int .i64)]
noncomputable def D_s_Crc (f : Y_s_Crc) : Nat × Fn := (152, ⟨p_s_Crc, r_s_Crc, fun x => f x.1⟩)
noncomputable def F_s_Crc : Fn := (D_s_Crc P_s_Crc).2
theorem E_s_Crc : ∀ x, (mkFn cfg [] A_s_Crc 34 [.tmp 2] (Tryz.f152.body.getD .skip) p_s_Crc r_s_Crc).fn x = B_s_Crc x.1 := by intro x; kernel_rfl
theorem S_s_Crc : Sound Tryz.prog 152 F_s_Crc := sm MO cfg_ok tab_nil Tryz.func152 (by kernel_rfl) (by decide) (E_s_Crc)
def A_s_l11Id : Nat → Option Jn := lookN [(3, ⟨[], lt 3 21 [], false⟩), (26, ⟨[.t 3 false [.int .i64]], lt 4 20 [], false⟩)]
abbrev p_s_l11Id : List PK := [.val false .str false]
abbrev r_s_l11Id : List RK := [.val false .bool]
noncomputable def D_s_l11Id (f : Y_s_l11Id) : Nat × Fn := (160, ⟨p_s_l11Id, r_s_l11Id, fun x => f x.1⟩)
noncomputable def F_s_l11Id : Fn := (D_s_l11Id P_s_l11Id).2
theorem E_s_l11Id (f_s_l1In : Y_s_l1In) : ∀ x, (mkFn cfg [D_s_l1In f_s_l1In] A_s_l11Id 27 [.tmp 2] (Tryz.f160.body.getD .skip) p_s_l11Id r_s_l11Id).fn x = B_s_l11Id f_s_l1In x.1 := by intro x; kernel_rfl
theorem S_s_l11Id : Sound Tryz.prog 160 F_s_l11Id := sm MO cfg_ok (tc Tryz.call120 S_s_l1In tab_nil) Tryz.func160 (by kernel_rfl) (by decide) (E_s_l11Id P_s_l1In)
abbrev p_s_ClientOk : List PK := [.val true (.pair .str (.pair (.rs 5 (.int .u8)) kResp)) false]
abbrev r_s_ClientOk : List RK := [.val false .bool]
noncomputable def D_s_ClientOk (f : Y_s_ClientOk) : Nat × Fn := (215, ⟨p_s_ClientOk, r_s_ClientOk, fun x => f x.1⟩)
noncomputable def F_s_ClientOk : Fn := (D_s_ClientOk P_s_ClientOk).2
theorem E_s_ClientOk (f_s_l1In : Y_s_l1In) (f_s_l11Id : Y_s_l11Id) : ∀ x, (mkFn cfg [D_s_l1In f_s_l1In, D_s_l11Id f_s_l11Id] (lookN []) 25 [.tmp 2] (Tryz.f215.body.getD .skip) p_s_ClientOk r_s_ClientOk).fn x = B_s_ClientOk f_s_l1In f_s_l11Id x.1 := by intro x; kernel_rfl
theorem S_s_ClientOk : Sound Tryz.prog 215 F_s_ClientOk := sm MO cfg_ok (tc Tryz.call120 S_s_l1In (tc Tryz.call160 S_s_l11Id tab_nil)) Tryz.func215 (by kernel_rfl) (by decide) (E_s_ClientOk P_s_l1In P_s_l11Id)
def A_s_NextReq : Nat → Option Jn := lookN [(128503, ⟨[.t 7 false [.int .i64]], lt 40 8 [], true⟩)]
abbrev p_s_NextReq : List PK := [.val true (.pair .str (.pair (.rs 5 (.int .u8)) kResp)) false]
abbrev r_s_NextReq : List RK := [.val true kReq, .val false (.sl 5 (.int .u8)), .val false .bool]
noncomputable def D_s_NextReq (f : Y_s_NextReq) : Nat × Fn := (251, ⟨p_s_NextReq, r_s_NextReq, fun x => f x.1⟩)
noncomputable def F_s_NextReq : Fn := (D_s_NextReq P_s_NextReq).2
theorem E_s_NextReq (f_s_Crc : Y_s_Crc) (f_s_ClientOk : Y_s_ClientOk) : ∀ x, (mkFn cfg [D_s_Crc f_s_Crc, D_s_ClientOk f_s_ClientOk] A_s_NextReq 65 [.cell 2 43, .tmp 3, .tmp 4] (Tryz.f251.body.getD .skip) p_s_NextReq r_s_NextReq).fn x = B_s_NextReq f_s_Crc f_s_ClientOk x.1 := by intro x; kernel_rfl
theorem S_s_NextReq : Sound Tryz.prog 251 F_s_NextReq := sm MO cfg_ok (tc Tryz.call152 S_s_Crc (tc Tryz.call215 S_s_ClientOk tab_nil)) Tryz.func251 (by kernel_rfl) (by decide) (E_s_NextReq P_s_Crc P_s_ClientOk)
abbrev p_s_l12Copy : List PK := [.val true (.pair (.rs 9 .str) (.rs 9 .str)) false]
abbrev r_s_l12Copy : List RK := [.val true kDisk]
noncomputable def D_s_l12Copy (f : Y_s_l12Copy) : Nat × Fn := (229, ⟨p_s_l12Copy, r_s_l12Copy, fun x => f x.1⟩)
noncomputable def F_s_l12Copy : Fn := (D_s_l12Copy P_s_l12Copy).2
theorem E_s_l12Copy : ∀ x, (mkFn cfg [] (lookN []) 12 [.cell 2 26] (Tryz.f229.body.getD .skip) p_s_l12Copy r_s_l12Copy).fn x = B_s_l12Copy x.1 := by intro x; kernel_rfl
theorem S_s_l12Copy : Sound Tryz.prog 229 F_s_l12Copy := sm MO cfg_ok tab_nil Tryz.func229 (by kernel_rfl) (by decide) (E_s_l12Copy)
def A_s_l14CopyUps : Nat → Option Jn := lookN [(58, ⟨[.t 3 false [.own 100000000], .t 4 false [.int .i64], .r 100000000 109 kUp], lt 7 19 [.b 5, .r 6, .r 17, .r 20, .r 24, .r 25, .t 5], false⟩)]
abbrev p_s_l14CopyUps : List PK := [.val false (.rs 109 kUp) false]
abbrev r_s_l14CopyUps : List RK := [.val false (.sl 109 kUp)]
noncomputable def D_s_l14CopyUps (f : Y_s_l14CopyUps) : Nat × Fn := (230, ⟨p_s_l14CopyUps, r_s_l14CopyUps, fun x => f x.1⟩)
noncomputable def F_s_l14CopyUps : Fn := (D_s_l14CopyUps P_s_l14CopyUps).2
theorem E_s_l14CopyUps : ∀ x, (mkFn cfg [] A_s_l14CopyUps 27 [.tmp 2] (Tryz.f230.body.getD .skip) p_s_l14CopyUps r_s_l14CopyUps).fn x = B_s_l14CopyUps x.1 := by intro x; kernel_rfl
theorem S_s_l14CopyUps : Sound Tryz.prog 230 F_s_l14CopyUps := sm MO cfg_ok tab_nil Tryz.func230 (by kernel_rfl) (by decide) (E_s_l14CopyUps)
abbrev p_s_l14Copy : List PK := [.val true (.pair (.pair (.rs 9 .str) (.rs 9 .str)) (.pair (.int .i64) (.pair (.int .i64) (.rs 109 kUp)))) false]
abbrev r_s_l14Copy : List RK := [.val true kStore]
noncomputable def D_s_l14Copy (f : Y_s_l14Copy) : Nat × Fn := (157, ⟨p_s_l14Copy, r_s_l14Copy, fun x => f x.1⟩)
noncomputable def F_s_l14Copy : Fn := (D_s_l14Copy P_s_l14Copy).2
theorem E_s_l14Copy (f_s_l12Copy : Y_s_l12Copy) (f_s_l14CopyUps : Y_s_l14CopyUps) : ∀ x, (mkFn cfg [D_s_l12Copy f_s_l12Copy, D_s_l14CopyUps f_s_l14CopyUps] (lookN []) 14 [.cell 2 29] (Tryz.f157.body.getD .skip) p_s_l14Copy r_s_l14Copy).fn x = B_s_l14Copy f_s_l12Copy f_s_l14CopyUps x.1 := by intro x; kernel_rfl
theorem S_s_l14Copy : Sound Tryz.prog 157 F_s_l14Copy := sm MO cfg_ok (tc Tryz.call229 S_s_l12Copy (tc Tryz.call230 S_s_l14CopyUps tab_nil)) Tryz.func157 (by kernel_rfl) (by decide) (E_s_l14Copy P_s_l12Copy P_s_l14CopyUps)
def A_s_DiskOk : Nat → Option Jn := lookN [(3, ⟨[], lt 4 13 [], false⟩), (58, ⟨[.t 3 false [.int .i64]], lt 17 23 [], false⟩)]
abbrev p_s_DiskOk : List PK := [.val true (.pair (.rs 9 .str) (.rs 9 .str)) false]
abbrev r_s_DiskOk : List RK := [.val false .bool]
noncomputable def D_s_DiskOk (f : Y_s_DiskOk) : Nat × Fn := (231, ⟨p_s_DiskOk, r_s_DiskOk, fun x => f x.1⟩)
noncomputable def F_s_DiskOk : Fn := (D_s_DiskOk P_s_DiskOk).2
theorem E_s_DiskOk : ∀ x, (mkFn cfg [] A_s_DiskOk 40 [.tmp 2] (Tryz.f231.body.getD .skip) p_s_DiskOk r_s_DiskOk).fn x = B_s_DiskOk x.1 := by intro x; kernel_rfl
theorem S_s_DiskOk : Sound Tryz.prog 231 F_s_DiskOk := sm MO cfg_ok tab_nil Tryz.func231 (by kernel_rfl) (by decide) (E_s_DiskOk)
def A_s_GetBig : Nat → Option Jn := lookN [(3, ⟨[], lt 10 15 [], false⟩), (15, ⟨[.t 8 false [.int .i64]], lt 25 15 [.t 9], true⟩), (122, ⟨[.t 8 false [.int .i64], .t 9 false [.int .i64]], lt 25 15 [], false⟩)]
abbrev p_s_GetBig : List PK := [.val false (.rs 5 (.int .u8)) false, .val false (.int .i64) false, .val false (.int .i64) false]
abbrev r_s_GetBig : List RK := [.val false (.int .i64), .val false .bool]
noncomputable def D_s_GetBig (f : Y_s_GetBig) : Nat × Fn := (282, ⟨p_s_GetBig, r_s_GetBig, fun x => f x.1 x.2.1 x.2.2.1⟩)
noncomputable def F_s_GetBig : Fn := (D_s_GetBig P_s_GetBig).2
theorem E_s_GetBig (f_s_l1In : Y_s_l1In) : ∀ x, (mkFn cfg [D_s_l1In f_s_l1In] A_s_GetBig 41 [.tmp 6, .tmp 7] (Tryz.f282.body.getD .skip) p_s_GetBig r_s_GetBig).fn x = B_s_GetBig f_s_l1In x.1 x.2.1 x.2.2.1 := by intro x; kernel_rfl
theorem S_s_GetBig : Sound Tryz.prog 282 F_s_GetBig := sm MO cfg_ok (tc Tryz.call120 S_s_l1In tab_nil) Tryz.func282 (by kernel_rfl) (by decide) (E_s_GetBig P_s_l1In)
def A_s_RecOk : Nat → Option Jn := lookN [(3, ⟨[], lt 3 16 [], false⟩), (943, ⟨[.t 43 false [.bool]], [.t 44, .t 45], true⟩)]
abbrev p_s_RecOk : List PK := [.val true (.pair (.int .i64) (.pair (.int .i64) (.pair (.int .i64) (.pair .str (.pair (.int .i64) (.rs 5 (.int .u8))))))) false]
abbrev r_s_RecOk : List RK := [.val false .bool]
noncomputable def D_s_RecOk (f : Y_s_RecOk) : Nat × Fn := (283, ⟨p_s_RecOk, r_s_RecOk, fun x => f x.1⟩)
noncomputable def F_s_RecOk : Fn := (D_s_RecOk P_s_RecOk).2
theorem E_s_RecOk (f_s_l1In : Y_s_l1In) (f_s_l11Id : Y_s_l11Id) : ∀ x, (mkFn cfg [D_s_l1In f_s_l1In, D_s_l11Id f_s_l11Id] A_s_RecOk 55 [.tmp 2] (Tryz.f283.body.getD .skip) p_s_RecOk r_s_RecOk).fn x = B_s_RecOk f_s_l1In f_s_l11Id x.1 := by intro x; kernel_rfl
theorem S_s_RecOk : Sound Tryz.prog 283 F_s_RecOk := sm MO cfg_ok (tc Tryz.call120 S_s_l1In (tc Tryz.call160 S_s_l11Id tab_nil)) Tryz.func283 (by kernel_rfl) (by decide) (E_s_RecOk P_s_l1In P_s_l11Id)
def A_s_PutBig : Nat → Option Jn := lookN [(7, ⟨[.t 1 false [.int .i64]], [.t 12, .t 13], true⟩), (250, ⟨[.t 7 false [.own 100001000], .t 8 false [.int .i64], .r 100001000 5 (.int .u8)], lt 20 13 [.r 11, .r 31, .r 32], false⟩)]
abbrev p_s_PutBig : List PK := [.val false (.rs 5 (.int .u8)) false, .val false (.int .i64) false, .val false (.int .i64) false]
abbrev r_s_PutBig : List RK := [.val false (.sl 5 (.int .u8))]
noncomputable def D_s_PutBig (f : Y_s_PutBig) : Nat × Fn := (306, ⟨p_s_PutBig, r_s_PutBig, fun x => f x.1 x.2.1 x.2.2.1⟩)
noncomputable def F_s_PutBig : Fn := (D_s_PutBig P_s_PutBig).2
theorem E_s_PutBig (f_s_l1In : Y_s_l1In) : ∀ x, (mkFn cfg [D_s_l1In f_s_l1In] A_s_PutBig 34 [.tmp 6] (Tryz.f306.body.getD .skip) p_s_PutBig r_s_PutBig).fn x = B_s_PutBig f_s_l1In x.1 x.2.1 x.2.2.1 := by intro x; kernel_rfl
theorem S_s_PutBig : Sound Tryz.prog 306 F_s_PutBig := sm MO cfg_ok (tc Tryz.call120 S_s_l1In tab_nil) Tryz.func306 (by kernel_rfl) (by decide) (E_s_PutBig P_s_l1In)
abbrev p_s_l13Put : List PK := [.val true (.pair (.int .i64) (.pair (.int .i64) (.pair (.int .i64) (.pair .str (.pair (.int .i64) (.rs 5 (.int .u8))))))) false]
abbrev r_s_l13Put : List RK := [.val false .str]
noncomputable def D_s_l13Put (f : Y_s_l13Put) : Nat × Fn := (284, ⟨p_s_l13Put, r_s_l13Put, fun x => f x.1⟩)
noncomputable def F_s_l13Put : Fn := (D_s_l13Put P_s_l13Put).2
theorem E_s_l13Put (f_s_Crc : Y_s_Crc) (f_s_PutBig : Y_s_PutBig) : ∀ x, (mkFn cfg [D_s_Crc f_s_Crc, D_s_PutBig f_s_PutBig] (lookN []) 38 [.tmp 2] (Tryz.f284.body.getD .skip) p_s_l13Put r_s_l13Put).fn x = B_s_l13Put f_s_Crc f_s_PutBig x.1 := by intro x; kernel_rfl
theorem S_s_l13Put : Sound Tryz.prog 284 F_s_l13Put := sm MO cfg_ok (tc Tryz.call152 S_s_Crc (tc Tryz.call306 S_s_PutBig tab_nil)) Tryz.func284 (by kernel_rfl) (by decide) (E_s_l13Put P_s_Crc P_s_PutBig)
def A_s_GetRec : Nat → Option Jn := lookN [(255, ⟨[], lt 42 21 [], false⟩), (4095, ⟨[], lt 87 15 [], false⟩)]
abbrev p_s_GetRec : List PK := [.val false .str false]
abbrev r_s_GetRec : List RK := [.val true kRec, .val false .bool]
noncomputable def D_s_GetRec (f : Y_s_GetRec) : Nat × Fn := (235, ⟨p_s_GetRec, r_s_GetRec, fun x => f x.1⟩)
noncomputable def F_s_GetRec : Fn := (D_s_GetRec P_s_GetRec).2
theorem E_s_GetRec (f_s_GetBig : Y_s_GetBig) (f_s_RecOk : Y_s_RecOk) (f_s_l13Put : Y_s_l13Put) : ∀ x, (mkFn cfg [D_s_GetBig f_s_GetBig, D_s_RecOk f_s_RecOk, D_s_l13Put f_s_l13Put] A_s_GetRec 127 [.cell 2 194, .tmp 3] (Tryz.f235.body.getD .skip) p_s_GetRec r_s_GetRec).fn x = B_s_GetRec f_s_GetBig f_s_RecOk f_s_l13Put x.1 := by intro x; kernel_rfl
theorem S_s_GetRec : Sound Tryz.prog 235 F_s_GetRec := sm MO cfg_ok (tc Tryz.call282 S_s_GetBig (tc Tryz.call283 S_s_RecOk (tc Tryz.call284 S_s_l13Put tab_nil))) Tryz.func235 (by kernel_rfl) (by decide) (E_s_GetRec P_s_GetBig P_s_RecOk P_s_l13Put)
def A_s_ScanRecs : Nat → Option Jn := lookN [(122, ⟨[.t 3 false [.own 100000000], .t 4 false [.int .i64], .t 5 false [.int .i64], .r 100000000 194 kRec], lt 40 6 (lt 9 30 [.b 6, .r 8, .r 42, .r 43, .r 94213, .t 6, .t 7]), false⟩)]
abbrev p_s_ScanRecs : List PK := [.val true (.pair (.rs 9 .str) (.rs 9 .str)) false]
abbrev r_s_ScanRecs : List RK := [.val false (.sl 194 kRec)]
noncomputable def D_s_ScanRecs (f : Y_s_ScanRecs) : Nat × Fn := (232, ⟨p_s_ScanRecs, r_s_ScanRecs, fun x => f x.1⟩)
noncomputable def F_s_ScanRecs : Fn := (D_s_ScanRecs P_s_ScanRecs).2
theorem E_s_ScanRecs (f_s_GetRec : Y_s_GetRec) : ∀ x, (mkFn cfg [D_s_GetRec f_s_GetRec] A_s_ScanRecs 47 [.tmp 2] (Tryz.f232.body.getD .skip) p_s_ScanRecs r_s_ScanRecs).fn x = B_s_ScanRecs f_s_GetRec x.1 := by intro x; kernel_rfl
theorem S_s_ScanRecs : Sound Tryz.prog 232 F_s_ScanRecs := sm MO cfg_ok (tc Tryz.call235 S_s_GetRec tab_nil) Tryz.func232 (by kernel_rfl) (by decide) (E_s_ScanRecs P_s_GetRec)
def A_s_l14At : Nat → Option Jn := lookN [(26, ⟨[.t 5 false [.int .i64]], lt 6 13 [], false⟩)]
abbrev p_s_l14At : List PK := [.val false (.rs 109 kUp) false, .val false .str false]
abbrev r_s_l14At : List RK := [.val false (.int .i64)]
noncomputable def D_s_l14At (f : Y_s_l14At) : Nat × Fn := (206, ⟨p_s_l14At, r_s_l14At, fun x => f x.1 x.2.1⟩)
noncomputable def F_s_l14At : Fn := (D_s_l14At P_s_l14At).2
theorem E_s_l14At : ∀ x, (mkFn cfg [] A_s_l14At 20 [.tmp 4] (Tryz.f206.body.getD .skip) p_s_l14At r_s_l14At).fn x = B_s_l14At x.1 x.2.1 := by intro x; kernel_rfl
theorem S_s_l14At : Sound Tryz.prog 206 F_s_l14At := sm MO cfg_ok tab_nil Tryz.func206 (by kernel_rfl) (by decide) (E_s_l14At)
def A_s_l14CopyUps_r98_0_r99_0 : Nat → Option Jn := lookN [(58, ⟨[.t 3 false [.own 100000000], .t 4 false [.int .i64], .r 100000000 109 (.pair .str (.pair (.int .i64) (.pair (.rs 5 (.int .u8)) .bool)))], lt 7 19 [.b 5, .r 6, .r 17, .r 20, .r 24, .r 25, .t 5], false⟩)]
abbrev p_s_l14CopyUps_r98_0_r99_0 : List PK := [.val false (.rs 109 kUp) false]
abbrev r_s_l14CopyUps_r98_0_r99_0 : List RK := [.val false (.sl 109 (.pair .str (.pair (.int .i64) (.pair (.rs 5 (.int .u8)) .bool))))]
noncomputable def D_s_l14CopyUps_r98_0_r99_0 (f : Y_s_l14CopyUps) : Nat × Fn := (230, ⟨p_s_l14CopyUps_r98_0_r99_0, r_s_l14CopyUps_r98_0_r99_0, fun x => f x.1⟩)
noncomputable def F_s_l14CopyUps_r98_0_r99_0 : Fn := (D_s_l14CopyUps_r98_0_r99_0 P_s_l14CopyUps).2
theorem E_s_l14CopyUps_r98_0_r99_0 : ∀ x, (mkFn cfgR [] A_s_l14CopyUps_r98_0_r99_0 27 [.tmp 2] (Tryz.f230.body.getD .skip) p_s_l14CopyUps_r98_0_r99_0 r_s_l14CopyUps_r98_0_r99_0).fn x = B_s_l14CopyUps x.1 := by intro x; kernel_rfl
theorem S_s_l14CopyUps_r98_0_r99_0 : Sound Tryz.prog 230 F_s_l14CopyUps_r98_0_r99_0 := sm MO cfgR_ok tab_nil Tryz.func230 (by kernel_rfl) (by decide) (E_s_l14CopyUps_r98_0_r99_0)
def A_s_l14Make_r98_0_r99_0 : Nat → Option Jn := lookN [(15, ⟨[.t 5 false [.own 11], .t 6 false [.int .i64], .r 11 109 (.pair .str (.pair (.int .i64) (.pair (.rs 5 (.int .u8)) .bool)))], lt 15 23 [.x 21, .x 33, .x 35], true⟩), (60, ⟨[.t 5 false [.own 11], .t 6 false [.int .i64], .r 11 109 (.pair .str (.pair (.int .i64) (.pair (.rs 5 (.int .u8)) .bool)))], lt 15 23 [.x 21, .x 33, .x 35], false⟩), (120, ⟨[], lt 15 13 [.x 21], false⟩)]
abbrev p_s_l14Make_r98_0_r99_0 : List PK := [.val false (.rs 109 kUp) false, .val true (.pair .str (.pair (.int .i64) (.pair (.rs 5 (.int .u8)) .bool))) false]
abbrev r_s_l14Make_r98_0_r99_0 : List RK := [.val false (.sl 109 (.pair .str (.pair (.int .i64) (.pair (.rs 5 (.int .u8)) .bool))))]
noncomputable def D_s_l14Make_r98_0_r99_0 (f : Y_s_l14Make_r98_0_r99_0) : Nat × Fn := (305, ⟨p_s_l14Make_r98_0_r99_0, r_s_l14Make_r98_0_r99_0, fun x => f x.1 x.2.1⟩)
noncomputable def F_s_l14Make_r98_0_r99_0 : Fn := (D_s_l14Make_r98_0_r99_0 P_s_l14Make_r98_0_r99_0).2
theorem E_s_l14Make_r98_0_r99_0 (f_s_l14CopyUps : Y_s_l14CopyUps) : ∀ x, (mkFn cfgR [D_s_l14CopyUps_r98_0_r99_0 f_s_l14CopyUps] A_s_l14Make_r98_0_r99_0 43 [.tmp 4] (Tryz.f305.body.getD .skip) p_s_l14Make_r98_0_r99_0 r_s_l14Make_r98_0_r99_0).fn x = B_s_l14Make_r98_0_r99_0 f_s_l14CopyUps x.1 x.2.1 := by intro x; kernel_rfl
theorem S_s_l14Make_r98_0_r99_0 : Sound Tryz.prog 305 F_s_l14Make_r98_0_r99_0 := sm MO cfgR_ok (tc Tryz.call230 S_s_l14CopyUps_r98_0_r99_0 tab_nil) Tryz.func305 (by kernel_rfl) (by decide) (E_s_l14Make_r98_0_r99_0 P_s_l14CopyUps)
def A_s_l14One_r99_0 : Nat → Option Jn := lookN [(4074, ⟨[], lt 43 27 [], false⟩)]
abbrev p_s_l14One_r99_0 : List PK := [.val false (.rs 109 kUp) false, .val true (.pair (.int .i64) (.pair (.int .i64) (.pair (.int .i64) (.pair .str (.pair (.int .i64) (.rs 5 (.int .u8))))))) false]
abbrev r_s_l14One_r99_0 : List RK := [.val false (.rs 109 (.pair .str (.pair (.int .i64) (.pair (.rs 5 (.int .u8)) .bool)))), .val false .bool]
noncomputable def D_s_l14One_r99_0 (f : Y_s_l14One_r99_0) : Nat × Fn := (281, ⟨p_s_l14One_r99_0, r_s_l14One_r99_0, fun x => f x.1 x.2.1⟩)
noncomputable def F_s_l14One_r99_0 : Fn := (D_s_l14One_r99_0 P_s_l14One_r99_0).2
theorem E_s_l14One_r99_0 (f_s_l14At : Y_s_l14At) (f_s_l14CopyUps : Y_s_l14CopyUps) (f_s_l14Make_r98_0_r99_0 : Y_s_l14Make_r98_0_r99_0) : ∀ x, (mkFn cfg [D_s_l14At f_s_l14At, D_s_l14CopyUps f_s_l14CopyUps, D_s_l14Make_r98_0_r99_0 f_s_l14Make_r98_0_r99_0] A_s_l14One_r99_0 114 [.tmp 4, .tmp 5] (Tryz.f281.body.getD .skip) p_s_l14One_r99_0 r_s_l14One_r99_0).fn x = B_s_l14One_r99_0 f_s_l14At f_s_l14CopyUps f_s_l14Make_r98_0_r99_0 x.1 x.2.1 := by intro x; kernel_rfl
theorem S_s_l14One_r99_0 : Sound Tryz.prog 281 F_s_l14One_r99_0 := sm MO cfg_ok (tc Tryz.call206 S_s_l14At (tc Tryz.call230 S_s_l14CopyUps (tc Tryz.call305 S_s_l14Make_r98_0_r99_0 tab_nil))) Tryz.func281 (by kernel_rfl) (by decide) (E_s_l14One_r99_0 P_s_l14At P_s_l14CopyUps P_s_l14Make_r98_0_r99_0)
def A_s_l14SameUps : Nat → Option Jn := lookN [(58, ⟨[.t 5 false [.int .i64]], lt 11 58 [], false⟩)]
abbrev p_s_l14SameUps : List PK := [.val false (.rs 109 kUp) false, .val false (.rs 109 kUp) false]
abbrev r_s_l14SameUps : List RK := [.val false .bool]
noncomputable def D_s_l14SameUps (f : Y_s_l14SameUps) : Nat × Fn := (234, ⟨p_s_l14SameUps, r_s_l14SameUps, fun x => f x.1 x.2.1⟩)
noncomputable def F_s_l14SameUps : Fn := (D_s_l14SameUps P_s_l14SameUps).2
theorem E_s_l14SameUps : ∀ x, (mkFn cfg [] A_s_l14SameUps 69 [.tmp 4] (Tryz.f234.body.getD .skip) p_s_l14SameUps r_s_l14SameUps).fn x = B_s_l14SameUps x.1 x.2.1 := by intro x; kernel_rfl
theorem S_s_l14SameUps : Sound Tryz.prog 234 F_s_l14SameUps := sm MO cfg_ok tab_nil Tryz.func234 (by kernel_rfl) (by decide) (E_s_l14SameUps)
def A_s_FoldRecs_r99_0 : Nat → Option Jn := lookN [(7, ⟨[.t 4 false [.ro 109 (.pair .str (.pair (.int .i64) (.pair (.rs 5 (.int .u8)) .bool)))]], lt 5 21 [.r 8, .t 27], false⟩), (58, ⟨[.t 4 false [.ro 109 (.pair .str (.pair (.int .i64) (.pair (.rs 5 (.int .u8)) .bool)))], .t 5 false [.int .i64]], lt 6 20 [.r 8, .t 27], false⟩)]
abbrev p_s_FoldRecs_r99_0 : List PK := [.val false (.rs 194 kRec) false]
abbrev r_s_FoldRecs_r99_0 : List RK := [.val false (.rs 109 kUp), .val false .bool]
noncomputable def D_s_FoldRecs_r99_0 (f : Y_s_FoldRecs_r99_0) : Nat × Fn := (233, ⟨p_s_FoldRecs_r99_0, r_s_FoldRecs_r99_0, fun x => f x.1⟩)
noncomputable def F_s_FoldRecs_r99_0 : Fn := (D_s_FoldRecs_r99_0 P_s_FoldRecs_r99_0).2
theorem E_s_FoldRecs_r99_0 (f_s_l14One_r99_0 : Y_s_l14One_r99_0) : ∀ x, (mkFn cfg [D_s_l14One_r99_0 f_s_l14One_r99_0] A_s_FoldRecs_r99_0 29 [.tmp 2, .tmp 3] (Tryz.f233.body.getD .skip) p_s_FoldRecs_r99_0 r_s_FoldRecs_r99_0).fn x = B_s_FoldRecs_r99_0 f_s_l14One_r99_0 x.1 := by intro x; kernel_rfl
theorem S_s_FoldRecs_r99_0 : Sound Tryz.prog 233 F_s_FoldRecs_r99_0 := sm MO cfg_ok (tc Tryz.call281 S_s_l14One_r99_0 tab_nil) Tryz.func233 (by kernel_rfl) (by decide) (E_s_FoldRecs_r99_0 P_s_l14One_r99_0)
def A_s_StoreOk : Nat → Option Jn := lookN [(3, ⟨[], lt 9 10 [], false⟩), (31, ⟨[], lt 27 33 [], false⟩), (506, ⟨[.t 6 false [.int .i64]], lt 62 26 [.b 7, .r 319493, .t 7, .t 8], false⟩)]
abbrev p_s_StoreOk : List PK := [.val true (.pair (.pair (.rs 9 .str) (.rs 9 .str)) (.pair (.int .i64) (.pair (.int .i64) (.rs 109 kUp)))) false]
abbrev r_s_StoreOk : List RK := [.val false .bool]
noncomputable def D_s_StoreOk (f : Y_s_StoreOk) : Nat × Fn := (159, ⟨p_s_StoreOk, r_s_StoreOk, fun x => f x.1⟩)
noncomputable def F_s_StoreOk : Fn := (D_s_StoreOk P_s_StoreOk).2
theorem E_s_StoreOk (f_s_l1In : Y_s_l1In) (f_s_DiskOk : Y_s_DiskOk) (f_s_ScanRecs : Y_s_ScanRecs) (f_s_FoldRecs_r99_0 : Y_s_FoldRecs_r99_0) (f_s_l14SameUps : Y_s_l14SameUps) (f_s_GetRec : Y_s_GetRec) : ∀ x, (mkFn cfg [D_s_l1In f_s_l1In, D_s_DiskOk f_s_DiskOk, D_s_ScanRecs f_s_ScanRecs, D_s_FoldRecs_r99_0 f_s_FoldRecs_r99_0, D_s_l14SameUps f_s_l14SameUps, D_s_GetRec f_s_GetRec] A_s_StoreOk 88 [.tmp 2] (Tryz.f159.body.getD .skip) p_s_StoreOk r_s_StoreOk).fn x = B_s_StoreOk f_s_l1In f_s_DiskOk f_s_ScanRecs f_s_FoldRecs_r99_0 f_s_l14SameUps f_s_GetRec x.1 := by intro x; kernel_rfl
theorem S_s_StoreOk : Sound Tryz.prog 159 F_s_StoreOk := sm MO cfg_ok (tc Tryz.call120 S_s_l1In (tc Tryz.call231 S_s_DiskOk (tc Tryz.call232 S_s_ScanRecs (tc Tryz.call233 S_s_FoldRecs_r99_0 (tc Tryz.call234 S_s_l14SameUps (tc Tryz.call235 S_s_GetRec tab_nil)))))) Tryz.func159 (by kernel_rfl) (by decide) (E_s_StoreOk P_s_l1In P_s_DiskOk P_s_ScanRecs P_s_FoldRecs_r99_0 P_s_l14SameUps P_s_GetRec)
abbrev p_s_l14Left : List PK := [.val true (.pair (.pair (.rs 9 .str) (.rs 9 .str)) (.pair (.int .i64) (.pair (.int .i64) (.rs 109 kUp)))) false]
abbrev r_s_l14Left : List RK := [.val false (.int .i64)]
noncomputable def D_s_l14Left (f : Y_s_l14Left) : Nat × Fn := (236, ⟨p_s_l14Left, r_s_l14Left, fun x => f x.1⟩)
noncomputable def F_s_l14Left : Fn := (D_s_l14Left P_s_l14Left).2
theorem E_s_l14Left : ∀ x, (mkFn cfg [] (lookN []) 10 [.tmp 2] (Tryz.f236.body.getD .skip) p_s_l14Left r_s_l14Left).fn x = B_s_l14Left x.1 := by intro x; kernel_rfl
theorem S_s_l14Left : Sound Tryz.prog 236 F_s_l14Left := sm MO cfg_ok tab_nil Tryz.func236 (by kernel_rfl) (by decide) (E_s_l14Left)
abbrev p_s_l14Write_r0_4 : List PK := [.ptr (.pair kDisk (.pair (.int .i64) (.pair (.int .i64) (.rs 109 kUp)))), .val true (.pair (.int .i64) (.pair (.int .i64) (.pair (.int .i64) (.pair .str (.pair (.int .i64) (.rs 5 (.int .u8))))))) false]
abbrev r_s_l14Write_r0_4 : List RK := []
noncomputable def D_s_l14Write_r0_4 (f : Y_s_l14Write_r0_4) : Nat × Fn := (237, ⟨p_s_l14Write_r0_4, r_s_l14Write_r0_4, fun x => f x.1 x.2.1⟩)
noncomputable def F_s_l14Write_r0_4 : Fn := (D_s_l14Write_r0_4 P_s_l14Write_r0_4).2
theorem E_s_l14Write_r0_4 (f_s_l14One_r99_0 : Y_s_l14One_r99_0) (f_s_l13Put : Y_s_l13Put) : ∀ x, (mkFn cfg [D_s_l14One_r99_0 f_s_l14One_r99_0, D_s_l13Put f_s_l13Put] (lookN []) 46 [] (Tryz.f237.body.getD .skip) p_s_l14Write_r0_4 r_s_l14Write_r0_4).fn x = B_s_l14Write_r0_4 f_s_l14One_r99_0 f_s_l13Put x.1 x.2.1 := by intro x; kernel_rfl
theorem S_s_l14Write_r0_4 : Sound Tryz.prog 237 F_s_l14Write_r0_4 := sm MO cfg_ok (tc Tryz.call281 S_s_l14One_r99_0 (tc Tryz.call284 S_s_l13Put tab_nil)) Tryz.func237 (by kernel_rfl) (by decide) (E_s_l14Write_r0_4 P_s_l14One_r99_0 P_s_l13Put)
abbrev p_s_UpAt : List PK := [.val true (.pair (.pair (.rs 9 .str) (.rs 9 .str)) (.pair (.int .i64) (.pair (.int .i64) (.rs 109 kUp)))) false, .val false .str false]
abbrev r_s_UpAt : List RK := [.val true kUp, .val false .bool]
noncomputable def D_s_UpAt (f : Y_s_UpAt) : Nat × Fn := (113, ⟨p_s_UpAt, r_s_UpAt, fun x => f x.1 x.2.1⟩)
noncomputable def F_s_UpAt : Fn := (D_s_UpAt P_s_UpAt).2
theorem E_s_UpAt (f_s_l14At : Y_s_l14At) : ∀ x, (mkFn cfg [D_s_l14At f_s_l14At] (lookN []) 26 [.cell 4 109, .tmp 5] (Tryz.f113.body.getD .skip) p_s_UpAt r_s_UpAt).fn x = B_s_UpAt f_s_l14At x.1 x.2.1 := by intro x; kernel_rfl
theorem S_s_UpAt : Sound Tryz.prog 113 F_s_UpAt := sm MO cfg_ok (tc Tryz.call206 S_s_l14At tab_nil) Tryz.func113 (by kernel_rfl) (by decide) (E_s_UpAt P_s_l14At)
abbrev p_s_l15Looks : List PK := [.val true (.pair (.pair (.rs 9 .str) (.rs 9 .str)) (.pair (.int .i64) (.pair (.int .i64) (.rs 109 kUp)))) false, .val true kReq false]
abbrev r_s_l15Looks : List RK := [.val true kResp]
noncomputable def D_s_l15Looks (f : Y_s_l15Looks) : Nat × Fn := (166, ⟨p_s_l15Looks, r_s_l15Looks, fun x => f x.1 x.2.1⟩)
noncomputable def F_s_l15Looks : Fn := (D_s_l15Looks P_s_l15Looks).2
theorem E_s_l15Looks (f_s_UpAt : Y_s_UpAt) : ∀ x, (mkFn cfg [D_s_UpAt f_s_UpAt] (lookN []) 35 [.cell 4 126] (Tryz.f166.body.getD .skip) p_s_l15Looks r_s_l15Looks).fn x = B_s_l15Looks f_s_UpAt x.1 x.2.1 := by intro x; kernel_rfl
theorem S_s_l15Looks : Sound Tryz.prog 166 F_s_l15Looks := sm MO cfg_ok (tc Tryz.call113 S_s_UpAt tab_nil) Tryz.func166 (by kernel_rfl) (by decide) (E_s_l15Looks P_s_UpAt)
def A_s_l15Bad : Nat → Option Jn := lookN [(235, ⟨[.t 19 false [.bool]], [.t 20, .t 21], true⟩)]
abbrev p_s_l15Bad : List PK := [.val true (.pair (.pair (.rs 9 .str) (.rs 9 .str)) (.pair (.int .i64) (.pair (.int .i64) (.rs 109 kUp)))) false, .val false .str false, .val false (.int .i64) false]
abbrev r_s_l15Bad : List RK := [.val true kResp]
noncomputable def D_s_l15Bad (f : Y_s_l15Bad) : Nat × Fn := (167, ⟨p_s_l15Bad, r_s_l15Bad, fun x => f x.1 x.2.1 x.2.2.1⟩)
noncomputable def F_s_l15Bad : Fn := (D_s_l15Bad P_s_l15Bad).2
theorem E_s_l15Bad (f_s_UpAt : Y_s_UpAt) : ∀ x, (mkFn cfg [D_s_UpAt f_s_UpAt] A_s_l15Bad 33 [.cell 6 126] (Tryz.f167.body.getD .skip) p_s_l15Bad r_s_l15Bad).fn x = B_s_l15Bad f_s_UpAt x.1 x.2.1 x.2.2.1 := by intro x; kernel_rfl
theorem S_s_l15Bad : Sound Tryz.prog 167 F_s_l15Bad := sm MO cfg_ok (tc Tryz.call113 S_s_UpAt tab_nil) Tryz.func167 (by kernel_rfl) (by decide) (E_s_l15Bad P_s_UpAt)
def A_s_MakeUp_r99_0 : Nat → Option Jn := lookN [(7, ⟨[], lt 33 10 (lt 26 6 (lt 11 14 [])), false⟩), (28, ⟨[.t 11 false [.bool]], lt 12 13 [], true⟩)]
abbrev p_s_MakeUp_r99_0 : List PK := [.val true (.pair (.pair (.rs 9 .str) (.rs 9 .str)) (.pair (.int .i64) (.pair (.int .i64) (.rs 109 kUp)))) false, .val false .str false, .val false (.int .i64) false]
abbrev r_s_MakeUp_r99_0 : List RK := [.val true (.pair kDisk (.pair (.int .i64) (.pair (.int .i64) (.rs 109 kUp)))), .val false (.int .i64)]
noncomputable def D_s_MakeUp_r99_0 (f : Y_s_MakeUp_r99_0) : Nat × Fn := (162, ⟨p_s_MakeUp_r99_0, r_s_MakeUp_r99_0, fun x => f x.1 x.2.1 x.2.2.1⟩)
noncomputable def F_s_MakeUp_r99_0 : Fn := (D_s_MakeUp_r99_0 P_s_MakeUp_r99_0).2
theorem E_s_MakeUp_r99_0 (f_s_l1In : Y_s_l1In) (f_s_l14Copy : Y_s_l14Copy) (f_s_StoreOk : Y_s_StoreOk) (f_s_l11Id : Y_s_l11Id) (f_s_l14At : Y_s_l14At) (f_s_l14Left : Y_s_l14Left) (f_s_l14Write_r0_4 : Y_s_l14Write_r0_4) : ∀ x, (mkFn cfg [D_s_l1In f_s_l1In, D_s_l14Copy f_s_l14Copy, D_s_StoreOk f_s_StoreOk, D_s_l11Id f_s_l11Id, D_s_l14At f_s_l14At, D_s_l14Left f_s_l14Left, D_s_l14Write_r0_4 f_s_l14Write_r0_4] A_s_MakeUp_r99_0 49 [.cell 6 29, .tmp 7] (Tryz.f162.body.getD .skip) p_s_MakeUp_r99_0 r_s_MakeUp_r99_0).fn x = B_s_MakeUp_r99_0 f_s_l1In f_s_l14Copy f_s_StoreOk f_s_l11Id f_s_l14At f_s_l14Left f_s_l14Write_r0_4 x.1 x.2.1 x.2.2.1 := by intro x; kernel_rfl
theorem S_s_MakeUp_r99_0 : Sound Tryz.prog 162 F_s_MakeUp_r99_0 := sm MO cfg_ok (tc Tryz.call120 S_s_l1In (tc Tryz.call157 S_s_l14Copy (tc Tryz.call159 S_s_StoreOk (tc Tryz.call160 S_s_l11Id (tc Tryz.call206 S_s_l14At (tc Tryz.call236 S_s_l14Left (tc Tryz.call237 S_s_l14Write_r0_4 tab_nil))))))) Tryz.func162 (by kernel_rfl) (by decide) (E_s_MakeUp_r99_0 P_s_l1In P_s_l14Copy P_s_StoreOk P_s_l11Id P_s_l14At P_s_l14Left P_s_l14Write_r0_4)
def A_s_PutUp_r99_0 : Nat → Option Jn := lookN [(7, ⟨[], lt 17 14 [], false⟩), (127, ⟨[], lt 64 9 (lt 44 19 []), false⟩), (255, ⟨[.b 10 [.own 100003000, .own 100003001, .int .i64, .int .i64, .ro 109 kUp], .r 100003000 9 .str, .r 100003001 9 .str], lt 74 26 [.r 92, .r 97, .r 69632, .r 69633, .r 69636, .r 411648, .r 411649, .t 13, .t 14, .t 16], true⟩), (508, ⟨[.t 44 false [.bool]], lt 45 18 [], true⟩), (2042, ⟨[.t 13 false [.int .i64], .b 10 [.own 100003000, .own 100003001, .int .i64, .int .i64, .ro 109 kUp], .r 100003000 9 .str, .r 100003001 9 .str], lt 74 26 [.r 92, .r 97, .r 69632, .r 69633, .r 69636, .r 411648, .r 411649, .t 14, .t 16], false⟩), (65353, ⟨[.t 14 false [.int .i64]], lt 82 6 [], true⟩)]
abbrev p_s_PutUp_r99_0 : List PK := [.val true (.pair (.pair (.rs 9 .str) (.rs 9 .str)) (.pair (.int .i64) (.pair (.int .i64) (.rs 109 kUp)))) false, .val false .str false, .val false (.int .i64) false, .val false (.rs 5 (.int .u8)) false]
abbrev r_s_PutUp_r99_0 : List RK := [.val true (.pair kDisk (.pair (.int .i64) (.pair (.int .i64) (.rs 109 kUp)))), .val false (.int .i64)]
noncomputable def D_s_PutUp_r99_0 (f : Y_s_PutUp_r99_0) : Nat × Fn := (163, ⟨p_s_PutUp_r99_0, r_s_PutUp_r99_0, fun x => f x.1 x.2.1 x.2.2.1 x.2.2.2.1⟩)
noncomputable def F_s_PutUp_r99_0 : Fn := (D_s_PutUp_r99_0 P_s_PutUp_r99_0).2
theorem E_s_PutUp_r99_0 (f_s_l1In : Y_s_l1In) (f_s_l14Copy : Y_s_l14Copy) (f_s_StoreOk : Y_s_StoreOk) (f_s_l11Id : Y_s_l11Id) (f_s_l14At : Y_s_l14At) (f_s_l14Left : Y_s_l14Left) (f_s_l14Write_r0_4 : Y_s_l14Write_r0_4) : ∀ x, (mkFn cfg [D_s_l1In f_s_l1In, D_s_l14Copy f_s_l14Copy, D_s_StoreOk f_s_StoreOk, D_s_l11Id f_s_l11Id, D_s_l14At f_s_l14At, D_s_l14Left f_s_l14Left, D_s_l14Write_r0_4 f_s_l14Write_r0_4] A_s_PutUp_r99_0 101 [.cell 8 29, .tmp 9] (Tryz.f163.body.getD .skip) p_s_PutUp_r99_0 r_s_PutUp_r99_0).fn x = B_s_PutUp_r99_0 f_s_l1In f_s_l14Copy f_s_StoreOk f_s_l11Id f_s_l14At f_s_l14Left f_s_l14Write_r0_4 x.1 x.2.1 x.2.2.1 x.2.2.2.1 := by intro x; kernel_rfl
theorem S_s_PutUp_r99_0 : Sound Tryz.prog 163 F_s_PutUp_r99_0 := sm MO cfg_ok (tc Tryz.call120 S_s_l1In (tc Tryz.call157 S_s_l14Copy (tc Tryz.call159 S_s_StoreOk (tc Tryz.call160 S_s_l11Id (tc Tryz.call206 S_s_l14At (tc Tryz.call236 S_s_l14Left (tc Tryz.call237 S_s_l14Write_r0_4 tab_nil))))))) Tryz.func163 (by kernel_rfl) (by decide) (E_s_PutUp_r99_0 P_s_l1In P_s_l14Copy P_s_StoreOk P_s_l11Id P_s_l14At P_s_l14Left P_s_l14Write_r0_4)
def A_s_DoneUp_r99_0 : Nat → Option Jn := lookN [(7, ⟨[], lt 13 8 [], false⟩)]
abbrev p_s_DoneUp_r99_0 : List PK := [.val true (.pair (.pair (.rs 9 .str) (.rs 9 .str)) (.pair (.int .i64) (.pair (.int .i64) (.rs 109 kUp)))) false, .val false .str false, .val false (.int .i64) false]
abbrev r_s_DoneUp_r99_0 : List RK := [.val true (.pair kDisk (.pair (.int .i64) (.pair (.int .i64) (.rs 109 kUp)))), .val false (.int .i64)]
noncomputable def D_s_DoneUp_r99_0 (f : Y_s_DoneUp_r99_0) : Nat × Fn := (164, ⟨p_s_DoneUp_r99_0, r_s_DoneUp_r99_0, fun x => f x.1 x.2.1 x.2.2.1⟩)
noncomputable def F_s_DoneUp_r99_0 : Fn := (D_s_DoneUp_r99_0 P_s_DoneUp_r99_0).2
theorem E_s_DoneUp_r99_0 (f_s_Crc : Y_s_Crc) (f_s_l14Copy : Y_s_l14Copy) (f_s_StoreOk : Y_s_StoreOk) (f_s_l11Id : Y_s_l11Id) (f_s_l14At : Y_s_l14At) (f_s_l14Left : Y_s_l14Left) (f_s_l14Write_r0_4 : Y_s_l14Write_r0_4) : ∀ x, (mkFn cfg [D_s_Crc f_s_Crc, D_s_l14Copy f_s_l14Copy, D_s_StoreOk f_s_StoreOk, D_s_l11Id f_s_l11Id, D_s_l14At f_s_l14At, D_s_l14Left f_s_l14Left, D_s_l14Write_r0_4 f_s_l14Write_r0_4] A_s_DoneUp_r99_0 62 [.cell 6 29, .tmp 7] (Tryz.f164.body.getD .skip) p_s_DoneUp_r99_0 r_s_DoneUp_r99_0).fn x = B_s_DoneUp_r99_0 f_s_Crc f_s_l14Copy f_s_StoreOk f_s_l11Id f_s_l14At f_s_l14Left f_s_l14Write_r0_4 x.1 x.2.1 x.2.2.1 := by intro x; kernel_rfl
theorem S_s_DoneUp_r99_0 : Sound Tryz.prog 164 F_s_DoneUp_r99_0 := sm MO cfg_ok (tc Tryz.call152 S_s_Crc (tc Tryz.call157 S_s_l14Copy (tc Tryz.call159 S_s_StoreOk (tc Tryz.call160 S_s_l11Id (tc Tryz.call206 S_s_l14At (tc Tryz.call236 S_s_l14Left (tc Tryz.call237 S_s_l14Write_r0_4 tab_nil))))))) Tryz.func164 (by kernel_rfl) (by decide) (E_s_DoneUp_r99_0 P_s_Crc P_s_l14Copy P_s_StoreOk P_s_l11Id P_s_l14At P_s_l14Left P_s_l14Write_r0_4)
def A_s_DropUp_r99_0 : Nat → Option Jn := lookN [(7, ⟨[], lt 26 4 (lt 19 6 (lt 9 9 [])), false⟩), (28, ⟨[.t 9 false [.bool]], lt 10 8 [], true⟩)]
abbrev p_s_DropUp_r99_0 : List PK := [.val true (.pair (.pair (.rs 9 .str) (.rs 9 .str)) (.pair (.int .i64) (.pair (.int .i64) (.rs 109 kUp)))) false, .val false .str false]
abbrev r_s_DropUp_r99_0 : List RK := [.val true (.pair kDisk (.pair (.int .i64) (.pair (.int .i64) (.rs 109 kUp)))), .val false (.int .i64)]
noncomputable def D_s_DropUp_r99_0 (f : Y_s_DropUp_r99_0) : Nat × Fn := (165, ⟨p_s_DropUp_r99_0, r_s_DropUp_r99_0, fun x => f x.1 x.2.1⟩)
noncomputable def F_s_DropUp_r99_0 : Fn := (D_s_DropUp_r99_0 P_s_DropUp_r99_0).2
theorem E_s_DropUp_r99_0 (f_s_l14Copy : Y_s_l14Copy) (f_s_StoreOk : Y_s_StoreOk) (f_s_l11Id : Y_s_l11Id) (f_s_l14At : Y_s_l14At) (f_s_l14Left : Y_s_l14Left) (f_s_l14Write_r0_4 : Y_s_l14Write_r0_4) : ∀ x, (mkFn cfg [D_s_l14Copy f_s_l14Copy, D_s_StoreOk f_s_StoreOk, D_s_l11Id f_s_l11Id, D_s_l14At f_s_l14At, D_s_l14Left f_s_l14Left, D_s_l14Write_r0_4 f_s_l14Write_r0_4] A_s_DropUp_r99_0 35 [.cell 4 29, .tmp 5] (Tryz.f165.body.getD .skip) p_s_DropUp_r99_0 r_s_DropUp_r99_0).fn x = B_s_DropUp_r99_0 f_s_l14Copy f_s_StoreOk f_s_l11Id f_s_l14At f_s_l14Left f_s_l14Write_r0_4 x.1 x.2.1 := by intro x; kernel_rfl
theorem S_s_DropUp_r99_0 : Sound Tryz.prog 165 F_s_DropUp_r99_0 := sm MO cfg_ok (tc Tryz.call157 S_s_l14Copy (tc Tryz.call159 S_s_StoreOk (tc Tryz.call160 S_s_l11Id (tc Tryz.call206 S_s_l14At (tc Tryz.call236 S_s_l14Left (tc Tryz.call237 S_s_l14Write_r0_4 tab_nil)))))) Tryz.func165 (by kernel_rfl) (by decide) (E_s_DropUp_r99_0 P_s_l14Copy P_s_StoreOk P_s_l11Id P_s_l14At P_s_l14Left P_s_l14Write_r0_4)
abbrev p_s_FlushDisk : List PK := [.val true (.pair (.rs 9 .str) (.rs 9 .str)) false]
abbrev r_s_FlushDisk : List RK := [.val true kDisk]
noncomputable def D_s_FlushDisk (f : Y_s_FlushDisk) : Nat × Fn := (252, ⟨p_s_FlushDisk, r_s_FlushDisk, fun x => f x.1⟩)
noncomputable def F_s_FlushDisk : Fn := (D_s_FlushDisk P_s_FlushDisk).2
theorem E_s_FlushDisk : ∀ x, (mkFn cfg [] (lookN []) 12 [.cell 2 26] (Tryz.f252.body.getD .skip) p_s_FlushDisk r_s_FlushDisk).fn x = B_s_FlushDisk x.1 := by intro x; kernel_rfl
theorem S_s_FlushDisk : Sound Tryz.prog 252 F_s_FlushDisk := sm MO cfg_ok tab_nil Tryz.func252 (by kernel_rfl) (by decide) (E_s_FlushDisk)
abbrev p_s_l17Over : List PK := [.val true (.pair .str (.pair (.rs 5 (.int .u8)) kResp)) false]
abbrev r_s_l17Over : List RK := [.val false .bool]
noncomputable def D_s_l17Over (f : Y_s_l17Over) : Nat × Fn := (253, ⟨p_s_l17Over, r_s_l17Over, fun x => f x.1⟩)
noncomputable def F_s_l17Over : Fn := (D_s_l17Over P_s_l17Over).2
theorem E_s_l17Over : ∀ x, (mkFn cfg [] (lookN []) 11 [.tmp 2] (Tryz.f253.body.getD .skip) p_s_l17Over r_s_l17Over).fn x = B_s_l17Over x.1 := by intro x; kernel_rfl
theorem S_s_l17Over : Sound Tryz.prog 253 F_s_l17Over := sm MO cfg_ok tab_nil Tryz.func253 (by kernel_rfl) (by decide) (E_s_l17Over)
abbrev p_s_l17Next : List PK := [.val false (.int .i64) false, .val false (.int .i64) false]
abbrev r_s_l17Next : List RK := [.val false (.int .i64)]
noncomputable def D_s_l17Next (f : Y_s_l17Next) : Nat × Fn := (292, ⟨p_s_l17Next, r_s_l17Next, fun x => f x.1 x.2.1⟩)
noncomputable def F_s_l17Next : Fn := (D_s_l17Next P_s_l17Next).2
theorem E_s_l17Next : ∀ x, (mkFn cfg [] (lookN []) 35 [.tmp 4] (Tryz.f292.body.getD .skip) p_s_l17Next r_s_l17Next).fn x = B_s_l17Next x.1 x.2.1 := by intro x; kernel_rfl
theorem S_s_l17Next : Sound Tryz.prog 292 F_s_l17Next := sm MO cfg_ok tab_nil Tryz.func292 (by kernel_rfl) (by decide) (E_s_l17Next)
abbrev p_s_l17Far_r99_0 : List PK := [.val true (.pair .str (.pair (.rs 5 (.int .u8)) kResp)) false, .val false (.int .i64) false]
abbrev r_s_l17Far_r99_0 : List RK := [.val true (.pair .str (.pair (.rs 5 (.int .u8)) kResp))]
noncomputable def D_s_l17Far_r99_0 (f : Y_s_l17Far) : Nat × Fn := (293, ⟨p_s_l17Far_r99_0, r_s_l17Far_r99_0, fun x => f x.1 x.2.1⟩)
noncomputable def F_s_l17Far_r99_0 : Fn := (D_s_l17Far_r99_0 P_s_l17Far).2
theorem E_s_l17Far_r99_0 (f_s_l1In : Y_s_l1In) : ∀ x, (mkFn cfg [D_s_l1In f_s_l1In] (lookN []) 26 [.cell 4 79] (Tryz.f293.body.getD .skip) p_s_l17Far_r99_0 r_s_l17Far_r99_0).fn x = B_s_l17Far f_s_l1In x.1 x.2.1 := by intro x; kernel_rfl
theorem S_s_l17Far_r99_0 : Sound Tryz.prog 293 F_s_l17Far_r99_0 := sm MO cfg_ok (tc Tryz.call120 S_s_l1In tab_nil) Tryz.func293 (by kernel_rfl) (by decide) (E_s_l17Far_r99_0 P_s_l1In)
abbrev p_s_l17Hear_r99_0 : List PK := [.val true (.pair .str (.pair (.rs 5 (.int .u8)) kResp)) false, .val true kResp false]
abbrev r_s_l17Hear_r99_0 : List RK := [.val true (.pair .str (.pair (.rs 5 (.int .u8)) kResp))]
noncomputable def D_s_l17Hear_r99_0 (f : Y_s_l17Hear) : Nat × Fn := (254, ⟨p_s_l17Hear_r99_0, r_s_l17Hear_r99_0, fun x => f x.1 x.2.1⟩)
noncomputable def F_s_l17Hear_r99_0 : Fn := (D_s_l17Hear_r99_0 P_s_l17Hear).2
theorem E_s_l17Hear_r99_0 (f_s_l17Next : Y_s_l17Next) (f_s_l17Far : Y_s_l17Far) : ∀ x, (mkFn cfg [D_s_l17Next f_s_l17Next, D_s_l17Far_r99_0 f_s_l17Far] (lookN []) 20 [.cell 4 79] (Tryz.f254.body.getD .skip) p_s_l17Hear_r99_0 r_s_l17Hear_r99_0).fn x = B_s_l17Hear f_s_l17Next f_s_l17Far x.1 x.2.1 := by intro x; kernel_rfl
theorem S_s_l17Hear_r99_0 : Sound Tryz.prog 254 F_s_l17Hear_r99_0 := sm MO cfg_ok (tc Tryz.call292 S_s_l17Next (tc Tryz.call293 S_s_l17Far_r99_0 tab_nil)) Tryz.func254 (by kernel_rfl) (by decide) (E_s_l17Hear_r99_0 P_s_l17Next P_s_l17Far)
def A_s_l18Others : Nat → Option Jn := lookN [(58, ⟨[.t 5 false [.own 100000000], .t 6 false [.int .i64], .r 100000000 130 kHeld], lt 8 20 [.r 7, .r 26, .r 27], false⟩)]
abbrev p_s_l18Others : List PK := [.val false (.rs 130 kHeld) false, .val false (.int .i64) false]
abbrev r_s_l18Others : List RK := [.val false (.sl 130 kHeld)]
noncomputable def D_s_l18Others (f : Y_s_l18Others) : Nat × Fn := (255, ⟨p_s_l18Others, r_s_l18Others, fun x => f x.1 x.2.1⟩)
noncomputable def F_s_l18Others : Fn := (D_s_l18Others P_s_l18Others).2
theorem E_s_l18Others : ∀ x, (mkFn cfg [] A_s_l18Others 29 [.tmp 4] (Tryz.f255.body.getD .skip) p_s_l18Others r_s_l18Others).fn x = B_s_l18Others x.1 x.2.1 := by intro x; kernel_rfl
theorem S_s_l18Others : Sound Tryz.prog 255 F_s_l18Others := sm MO cfg_ok tab_nil Tryz.func255 (by kernel_rfl) (by decide) (E_s_l18Others)
abbrev p_s_l17Copy : List PK := [.val true (.pair .str (.pair (.rs 5 (.int .u8)) kResp)) false]
abbrev r_s_l17Copy : List RK := [.val true kClient]
noncomputable def D_s_l17Copy (f : Y_s_l17Copy) : Nat × Fn := (193, ⟨p_s_l17Copy, r_s_l17Copy, fun x => f x.1⟩)
noncomputable def F_s_l17Copy : Fn := (D_s_l17Copy P_s_l17Copy).2
theorem E_s_l17Copy : ∀ x, (mkFn cfg [] (lookN []) 9 [.cell 2 79] (Tryz.f193.body.getD .skip) p_s_l17Copy r_s_l17Copy).fn x = B_s_l17Copy x.1 := by intro x; kernel_rfl
theorem S_s_l17Copy : Sound Tryz.prog 193 F_s_l17Copy := sm MO cfg_ok tab_nil Tryz.func193 (by kernel_rfl) (by decide) (E_s_l17Copy)
abbrev p_s_CutOff : List PK := [.val true (.pair .str (.pair (.rs 5 (.int .u8)) kResp)) false]
abbrev r_s_CutOff : List RK := [.val true kClient]
noncomputable def D_s_CutOff (f : Y_s_CutOff) : Nat × Fn := (256, ⟨p_s_CutOff, r_s_CutOff, fun x => f x.1⟩)
noncomputable def F_s_CutOff : Fn := (D_s_CutOff P_s_CutOff).2
theorem E_s_CutOff (f_s_l17Copy : Y_s_l17Copy) (f_s_ClientOk : Y_s_ClientOk) (f_s_l17Over : Y_s_l17Over) : ∀ x, (mkFn cfg [D_s_l17Copy f_s_l17Copy, D_s_ClientOk f_s_ClientOk, D_s_l17Over f_s_l17Over] (lookN []) 15 [.cell 2 79] (Tryz.f256.body.getD .skip) p_s_CutOff r_s_CutOff).fn x = B_s_CutOff f_s_l17Copy f_s_ClientOk f_s_l17Over x.1 := by intro x; kernel_rfl
theorem S_s_CutOff : Sound Tryz.prog 256 F_s_CutOff := sm MO cfg_ok (tc Tryz.call193 S_s_l17Copy (tc Tryz.call215 S_s_ClientOk (tc Tryz.call253 S_s_l17Over tab_nil))) Tryz.func256 (by kernel_rfl) (by decide) (E_s_CutOff P_s_l17Copy P_s_ClientOk P_s_l17Over)
def A_s_TopEpoch : Nat → Option Jn := lookN [(58, ⟨[.t 3 false [.int .i64], .t 4 false [.int .i64]], lt 5 27 [.b 5, .r 86021], false⟩)]
abbrev p_s_TopEpoch : List PK := [.val true (.pair (.rs 9 .str) (.rs 9 .str)) false]
abbrev r_s_TopEpoch : List RK := [.val false (.int .i64)]
noncomputable def D_s_TopEpoch (f : Y_s_TopEpoch) : Nat × Fn := (294, ⟨p_s_TopEpoch, r_s_TopEpoch, fun x => f x.1⟩)
noncomputable def F_s_TopEpoch : Fn := (D_s_TopEpoch P_s_TopEpoch).2
theorem E_s_TopEpoch (f_s_GetRec : Y_s_GetRec) : ∀ x, (mkFn cfg [D_s_GetRec f_s_GetRec] A_s_TopEpoch 33 [.tmp 2] (Tryz.f294.body.getD .skip) p_s_TopEpoch r_s_TopEpoch).fn x = B_s_TopEpoch f_s_GetRec x.1 := by intro x; kernel_rfl
theorem S_s_TopEpoch : Sound Tryz.prog 294 F_s_TopEpoch := sm MO cfg_ok (tc Tryz.call235 S_s_GetRec tab_nil) Tryz.func294 (by kernel_rfl) (by decide) (E_s_TopEpoch P_s_GetRec)
def A_s_FallDisk : Nat → Option Jn := lookN [(122, ⟨[.t 6 false [.int .i64], .b 5 [.own 36864, .own 36865], .r 36864 9 .str, .r 36865 9 .str], lt 13 35 [.x 36, .x 38, .x 45, .x 47], false⟩), (1956, ⟨[.t 29 false [.bool]], lt 20 9 [], true⟩)]
abbrev p_s_FallDisk : List PK := [.val true (.pair (.rs 9 .str) (.rs 9 .str)) false, .val false (.rs 4 .bool) false]
abbrev r_s_FallDisk : List RK := [.val true kDisk]
noncomputable def D_s_FallDisk (f : Y_s_FallDisk) : Nat × Fn := (258, ⟨p_s_FallDisk, r_s_FallDisk, fun x => f x.1 x.2.1⟩)
noncomputable def F_s_FallDisk : Fn := (D_s_FallDisk P_s_FallDisk).2
theorem E_s_FallDisk (f_s_l12Copy : Y_s_l12Copy) (f_s_DiskOk : Y_s_DiskOk) : ∀ x, (mkFn cfg [D_s_l12Copy f_s_l12Copy, D_s_DiskOk f_s_DiskOk] A_s_FallDisk 49 [.cell 4 26] (Tryz.f258.body.getD .skip) p_s_FallDisk r_s_FallDisk).fn x = B_s_FallDisk f_s_l12Copy f_s_DiskOk x.1 x.2.1 := by intro x; kernel_rfl
theorem S_s_FallDisk : Sound Tryz.prog 258 F_s_FallDisk := sm MO cfg_ok (tc Tryz.call229 S_s_l12Copy (tc Tryz.call231 S_s_DiskOk tab_nil)) Tryz.func258 (by kernel_rfl) (by decide) (E_s_FallDisk P_s_l12Copy P_s_DiskOk)
def A_s_OpenStore_r99_0 : Nat → Option Jn := lookN [(63, ⟨[], lt 22 6 [], false⟩)]
abbrev p_s_OpenStore_r99_0 : List PK := [.val true (.pair (.rs 9 .str) (.rs 9 .str)) false]
abbrev r_s_OpenStore_r99_0 : List RK := [.val true (.pair kDisk (.pair (.int .i64) (.pair (.int .i64) (.rs 109 kUp)))), .val false .bool]
noncomputable def D_s_OpenStore_r99_0 (f : Y_s_OpenStore_r99_0) : Nat × Fn := (257, ⟨p_s_OpenStore_r99_0, r_s_OpenStore_r99_0, fun x => f x.1⟩)
noncomputable def F_s_OpenStore_r99_0 : Fn := (D_s_OpenStore_r99_0 P_s_OpenStore_r99_0).2
theorem E_s_OpenStore_r99_0 (f_s_l12Copy : Y_s_l12Copy) (f_s_DiskOk : Y_s_DiskOk) (f_s_ScanRecs : Y_s_ScanRecs) (f_s_FoldRecs_r99_0 : Y_s_FoldRecs_r99_0) (f_s_TopEpoch : Y_s_TopEpoch) : ∀ x, (mkFn cfg [D_s_l12Copy f_s_l12Copy, D_s_DiskOk f_s_DiskOk, D_s_ScanRecs f_s_ScanRecs, D_s_FoldRecs_r99_0 f_s_FoldRecs_r99_0, D_s_TopEpoch f_s_TopEpoch] A_s_OpenStore_r99_0 36 [.cell 2 29, .tmp 3] (Tryz.f257.body.getD .skip) p_s_OpenStore_r99_0 r_s_OpenStore_r99_0).fn x = B_s_OpenStore_r99_0 f_s_l12Copy f_s_DiskOk f_s_ScanRecs f_s_FoldRecs_r99_0 f_s_TopEpoch x.1 := by intro x; kernel_rfl
theorem S_s_OpenStore_r99_0 : Sound Tryz.prog 257 F_s_OpenStore_r99_0 := sm MO cfg_ok (tc Tryz.call229 S_s_l12Copy (tc Tryz.call231 S_s_DiskOk (tc Tryz.call232 S_s_ScanRecs (tc Tryz.call233 S_s_FoldRecs_r99_0 (tc Tryz.call294 S_s_TopEpoch tab_nil))))) Tryz.func257 (by kernel_rfl) (by decide) (E_s_OpenStore_r99_0 P_s_l12Copy P_s_DiskOk P_s_ScanRecs P_s_FoldRecs_r99_0 P_s_TopEpoch)
def A_s_l18Send_W : Nat → Option Jn := lookN [(3, ⟨[], lt 8 26 [.x 23], false⟩)]
abbrev p_s_l18Send_W : List PK := [.ptr (.pair (.pair (.pair (.pair (.rs 9 .str) (.rs 9 .str)) (.pair (.int .i64) (.pair (.int .i64) (.rs 109 (.pair .str (.pair (.int .i64) (.pair (.rs 5 (.int .u8)) .bool))))))) (.sl 130 kHeld)) (.pair (.sl 79 (.pair .str (.pair (.rs 5 (.int .u8)) kResp))) (.pair (.sl 4 .bool) (.pair (.sl 113 (.pair (.int .i64) (.pair kReq (.rs 5 (.int .u8))))) (.pair (.sl 130 kHeld) (.sl 3 (.int .i64))))))), .val false (.int .i64) false]
abbrev r_s_l18Send_W : List RK := [.val false .bool]
noncomputable def D_s_l18Send_W (f : Y_s_l18Send_W) : Nat × Fn := (194, ⟨p_s_l18Send_W, r_s_l18Send_W, fun x => f x.1 x.2.1⟩)
noncomputable def F_s_l18Send_W : Fn := (D_s_l18Send_W P_s_l18Send_W).2
theorem E_s_l18Send_W (f_s_l1In : Y_s_l1In) (f_s_NextReq : Y_s_NextReq) : ∀ x, (mkFn cfgR [D_s_l1In f_s_l1In, D_s_NextReq f_s_NextReq] A_s_l18Send_W 67 [.tmp 4] (Tryz.f194.body.getD .skip) p_s_l18Send_W r_s_l18Send_W).fn x = B_s_l18Send_W f_s_l1In f_s_NextReq x.1 x.2.1 := by intro x; kernel_rfl
theorem S_s_l18Send_W : Sound Tryz.prog 194 F_s_l18Send_W := sm MO cfgR_ok (tc Tryz.call120 S_s_l1In (tc Tryz.call251 S_s_NextReq tab_nil)) Tryz.func194 (by kernel_rfl) (by decide) (E_s_l18Send_W P_s_l1In P_s_NextReq)
abbrev p_s_ClientNew : List PK := [.val false .str false, .val false (.rs 5 (.int .u8)) false]
abbrev r_s_ClientNew : List RK := [.val true kClient]
noncomputable def D_s_ClientNew (f : Y_s_ClientNew) : Nat × Fn := (138, ⟨p_s_ClientNew, r_s_ClientNew, fun x => f x.1 x.2.1⟩)
noncomputable def F_s_ClientNew : Fn := (D_s_ClientNew P_s_ClientNew).2
theorem E_s_ClientNew (f_s_ClientOk : Y_s_ClientOk) : ∀ x, (mkFn cfg [D_s_ClientOk f_s_ClientOk] (lookN []) 16 [.cell 4 79] (Tryz.f138.body.getD .skip) p_s_ClientNew r_s_ClientNew).fn x = B_s_ClientNew f_s_ClientOk x.1 x.2.1 := by intro x; kernel_rfl
theorem S_s_ClientNew : Sound Tryz.prog 138 F_s_ClientNew := sm MO cfg_ok (tc Tryz.call215 S_s_ClientOk tab_nil) Tryz.func138 (by kernel_rfl) (by decide) (E_s_ClientNew P_s_ClientOk)
abbrev p_s_RespOk : List PK := [.val true kResp false]
abbrev r_s_RespOk : List RK := [.val false .bool]
noncomputable def D_s_RespOk (f : Y_s_RespOk) : Nat × Fn := (158, ⟨p_s_RespOk, r_s_RespOk, fun x => f x.1⟩)
noncomputable def F_s_RespOk : Fn := (D_s_RespOk P_s_RespOk).2
theorem E_s_RespOk (f_s_l1In : Y_s_l1In) : ∀ x, (mkFn cfg [D_s_l1In f_s_l1In] (lookN []) 11 [.tmp 2] (Tryz.f158.body.getD .skip) p_s_RespOk r_s_RespOk).fn x = B_s_RespOk f_s_l1In x.1 := by intro x; kernel_rfl
theorem S_s_RespOk : Sound Tryz.prog 158 F_s_RespOk := sm MO cfg_ok (tc Tryz.call120 S_s_l1In tab_nil) Tryz.func158 (by kernel_rfl) (by decide) (E_s_RespOk P_s_l1In)
def A_s_ServerOk : Nat → Option Jn := lookN [(3, ⟨[], lt 3 16 [], false⟩), (26, ⟨[.t 3 false [.int .i64]], lt 4 15 [], false⟩)]
abbrev p_s_ServerOk : List PK := [.val true (.pair (.pair (.pair (.rs 9 .str) (.rs 9 .str)) (.pair (.int .i64) (.pair (.int .i64) (.rs 109 kUp)))) (.rs 130 kHeld)) false]
abbrev r_s_ServerOk : List RK := [.val false .bool]
noncomputable def D_s_ServerOk (f : Y_s_ServerOk) : Nat × Fn := (90, ⟨p_s_ServerOk, r_s_ServerOk, fun x => f x.1⟩)
noncomputable def F_s_ServerOk : Fn := (D_s_ServerOk P_s_ServerOk).2
theorem E_s_ServerOk (f_s_RespOk : Y_s_RespOk) (f_s_StoreOk : Y_s_StoreOk) : ∀ x, (mkFn cfg [D_s_RespOk f_s_RespOk, D_s_StoreOk f_s_StoreOk] A_s_ServerOk 28 [.tmp 2] (Tryz.f90.body.getD .skip) p_s_ServerOk r_s_ServerOk).fn x = B_s_ServerOk f_s_RespOk f_s_StoreOk x.1 := by intro x; kernel_rfl
theorem S_s_ServerOk : Sound Tryz.prog 90 F_s_ServerOk := sm MO cfg_ok (tc Tryz.call158 S_s_RespOk (tc Tryz.call159 S_s_StoreOk tab_nil)) Tryz.func90 (by kernel_rfl) (by decide) (E_s_ServerOk P_s_RespOk P_s_StoreOk)
abbrev p_s_l11Most : List PK := [.val false (.int .i64) false]
abbrev r_s_l11Most : List RK := [.val false (.int .i64)]
noncomputable def D_s_l11Most (f : Y_s_l11Most) : Nat × Fn := (161, ⟨p_s_l11Most, r_s_l11Most, fun x => f x.1⟩)
noncomputable def F_s_l11Most : Fn := (D_s_l11Most P_s_l11Most).2
theorem E_s_l11Most : ∀ x, (mkFn cfg [] (lookN []) 9 [.tmp 2] (Tryz.f161.body.getD .skip) p_s_l11Most r_s_l11Most).fn x = B_s_l11Most x.1 := by intro x; kernel_rfl
theorem S_s_l11Most : Sound Tryz.prog 161 F_s_l11Most := sm MO cfg_ok tab_nil Tryz.func161 (by kernel_rfl) (by decide) (E_s_l11Most)
def A_s_ReqOk : Nat → Option Jn := lookN [(3, ⟨[], lt 4 10 [], false⟩)]
abbrev p_s_ReqOk : List PK := [.val true kReq false]
abbrev r_s_ReqOk : List RK := [.val false .bool]
noncomputable def D_s_ReqOk (f : Y_s_ReqOk) : Nat × Fn := (91, ⟨p_s_ReqOk, r_s_ReqOk, fun x => f x.1⟩)
noncomputable def F_s_ReqOk : Fn := (D_s_ReqOk P_s_ReqOk).2
theorem E_s_ReqOk (f_s_l1In : Y_s_l1In) (f_s_l11Id : Y_s_l11Id) (f_s_l11Most : Y_s_l11Most) : ∀ x, (mkFn cfg [D_s_l1In f_s_l1In, D_s_l11Id f_s_l11Id, D_s_l11Most f_s_l11Most] A_s_ReqOk 26 [.tmp 2] (Tryz.f91.body.getD .skip) p_s_ReqOk r_s_ReqOk).fn x = B_s_ReqOk f_s_l1In f_s_l11Id f_s_l11Most x.1 := by intro x; kernel_rfl
theorem S_s_ReqOk : Sound Tryz.prog 91 F_s_ReqOk := sm MO cfg_ok (tc Tryz.call120 S_s_l1In (tc Tryz.call160 S_s_l11Id (tc Tryz.call161 S_s_l11Most tab_nil))) Tryz.func91 (by kernel_rfl) (by decide) (E_s_ReqOk P_s_l1In P_s_l11Id P_s_l11Most)
def A_s_l18Clients : Nat → Option Jn := lookN [(7, ⟨[], lt 9 30 [.t 4, .t 5], false⟩), (58, ⟨[.t 4 false [.int .i64]], lt 9 30 [.t 5], false⟩), (7462, ⟨[.t 5 false [.int .i64]], lt 21 18 [], false⟩)]
abbrev p_s_l18Clients : List PK := [.val true (.pair (.pair (.pair (.pair (.rs 9 .str) (.rs 9 .str)) (.pair (.int .i64) (.pair (.int .i64) (.rs 109 kUp)))) (.rs 130 kHeld)) (.pair (.rs 79 kClient) (.pair (.rs 4 .bool) (.pair (.rs 113 kWant) (.pair (.rs 130 kHeld) (.rs 3 (.int .i64))))))) false]
abbrev r_s_l18Clients : List RK := [.val false .bool]
noncomputable def D_s_l18Clients (f : Y_s_l18Clients) : Nat × Fn := (141, ⟨p_s_l18Clients, r_s_l18Clients, fun x => f x.1⟩)
noncomputable def F_s_l18Clients : Fn := (D_s_l18Clients P_s_l18Clients).2
theorem E_s_l18Clients (f_s_ClientOk : Y_s_ClientOk) : ∀ x, (mkFn cfg [D_s_ClientOk f_s_ClientOk] A_s_l18Clients 55 [.tmp 2] (Tryz.f141.body.getD .skip) p_s_l18Clients r_s_l18Clients).fn x = B_s_l18Clients f_s_ClientOk x.1 := by intro x; kernel_rfl
theorem S_s_l18Clients : Sound Tryz.prog 141 F_s_l18Clients := sm MO cfg_ok (tc Tryz.call215 S_s_ClientOk tab_nil) Tryz.func141 (by kernel_rfl) (by decide) (E_s_l18Clients P_s_ClientOk)
def A_s_l18Who : Nat → Option Jn := lookN [(26, ⟨[.t 5 false [.int .i64]], lt 6 26 [], false⟩)]
abbrev p_s_l18Who : List PK := [.val true (.pair (.pair (.pair (.pair (.rs 9 .str) (.rs 9 .str)) (.pair (.int .i64) (.pair (.int .i64) (.rs 109 kUp)))) (.rs 130 kHeld)) (.pair (.rs 79 kClient) (.pair (.rs 4 .bool) (.pair (.rs 113 kWant) (.pair (.rs 130 kHeld) (.rs 3 (.int .i64))))))) false, .val false (.rs 130 kHeld) false]
abbrev r_s_l18Who : List RK := [.val false .bool]
noncomputable def D_s_l18Who (f : Y_s_l18Who) : Nat × Fn := (142, ⟨p_s_l18Who, r_s_l18Who, fun x => f x.1 x.2.1⟩)
noncomputable def F_s_l18Who : Fn := (D_s_l18Who P_s_l18Who).2
theorem E_s_l18Who (f_s_l1In : Y_s_l1In) (f_s_RespOk : Y_s_RespOk) : ∀ x, (mkFn cfg [D_s_l1In f_s_l1In, D_s_RespOk f_s_RespOk] A_s_l18Who 32 [.tmp 4] (Tryz.f142.body.getD .skip) p_s_l18Who r_s_l18Who).fn x = B_s_l18Who f_s_l1In f_s_RespOk x.1 x.2.1 := by intro x; kernel_rfl
theorem S_s_l18Who : Sound Tryz.prog 142 F_s_l18Who := sm MO cfg_ok (tc Tryz.call120 S_s_l1In (tc Tryz.call158 S_s_RespOk tab_nil)) Tryz.func142 (by kernel_rfl) (by decide) (E_s_l18Who P_s_l1In P_s_RespOk)
def A_s_WorldOk : Nat → Option Jn := lookN [(3, ⟨[], lt 4 36 [], false⟩), (58, ⟨[.t 3 false [.int .i64]], lt 40 29 [], false⟩)]
abbrev p_s_WorldOk : List PK := [.val true (.pair (.pair (.pair (.pair (.rs 9 .str) (.rs 9 .str)) (.pair (.int .i64) (.pair (.int .i64) (.rs 109 kUp)))) (.rs 130 kHeld)) (.pair (.rs 79 kClient) (.pair (.rs 4 .bool) (.pair (.rs 113 kWant) (.pair (.rs 130 kHeld) (.rs 3 (.int .i64))))))) false]
abbrev r_s_WorldOk : List RK := [.val false .bool]
noncomputable def D_s_WorldOk (f : Y_s_WorldOk) : Nat × Fn := (70, ⟨p_s_WorldOk, r_s_WorldOk, fun x => f x.1⟩)
noncomputable def F_s_WorldOk : Fn := (D_s_WorldOk P_s_WorldOk).2
theorem E_s_WorldOk (f_s_ServerOk : Y_s_ServerOk) (f_s_ReqOk : Y_s_ReqOk) (f_s_l1In : Y_s_l1In) (f_s_l18Clients : Y_s_l18Clients) (f_s_l18Who : Y_s_l18Who) : ∀ x, (mkFn cfg [D_s_ServerOk f_s_ServerOk, D_s_ReqOk f_s_ReqOk, D_s_l1In f_s_l1In, D_s_l18Clients f_s_l18Clients, D_s_l18Who f_s_l18Who] A_s_WorldOk 69 [.tmp 2] (Tryz.f70.body.getD .skip) p_s_WorldOk r_s_WorldOk).fn x = B_s_WorldOk f_s_ServerOk f_s_ReqOk f_s_l1In f_s_l18Clients f_s_l18Who x.1 := by intro x; kernel_rfl
theorem S_s_WorldOk : Sound Tryz.prog 70 F_s_WorldOk := sm MO cfg_ok (tc Tryz.call90 S_s_ServerOk (tc Tryz.call91 S_s_ReqOk (tc Tryz.call120 S_s_l1In (tc Tryz.call141 S_s_l18Clients (tc Tryz.call142 S_s_l18Who tab_nil))))) Tryz.func70 (by kernel_rfl) (by decide) (E_s_WorldOk P_s_ServerOk P_s_ReqOk P_s_l1In P_s_l18Clients P_s_l18Who)
def A_s_DiskNew : Nat → Option Jn := lookN [(58, ⟨[.t 4 false [.int .i64], .b 3 [.own 100000000, .own 100000001], .r 100000000 9 .str, .r 100000001 9 .str], lt 6 19 [.r 17, .r 18, .r 22, .r 23], false⟩), (116, ⟨[], lt 6 7 [], false⟩)]
abbrev p_s_DiskNew : List PK := [.val false (.int .i64) false]
abbrev r_s_DiskNew : List RK := [.val true kDisk]
noncomputable def D_s_DiskNew (f : Y_s_DiskNew) : Nat × Fn := (303, ⟨p_s_DiskNew, r_s_DiskNew, fun x => f x.1⟩)
noncomputable def F_s_DiskNew : Fn := (D_s_DiskNew P_s_DiskNew).2
theorem E_s_DiskNew : ∀ x, (mkFn cfg [] A_s_DiskNew 26 [.cell 2 26] (Tryz.f303.body.getD .skip) p_s_DiskNew r_s_DiskNew).fn x = B_s_DiskNew x.1 := by intro x; kernel_rfl
theorem S_s_DiskNew : Sound Tryz.prog 303 F_s_DiskNew := sm MO cfg_ok tab_nil Tryz.func303 (by kernel_rfl) (by decide) (E_s_DiskNew)
abbrev p_s_StoreNew_r98_0_r99_0 : List PK := [.val false (.int .i64) false]
abbrev r_s_StoreNew_r98_0_r99_0 : List RK := [.val true (.pair kDisk (.pair (.int .i64) (.pair (.int .i64) (.sl 109 (.pair .str (.pair (.int .i64) (.pair (.rs 5 (.int .u8)) .bool)))))))]
noncomputable def D_s_StoreNew_r98_0_r99_0 (f : Y_s_StoreNew) : Nat × Fn := (272, ⟨p_s_StoreNew_r98_0_r99_0, r_s_StoreNew_r98_0_r99_0, fun x => f x.1⟩)
noncomputable def F_s_StoreNew_r98_0_r99_0 : Fn := (D_s_StoreNew_r98_0_r99_0 P_s_StoreNew).2
theorem E_s_StoreNew_r98_0_r99_0 (f_s_DiskNew : Y_s_DiskNew) : ∀ x, (mkFn cfgR [D_s_DiskNew f_s_DiskNew] (lookN []) 6 [.cell 2 29] (Tryz.f272.body.getD .skip) p_s_StoreNew_r98_0_r99_0 r_s_StoreNew_r98_0_r99_0).fn x = B_s_StoreNew f_s_DiskNew x.1 := by intro x; kernel_rfl
theorem S_s_StoreNew_r98_0_r99_0 : Sound Tryz.prog 272 F_s_StoreNew_r98_0_r99_0 := sm MO cfgR_ok (tc Tryz.call303 S_s_DiskNew tab_nil) Tryz.func272 (by kernel_rfl) (by decide) (E_s_StoreNew_r98_0_r99_0 P_s_DiskNew)
abbrev p_s_ServerNew_r98_0_r99_0 : List PK := [.val false (.int .i64) false]
abbrev r_s_ServerNew_r98_0_r99_0 : List RK := [.val true (.pair (.pair kDisk (.pair (.int .i64) (.pair (.int .i64) (.sl 109 (.pair .str (.pair (.int .i64) (.pair (.rs 5 (.int .u8)) .bool))))))) (.sl 130 kHeld))]
noncomputable def D_s_ServerNew_r98_0_r99_0 (f : Y_s_ServerNew) : Nat × Fn := (216, ⟨p_s_ServerNew_r98_0_r99_0, r_s_ServerNew_r98_0_r99_0, fun x => f x.1⟩)
noncomputable def F_s_ServerNew_r98_0_r99_0 : Fn := (D_s_ServerNew_r98_0_r99_0 P_s_ServerNew).2
theorem E_s_ServerNew_r98_0_r99_0 (f_s_StoreNew : Y_s_StoreNew) : ∀ x, (mkFn cfgR [D_s_StoreNew_r98_0_r99_0 f_s_StoreNew] (lookN []) 6 [.cell 2 32] (Tryz.f216.body.getD .skip) p_s_ServerNew_r98_0_r99_0 r_s_ServerNew_r98_0_r99_0).fn x = B_s_ServerNew f_s_StoreNew x.1 := by intro x; kernel_rfl
theorem S_s_ServerNew_r98_0_r99_0 : Sound Tryz.prog 216 F_s_ServerNew_r98_0_r99_0 := sm MO cfgR_ok (tc Tryz.call272 S_s_StoreNew_r98_0_r99_0 tab_nil) Tryz.func216 (by kernel_rfl) (by decide) (E_s_ServerNew_r98_0_r99_0 P_s_StoreNew)
def A_s_WorldNew_r98_0_r99_0 : Nat → Option Jn := lookN [(7, ⟨[.b 5 [.own 36864, .own 36865, .int .i64, .int .i64, .own 36868, .own 36869, .own 100000000, .own 100000001, .nil, .nil, .own 100000002], .r 36864 9 .str, .r 36865 9 .str, .r 36868 109 (.pair .str (.pair (.int .i64) (.pair (.rs 5 (.int .u8)) .bool))), .r 36869 130 kHeld, .r 100000000 79 (.pair .str (.pair (.rs 5 (.int .u8)) kResp)), .r 100000001 4 .bool, .r 100000002 3 (.int .i64)], lt 10 26 [.r 23, .r 24, .r 28, .r 29, .r 33, .r 34, .r 94209, .t 6], true⟩), (58, ⟨[.t 6 false [.int .i64], .b 5 [.own 36864, .own 36865, .int .i64, .int .i64, .own 36868, .own 36869, .own 100000000, .own 100000001, .nil, .nil, .own 100000002], .r 36864 9 .str, .r 36865 9 .str, .r 36868 109 (.pair .str (.pair (.int .i64) (.pair (.rs 5 (.int .u8)) .bool))), .r 36869 130 kHeld, .r 100000000 79 (.pair .str (.pair (.rs 5 (.int .u8)) kResp)), .r 100000001 4 .bool, .r 100000002 3 (.int .i64)], lt 10 26 [.r 23, .r 24, .r 28, .r 29, .r 33, .r 34, .r 94209], false⟩)]
abbrev p_s_WorldNew_r98_0_r99_0 : List PK := [.val false (.int .i64) false, .val false (.rs 79 kClient) false]
abbrev r_s_WorldNew_r98_0_r99_0 : List RK := [.val true (.pair (.pair (.pair kDisk (.pair (.int .i64) (.pair (.int .i64) (.sl 109 (.pair .str (.pair (.int .i64) (.pair (.rs 5 (.int .u8)) .bool))))))) (.sl 130 kHeld)) (.pair (.sl 79 (.pair .str (.pair (.rs 5 (.int .u8)) kResp))) (.pair (.sl 4 .bool) (.pair (.sl 113 (.pair (.int .i64) (.pair kReq (.rs 5 (.int .u8))))) (.pair (.sl 130 kHeld) (.sl 3 (.int .i64)))))))]
noncomputable def D_s_WorldNew_r98_0_r99_0 (f : Y_s_WorldNew) : Nat × Fn := (140, ⟨p_s_WorldNew_r98_0_r99_0, r_s_WorldNew_r98_0_r99_0, fun x => f x.1 x.2.1⟩)
noncomputable def F_s_WorldNew_r98_0_r99_0 : Fn := (D_s_WorldNew_r98_0_r99_0 P_s_WorldNew).2
theorem E_s_WorldNew_r98_0_r99_0 (f_s_WorldOk : Y_s_WorldOk) (f_s_l17Copy : Y_s_l17Copy) (f_s_ServerNew : Y_s_ServerNew) : ∀ x, (mkFn cfgR [D_s_WorldOk f_s_WorldOk, D_s_l17Copy f_s_l17Copy, D_s_ServerNew_r98_0_r99_0 f_s_ServerNew] A_s_WorldNew_r98_0_r99_0 41 [.cell 4 38] (Tryz.f140.body.getD .skip) p_s_WorldNew_r98_0_r99_0 r_s_WorldNew_r98_0_r99_0).fn x = B_s_WorldNew f_s_WorldOk f_s_l17Copy f_s_ServerNew x.1 x.2.1 := by intro x; kernel_rfl
theorem S_s_WorldNew_r98_0_r99_0 : Sound Tryz.prog 140 F_s_WorldNew_r98_0_r99_0 := sm MO cfgR_ok (tc Tryz.call70 S_s_WorldOk (tc Tryz.call193 S_s_l17Copy (tc Tryz.call216 S_s_ServerNew_r98_0_r99_0 tab_nil))) Tryz.func140 (by kernel_rfl) (by decide) (E_s_WorldNew_r98_0_r99_0 P_s_WorldOk P_s_l17Copy P_s_ServerNew)
def A_s_l15Does_r99_0 : Nat → Option Jn := lookN [(31, ⟨[.t 9 false [.int .i64], .b 8 [.int .i64, .int .i64], .b 10 [.own 100000000, .own 100000001, .int .i64, .int .i64, .ro 109 kUp], .r 100000000 9 .str, .r 100000001 9 .str], lt 19 51 [.r 114688, .r 114689, .r 167936, .r 167937, .r 237568, .r 237569, .r 274432, .r 274433, .t 13, .t 14], false⟩)]
abbrev p_s_l15Does_r99_0 : List PK := [.val true (.pair (.pair (.rs 9 .str) (.rs 9 .str)) (.pair (.int .i64) (.pair (.int .i64) (.rs 109 kUp)))) false, .val true kReq false, .val false (.rs 5 (.int .u8)) false]
abbrev r_s_l15Does_r99_0 : List RK := [.val true (.pair (.pair (.rs 9 .str) (.rs 9 .str)) (.pair (.int .i64) (.pair (.int .i64) (.rs 109 kUp)))), .val true kResp]
noncomputable def D_s_l15Does_r99_0 (f : Y_s_l15Does_r99_0) : Nat × Fn := (92, ⟨p_s_l15Does_r99_0, r_s_l15Does_r99_0, fun x => f x.1 x.2.1 x.2.2.1⟩)
noncomputable def F_s_l15Does_r99_0 : Fn := (D_s_l15Does_r99_0 P_s_l15Does_r99_0).2
theorem E_s_l15Does_r99_0 (f_s_MakeUp_r99_0 : Y_s_MakeUp_r99_0) (f_s_PutUp_r99_0 : Y_s_PutUp_r99_0) (f_s_DoneUp_r99_0 : Y_s_DoneUp_r99_0) (f_s_DropUp_r99_0 : Y_s_DropUp_r99_0) (f_s_l15Looks : Y_s_l15Looks) (f_s_l15Bad : Y_s_l15Bad) : ∀ x, (mkFn cfg [D_s_MakeUp_r99_0 f_s_MakeUp_r99_0, D_s_PutUp_r99_0 f_s_PutUp_r99_0, D_s_DoneUp_r99_0 f_s_DoneUp_r99_0, D_s_DropUp_r99_0 f_s_DropUp_r99_0, D_s_l15Looks f_s_l15Looks, D_s_l15Bad f_s_l15Bad] A_s_l15Does_r99_0 80 [.cell 6 29, .cell 7 126] (Tryz.f92.body.getD .skip) p_s_l15Does_r99_0 r_s_l15Does_r99_0).fn x = B_s_l15Does_r99_0 f_s_MakeUp_r99_0 f_s_PutUp_r99_0 f_s_DoneUp_r99_0 f_s_DropUp_r99_0 f_s_l15Looks f_s_l15Bad x.1 x.2.1 x.2.2.1 := by intro x; kernel_rfl
theorem S_s_l15Does_r99_0 : Sound Tryz.prog 92 F_s_l15Does_r99_0 := sm MO cfg_ok (tc Tryz.call162 S_s_MakeUp_r99_0 (tc Tryz.call163 S_s_PutUp_r99_0 (tc Tryz.call164 S_s_DoneUp_r99_0 (tc Tryz.call165 S_s_DropUp_r99_0 (tc Tryz.call166 S_s_l15Looks (tc Tryz.call167 S_s_l15Bad tab_nil)))))) Tryz.func92 (by kernel_rfl) (by decide) (E_s_l15Does_r99_0 P_s_MakeUp_r99_0 P_s_PutUp_r99_0 P_s_DoneUp_r99_0 P_s_DropUp_r99_0 P_s_l15Looks P_s_l15Bad)
def A_s_l18Serve_W : Nat → Option Jn := lookN [(3, ⟨[], lt 8 18 [], false⟩)]
abbrev p_s_l18Serve_W : List PK := [.ptr (.pair (.pair (.pair (.pair (.rs 9 .str) (.rs 9 .str)) (.pair (.int .i64) (.pair (.int .i64) (.rs 109 (.pair .str (.pair (.int .i64) (.pair (.rs 5 (.int .u8)) .bool))))))) (.sl 130 kHeld)) (.pair (.sl 79 (.pair .str (.pair (.rs 5 (.int .u8)) kResp))) (.pair (.sl 4 .bool) (.pair (.sl 113 (.pair (.int .i64) (.pair kReq (.rs 5 (.int .u8))))) (.pair (.sl 130 kHeld) (.sl 3 (.int .i64))))))), .val false (.int .i64) false]
abbrev r_s_l18Serve_W : List RK := [.val false .bool]
noncomputable def D_s_l18Serve_W (f : Y_s_l18Serve_W) : Nat × Fn := (195, ⟨p_s_l18Serve_W, r_s_l18Serve_W, fun x => f x.1 x.2.1⟩)
noncomputable def F_s_l18Serve_W : Fn := (D_s_l18Serve_W P_s_l18Serve_W).2
theorem E_s_l18Serve_W (f_s_l15Does_r99_0 : Y_s_l15Does_r99_0) (f_s_l1In : Y_s_l1In) : ∀ x, (mkFn cfgR [D_s_l15Does_r99_0 f_s_l15Does_r99_0, D_s_l1In f_s_l1In] A_s_l18Serve_W 85 [.tmp 4] (Tryz.f195.body.getD .skip) p_s_l18Serve_W r_s_l18Serve_W).fn x = B_s_l18Serve_W f_s_l15Does_r99_0 f_s_l1In x.1 x.2.1 := by intro x; kernel_rfl
theorem S_s_l18Serve_W : Sound Tryz.prog 195 F_s_l18Serve_W := sm MO cfgR_ok (tc Tryz.call92 S_s_l15Does_r99_0 (tc Tryz.call120 S_s_l1In tab_nil)) Tryz.func195 (by kernel_rfl) (by decide) (E_s_l18Serve_W P_s_l15Does_r99_0 P_s_l1In)
end Go.Proofs.YtpdcljonclhhpaaGreat.Ev
