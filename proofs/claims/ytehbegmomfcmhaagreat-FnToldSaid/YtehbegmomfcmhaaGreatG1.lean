/- Each function of the program does what its plain function says. -/
import Derived.Test.YtehbegmomfcmhaaGreatTy
import Derived.Test.YtehbegmomfcmhaaGreatPu
import Derived.Test.YtehbegmomfcmhaaGreatIns
set_option linter.unusedVariables false
set_option maxRecDepth 100000
namespace Go.Proofs.YtehbegmomfcmhaaGreat.Ev
abbrev p_slices_Insert_impl_Up_impl_Up : List PK := [.val false (.sl 89 kUp) false, .val false (.int .i64) false, .val false (.sl 89 kUp) false]
abbrev r_slices_Insert_impl_Up_impl_Up : List RK := [.val false (.sl 89 kUp)]
noncomputable def D_slices_Insert_impl_Up_impl_Up (f : Y_slices_Insert_impl_Up_impl_Up) : Nat × Fn := (176, ⟨p_slices_Insert_impl_Up_impl_Up, r_slices_Insert_impl_Up_impl_Up, fun x => f x.1 x.2.1 x.2.2.1⟩)
noncomputable def F_slices_Insert_impl_Up_impl_Up : Fn := (D_slices_Insert_impl_Up_impl_Up P_slices_Insert_impl_Up_impl_Up).2
theorem S_slices_Insert_impl_Up_impl_Up : Sound Tryz.prog 176 F_slices_Insert_impl_Up_impl_Up := insert_sound kUp (by decide)
abbrev p_slices_Delete_impl_Up_impl_Up : List PK := [.val false (.sl 89 kUp) false, .val false (.int .i64) false, .val false (.int .i64) false]
abbrev r_slices_Delete_impl_Up_impl_Up : List RK := [.val false (.sl 89 kUp)]
noncomputable def D_slices_Delete_impl_Up_impl_Up (f : Y_slices_Delete_impl_Up_impl_Up) : Nat × Fn := (177, ⟨p_slices_Delete_impl_Up_impl_Up, r_slices_Delete_impl_Up_impl_Up, fun x => f x.1 x.2.1 x.2.2.1⟩)
noncomputable def F_slices_Delete_impl_Up_impl_Up : Fn := (D_slices_Delete_impl_Up_impl_Up P_slices_Delete_impl_Up_impl_Up).2
theorem S_slices_Delete_impl_Up_impl_Up : Sound Tryz.prog 177 F_slices_Delete_impl_Up_impl_Up := delete_sound kUp (by decide)
abbrev p_w_big : List PK := [.val false (.rs 5 (.int .u8)) false]
abbrev r_w_big : List RK := [.val false .bool]
noncomputable def D_w_big (f : Y_w_big) : Nat × Fn := (7, ⟨p_w_big, r_w_big, fun x => f x.1⟩)
noncomputable def F_w_big : Fn := (D_w_big P_w_big).2
theorem E_w_big : ∀ x, (mkFn cfg [] (lookN []) 6 [.tmp 2] (Tryz.f7.body.getD .skip) p_w_big r_w_big).fn x = B_w_big x.1 := by intro x; kernel_rfl
theorem S_w_big : Sound Tryz.prog 7 F_w_big := sm MO cfg_ok tab_nil Tryz.func7 (by kernel_rfl) (by decide) (E_w_big)
abbrev p_s_l12Copy : List PK := [.val true (.pair (.rs 9 .str) (.rs 9 .str)) false]
abbrev r_s_l12Copy : List RK := [.val true kDisk]
noncomputable def D_s_l12Copy (f : Y_s_l12Copy) : Nat × Fn := (112, ⟨p_s_l12Copy, r_s_l12Copy, fun x => f x.1⟩)
noncomputable def F_s_l12Copy : Fn := (D_s_l12Copy P_s_l12Copy).2
theorem E_s_l12Copy : ∀ x, (mkFn cfg [] (lookN []) 12 [.cell 2 26] (Tryz.f112.body.getD .skip) p_s_l12Copy r_s_l12Copy).fn x = B_s_l12Copy x.1 := by intro x; kernel_rfl
theorem S_s_l12Copy : Sound Tryz.prog 112 F_s_l12Copy := sm MO cfg_ok tab_nil Tryz.func112 (by kernel_rfl) (by decide) (E_s_l12Copy)
def A_s_l14CopyUps : Nat → Option Jn := lookN [(58, ⟨[.t 3 false [.own 100000000], .t 4 false [.int .i64], .r 100000000 89 kUp], lt 7 19 [.b 5, .r 6, .r 17, .r 20, .r 24, .r 25, .t 5], false⟩)]
abbrev p_s_l14CopyUps : List PK := [.val false (.rs 89 kUp) false]
abbrev r_s_l14CopyUps : List RK := [.val false (.sl 89 kUp)]
noncomputable def D_s_l14CopyUps (f : Y_s_l14CopyUps) : Nat × Fn := (142, ⟨p_s_l14CopyUps, r_s_l14CopyUps, fun x => f x.1⟩)
noncomputable def F_s_l14CopyUps : Fn := (D_s_l14CopyUps P_s_l14CopyUps).2
theorem E_s_l14CopyUps : ∀ x, (mkFn cfg [] A_s_l14CopyUps 27 [.tmp 2] (Tryz.f142.body.getD .skip) p_s_l14CopyUps r_s_l14CopyUps).fn x = B_s_l14CopyUps x.1 := by intro x; kernel_rfl
theorem S_s_l14CopyUps : Sound Tryz.prog 142 F_s_l14CopyUps := sm MO cfg_ok tab_nil Tryz.func142 (by kernel_rfl) (by decide) (E_s_l14CopyUps)
abbrev p_s_l14Copy : List PK := [.val true (.pair (.pair (.rs 9 .str) (.rs 9 .str)) (.pair (.int .i64) (.pair (.int .i64) (.rs 89 kUp)))) false]
abbrev r_s_l14Copy : List RK := [.val true kStore]
noncomputable def D_s_l14Copy (f : Y_s_l14Copy) : Nat × Fn := (94, ⟨p_s_l14Copy, r_s_l14Copy, fun x => f x.1⟩)
noncomputable def F_s_l14Copy : Fn := (D_s_l14Copy P_s_l14Copy).2
theorem E_s_l14Copy (f_s_l12Copy : Y_s_l12Copy) (f_s_l14CopyUps : Y_s_l14CopyUps) : ∀ x, (mkFn cfg [D_s_l12Copy f_s_l12Copy, D_s_l14CopyUps f_s_l14CopyUps] (lookN []) 14 [.cell 2 29] (Tryz.f94.body.getD .skip) p_s_l14Copy r_s_l14Copy).fn x = B_s_l14Copy f_s_l12Copy f_s_l14CopyUps x.1 := by intro x; kernel_rfl
theorem S_s_l14Copy : Sound Tryz.prog 94 F_s_l14Copy := sm MO cfg_ok (tc Tryz.call112 S_s_l12Copy (tc Tryz.call142 S_s_l14CopyUps tab_nil)) Tryz.func94 (by kernel_rfl) (by decide) (E_s_l14Copy P_s_l12Copy P_s_l14CopyUps)
abbrev p_s_l15Copy : List PK := [.val true (.pair (.pair (.pair (.rs 9 .str) (.rs 9 .str)) (.pair (.int .i64) (.pair (.int .i64) (.rs 89 kUp)))) (.rs 85 kHeld)) false]
abbrev r_s_l15Copy : List RK := [.val true kServer]
noncomputable def D_s_l15Copy (f : Y_s_l15Copy) : Nat × Fn := (45, ⟨p_s_l15Copy, r_s_l15Copy, fun x => f x.1⟩)
noncomputable def F_s_l15Copy : Fn := (D_s_l15Copy P_s_l15Copy).2
theorem E_s_l15Copy (f_s_l14Copy : Y_s_l14Copy) : ∀ x, (mkFn cfg [D_s_l14Copy f_s_l14Copy] (lookN []) 11 [.cell 2 32] (Tryz.f45.body.getD .skip) p_s_l15Copy r_s_l15Copy).fn x = B_s_l15Copy f_s_l14Copy x.1 := by intro x; kernel_rfl
theorem S_s_l15Copy : Sound Tryz.prog 45 F_s_l15Copy := sm MO cfg_ok (tc Tryz.call94 S_s_l14Copy tab_nil) Tryz.func45 (by kernel_rfl) (by decide) (E_s_l15Copy P_s_l14Copy)
abbrev p_s_l1In : List PK := [.val false (.int .i64) false, .val false (.int .i64) false, .val false (.int .i64) false]
abbrev r_s_l1In : List RK := [.val false .bool]
noncomputable def D_s_l1In (f : Y_s_l1In) : Nat × Fn := (62, ⟨p_s_l1In, r_s_l1In, fun x => f x.1 x.2.1 x.2.2.1⟩)
noncomputable def F_s_l1In : Fn := (D_s_l1In P_s_l1In).2
theorem E_s_l1In : ∀ x, (mkFn cfg [] (lookN []) 15 [.tmp 6] (Tryz.f62.body.getD .skip) p_s_l1In r_s_l1In).fn x = B_s_l1In x.1 x.2.1 x.2.2.1 := by intro x; kernel_rfl
theorem S_s_l1In : Sound Tryz.prog 62 F_s_l1In := sm MO cfg_ok tab_nil Tryz.func62 (by kernel_rfl) (by decide) (E_s_l1In)
abbrev p_s_RespOk : List PK := [.val true kResp false]
abbrev r_s_RespOk : List RK := [.val false .bool]
noncomputable def D_s_RespOk (f : Y_s_RespOk) : Nat × Fn := (95, ⟨p_s_RespOk, r_s_RespOk, fun x => f x.1⟩)
noncomputable def F_s_RespOk : Fn := (D_s_RespOk P_s_RespOk).2
theorem E_s_RespOk (f_s_l1In : Y_s_l1In) : ∀ x, (mkFn cfg [D_s_l1In f_s_l1In] (lookN []) 11 [.tmp 2] (Tryz.f95.body.getD .skip) p_s_RespOk r_s_RespOk).fn x = B_s_RespOk f_s_l1In x.1 := by intro x; kernel_rfl
theorem S_s_RespOk : Sound Tryz.prog 95 F_s_RespOk := sm MO cfg_ok (tc Tryz.call62 S_s_l1In tab_nil) Tryz.func95 (by kernel_rfl) (by decide) (E_s_RespOk P_s_l1In)
def A_s_DiskOk : Nat → Option Jn := lookN [(3, ⟨[], lt 4 13 [], false⟩), (58, ⟨[.t 3 false [.int .i64]], lt 17 23 [], false⟩)]
abbrev p_s_DiskOk : List PK := [.val true (.pair (.rs 9 .str) (.rs 9 .str)) false]
abbrev r_s_DiskOk : List RK := [.val false .bool]
noncomputable def D_s_DiskOk (f : Y_s_DiskOk) : Nat × Fn := (108, ⟨p_s_DiskOk, r_s_DiskOk, fun x => f x.1⟩)
noncomputable def F_s_DiskOk : Fn := (D_s_DiskOk P_s_DiskOk).2
theorem E_s_DiskOk : ∀ x, (mkFn cfg [] A_s_DiskOk 40 [.tmp 2] (Tryz.f108.body.getD .skip) p_s_DiskOk r_s_DiskOk).fn x = B_s_DiskOk x.1 := by intro x; kernel_rfl
theorem S_s_DiskOk : Sound Tryz.prog 108 F_s_DiskOk := sm MO cfg_ok tab_nil Tryz.func108 (by kernel_rfl) (by decide) (E_s_DiskOk)
def A_s_GetBig : Nat → Option Jn := lookN [(3, ⟨[], lt 10 15 [], false⟩), (15, ⟨[.t 8 false [.int .i64]], lt 25 15 [.t 9], true⟩), (122, ⟨[.t 8 false [.int .i64], .t 9 false [.int .i64]], lt 25 15 [], false⟩)]
abbrev p_s_GetBig : List PK := [.val false (.rs 5 (.int .u8)) false, .val false (.int .i64) false, .val false (.int .i64) false]
abbrev r_s_GetBig : List RK := [.val false (.int .i64), .val false .bool]
noncomputable def D_s_GetBig (f : Y_s_GetBig) : Nat × Fn := (178, ⟨p_s_GetBig, r_s_GetBig, fun x => f x.1 x.2.1 x.2.2.1⟩)
noncomputable def F_s_GetBig : Fn := (D_s_GetBig P_s_GetBig).2
theorem E_s_GetBig (f_s_l1In : Y_s_l1In) : ∀ x, (mkFn cfg [D_s_l1In f_s_l1In] A_s_GetBig 41 [.tmp 6, .tmp 7] (Tryz.f178.body.getD .skip) p_s_GetBig r_s_GetBig).fn x = B_s_GetBig f_s_l1In x.1 x.2.1 x.2.2.1 := by intro x; kernel_rfl
theorem S_s_GetBig : Sound Tryz.prog 178 F_s_GetBig := sm MO cfg_ok (tc Tryz.call62 S_s_l1In tab_nil) Tryz.func178 (by kernel_rfl) (by decide) (E_s_GetBig P_s_l1In)
def A_s_l11Id : Nat → Option Jn := lookN [(3, ⟨[], lt 3 21 [], false⟩), (26, ⟨[.t 3 false [.int .i64]], lt 4 20 [], false⟩)]
abbrev p_s_l11Id : List PK := [.val false .str false]
abbrev r_s_l11Id : List RK := [.val false .bool]
noncomputable def D_s_l11Id (f : Y_s_l11Id) : Nat × Fn := (116, ⟨p_s_l11Id, r_s_l11Id, fun x => f x.1⟩)
noncomputable def F_s_l11Id : Fn := (D_s_l11Id P_s_l11Id).2
theorem E_s_l11Id (f_s_l1In : Y_s_l1In) : ∀ x, (mkFn cfg [D_s_l1In f_s_l1In] A_s_l11Id 27 [.tmp 2] (Tryz.f116.body.getD .skip) p_s_l11Id r_s_l11Id).fn x = B_s_l11Id f_s_l1In x.1 := by intro x; kernel_rfl
theorem S_s_l11Id : Sound Tryz.prog 116 F_s_l11Id := sm MO cfg_ok (tc Tryz.call62 S_s_l1In tab_nil) Tryz.func116 (by kernel_rfl) (by decide) (E_s_l11Id P_s_l1In)
def A_s_RecOk : Nat → Option Jn := lookN [(3, ⟨[], lt 3 16 [], false⟩), (943, ⟨[.t 43 false [.bool]], [.t 44, .t 45], true⟩)]
abbrev p_s_RecOk : List PK := [.val true (.pair (.int .i64) (.pair (.int .i64) (.pair (.int .i64) (.pair .str (.pair (.int .i64) (.rs 5 (.int .u8))))))) false]
abbrev r_s_RecOk : List RK := [.val false .bool]
noncomputable def D_s_RecOk (f : Y_s_RecOk) : Nat × Fn := (179, ⟨p_s_RecOk, r_s_RecOk, fun x => f x.1⟩)
noncomputable def F_s_RecOk : Fn := (D_s_RecOk P_s_RecOk).2
theorem E_s_RecOk (f_s_l1In : Y_s_l1In) (f_s_l11Id : Y_s_l11Id) : ∀ x, (mkFn cfg [D_s_l1In f_s_l1In, D_s_l11Id f_s_l11Id] A_s_RecOk 55 [.tmp 2] (Tryz.f179.body.getD .skip) p_s_RecOk r_s_RecOk).fn x = B_s_RecOk f_s_l1In f_s_l11Id x.1 := by intro x; kernel_rfl
theorem S_s_RecOk : Sound Tryz.prog 179 F_s_RecOk := sm MO cfg_ok (tc Tryz.call62 S_s_l1In (tc Tryz.call116 S_s_l11Id tab_nil)) Tryz.func179 (by kernel_rfl) (by decide) (E_s_RecOk P_s_l1In P_s_l11Id)
def A_s_Crc : Nat → Option Jn := lookN [(7, ⟨[.t 3 false [.int .i64]], lt 4 28 [], true⟩), (58, ⟨[.t 3 false [.int .i64], .t 4 false [.int .i64]], lt 5 27 [], false⟩), (7462, ⟨[.t 3 false [.int .i64], .t 5 false [.int .i64]], lt 20 12 [.t 6], false⟩)]
abbrev p_s_Crc : List PK := [.val false (.rs 5 (.int .u8)) false]
abbrev r_s_Crc : List RK := [.val false (.int .i64)]
noncomputable def D_s_Crc (f : Y_s_Crc) : Nat × Fn := (131, ⟨p_s_Crc, r_s_Crc, fun x => f x.1⟩)
noncomputable def F_s_Crc : Fn := (D_s_Crc P_s_Crc).2
theorem E_s_Crc : ∀ x, (mkFn cfg [] A_s_Crc 34 [.tmp 2] (Tryz.f131.body.getD .skip) p_s_Crc r_s_Crc).fn x = B_s_Crc x.1 := by intro x; kernel_rfl
theorem S_s_Crc : Sound Tryz.prog 131 F_s_Crc := sm MO cfg_ok tab_nil Tryz.func131 (by kernel_rfl) (by decide) (E_s_Crc)
def A_s_PutBig : Nat → Option Jn := lookN [(7, ⟨[.t 1 false [.int .i64]], [.t 12, .t 13], true⟩), (250, ⟨[.t 7 false [.own 100001000], .t 8 false [.int .i64], .r 100001000 5 (.int .u8)], lt 20 13 [.r 11, .r 31, .r 32], false⟩)]
abbrev p_s_PutBig : List PK := [.val false (.rs 5 (.int .u8)) false, .val false (.int .i64) false, .val false (.int .i64) false]
abbrev r_s_PutBig : List RK := [.val false (.sl 5 (.int .u8))]
noncomputable def D_s_PutBig (f : Y_s_PutBig) : Nat × Fn := (189, ⟨p_s_PutBig, r_s_PutBig, fun x => f x.1 x.2.1 x.2.2.1⟩)
noncomputable def F_s_PutBig : Fn := (D_s_PutBig P_s_PutBig).2
theorem E_s_PutBig (f_s_l1In : Y_s_l1In) : ∀ x, (mkFn cfg [D_s_l1In f_s_l1In] A_s_PutBig 34 [.tmp 6] (Tryz.f189.body.getD .skip) p_s_PutBig r_s_PutBig).fn x = B_s_PutBig f_s_l1In x.1 x.2.1 x.2.2.1 := by intro x; kernel_rfl
theorem S_s_PutBig : Sound Tryz.prog 189 F_s_PutBig := sm MO cfg_ok (tc Tryz.call62 S_s_l1In tab_nil) Tryz.func189 (by kernel_rfl) (by decide) (E_s_PutBig P_s_l1In)
abbrev p_s_l13Put : List PK := [.val true (.pair (.int .i64) (.pair (.int .i64) (.pair (.int .i64) (.pair .str (.pair (.int .i64) (.rs 5 (.int .u8))))))) false]
abbrev r_s_l13Put : List RK := [.val false .str]
noncomputable def D_s_l13Put (f : Y_s_l13Put) : Nat × Fn := (180, ⟨p_s_l13Put, r_s_l13Put, fun x => f x.1⟩)
noncomputable def F_s_l13Put : Fn := (D_s_l13Put P_s_l13Put).2
theorem E_s_l13Put (f_s_Crc : Y_s_Crc) (f_s_PutBig : Y_s_PutBig) : ∀ x, (mkFn cfg [D_s_Crc f_s_Crc, D_s_PutBig f_s_PutBig] (lookN []) 38 [.tmp 2] (Tryz.f180.body.getD .skip) p_s_l13Put r_s_l13Put).fn x = B_s_l13Put f_s_Crc f_s_PutBig x.1 := by intro x; kernel_rfl
theorem S_s_l13Put : Sound Tryz.prog 180 F_s_l13Put := sm MO cfg_ok (tc Tryz.call131 S_s_Crc (tc Tryz.call189 S_s_PutBig tab_nil)) Tryz.func180 (by kernel_rfl) (by decide) (E_s_l13Put P_s_Crc P_s_PutBig)
def A_s_GetRec : Nat → Option Jn := lookN [(255, ⟨[], lt 42 21 [], false⟩), (4095, ⟨[], lt 87 15 [], false⟩)]
abbrev p_s_GetRec : List PK := [.val false .str false]
abbrev r_s_GetRec : List RK := [.val true kRec, .val false .bool]
noncomputable def D_s_GetRec (f : Y_s_GetRec) : Nat × Fn := (144, ⟨p_s_GetRec, r_s_GetRec, fun x => f x.1⟩)
noncomputable def F_s_GetRec : Fn := (D_s_GetRec P_s_GetRec).2
theorem E_s_GetRec (f_s_GetBig : Y_s_GetBig) (f_s_RecOk : Y_s_RecOk) (f_s_l13Put : Y_s_l13Put) : ∀ x, (mkFn cfg [D_s_GetBig f_s_GetBig, D_s_RecOk f_s_RecOk, D_s_l13Put f_s_l13Put] A_s_GetRec 127 [.cell 2 139, .tmp 3] (Tryz.f144.body.getD .skip) p_s_GetRec r_s_GetRec).fn x = B_s_GetRec f_s_GetBig f_s_RecOk f_s_l13Put x.1 := by intro x; kernel_rfl
theorem S_s_GetRec : Sound Tryz.prog 144 F_s_GetRec := sm MO cfg_ok (tc Tryz.call178 S_s_GetBig (tc Tryz.call179 S_s_RecOk (tc Tryz.call180 S_s_l13Put tab_nil))) Tryz.func144 (by kernel_rfl) (by decide) (E_s_GetRec P_s_GetBig P_s_RecOk P_s_l13Put)
def A_s_ScanRecs : Nat → Option Jn := lookN [(122, ⟨[.t 3 false [.own 100000000], .t 4 false [.int .i64], .t 5 false [.int .i64], .r 100000000 139 kRec], lt 40 6 (lt 9 30 [.b 6, .r 8, .r 42, .r 43, .r 94213, .t 6, .t 7]), false⟩)]
abbrev p_s_ScanRecs : List PK := [.val true (.pair (.rs 9 .str) (.rs 9 .str)) false]
abbrev r_s_ScanRecs : List RK := [.val false (.sl 139 kRec)]
noncomputable def D_s_ScanRecs (f : Y_s_ScanRecs) : Nat × Fn := (109, ⟨p_s_ScanRecs, r_s_ScanRecs, fun x => f x.1⟩)
noncomputable def F_s_ScanRecs : Fn := (D_s_ScanRecs P_s_ScanRecs).2
theorem E_s_ScanRecs (f_s_GetRec : Y_s_GetRec) : ∀ x, (mkFn cfg [D_s_GetRec f_s_GetRec] A_s_ScanRecs 47 [.tmp 2] (Tryz.f109.body.getD .skip) p_s_ScanRecs r_s_ScanRecs).fn x = B_s_ScanRecs f_s_GetRec x.1 := by intro x; kernel_rfl
theorem S_s_ScanRecs : Sound Tryz.prog 109 F_s_ScanRecs := sm MO cfg_ok (tc Tryz.call144 S_s_GetRec tab_nil) Tryz.func109 (by kernel_rfl) (by decide) (E_s_ScanRecs P_s_GetRec)
def A_s_l14At : Nat → Option Jn := lookN [(26, ⟨[.t 5 false [.int .i64]], lt 6 13 [], false⟩)]
abbrev p_s_l14At : List PK := [.val false (.rs 89 kUp) false, .val false .str false]
abbrev r_s_l14At : List RK := [.val false (.int .i64)]
noncomputable def D_s_l14At (f : Y_s_l14At) : Nat × Fn := (163, ⟨p_s_l14At, r_s_l14At, fun x => f x.1 x.2.1⟩)
noncomputable def F_s_l14At : Fn := (D_s_l14At P_s_l14At).2
theorem E_s_l14At : ∀ x, (mkFn cfg [] A_s_l14At 20 [.tmp 4] (Tryz.f163.body.getD .skip) p_s_l14At r_s_l14At).fn x = B_s_l14At x.1 x.2.1 := by intro x; kernel_rfl
theorem S_s_l14At : Sound Tryz.prog 163 F_s_l14At := sm MO cfg_ok tab_nil Tryz.func163 (by kernel_rfl) (by decide) (E_s_l14At)
def A_s_l14CopyUps_r98_0_r99_0 : Nat → Option Jn := lookN [(58, ⟨[.t 3 false [.own 100000000], .t 4 false [.int .i64], .r 100000000 89 (.pair .str (.pair (.int .i64) (.pair (.rs 5 (.int .u8)) .bool)))], lt 7 19 [.b 5, .r 6, .r 17, .r 20, .r 24, .r 25, .t 5], false⟩)]
abbrev p_s_l14CopyUps_r98_0_r99_0 : List PK := [.val false (.rs 89 kUp) false]
abbrev r_s_l14CopyUps_r98_0_r99_0 : List RK := [.val false (.sl 89 (.pair .str (.pair (.int .i64) (.pair (.rs 5 (.int .u8)) .bool))))]
noncomputable def D_s_l14CopyUps_r98_0_r99_0 (f : Y_s_l14CopyUps) : Nat × Fn := (142, ⟨p_s_l14CopyUps_r98_0_r99_0, r_s_l14CopyUps_r98_0_r99_0, fun x => f x.1⟩)
noncomputable def F_s_l14CopyUps_r98_0_r99_0 : Fn := (D_s_l14CopyUps_r98_0_r99_0 P_s_l14CopyUps).2
theorem E_s_l14CopyUps_r98_0_r99_0 : ∀ x, (mkFn cfgR [] A_s_l14CopyUps_r98_0_r99_0 27 [.tmp 2] (Tryz.f142.body.getD .skip) p_s_l14CopyUps_r98_0_r99_0 r_s_l14CopyUps_r98_0_r99_0).fn x = B_s_l14CopyUps x.1 := by intro x; kernel_rfl
theorem S_s_l14CopyUps_r98_0_r99_0 : Sound Tryz.prog 142 F_s_l14CopyUps_r98_0_r99_0 := sm MO cfgR_ok tab_nil Tryz.func142 (by kernel_rfl) (by decide) (E_s_l14CopyUps_r98_0_r99_0)
def A_s_l14Make_r98_0_r99_0 : Nat → Option Jn := lookN [(15, ⟨[.t 5 false [.own 11], .t 6 false [.int .i64], .r 11 89 (.pair .str (.pair (.int .i64) (.pair (.rs 5 (.int .u8)) .bool)))], lt 15 23 [.x 21, .x 33, .x 35], true⟩), (60, ⟨[.t 5 false [.own 11], .t 6 false [.int .i64], .r 11 89 (.pair .str (.pair (.int .i64) (.pair (.rs 5 (.int .u8)) .bool)))], lt 15 23 [.x 21, .x 33, .x 35], false⟩), (120, ⟨[], lt 15 13 [.x 21], false⟩)]
abbrev p_s_l14Make_r98_0_r99_0 : List PK := [.val false (.rs 89 kUp) false, .val true (.pair .str (.pair (.int .i64) (.pair (.rs 5 (.int .u8)) .bool))) false]
abbrev r_s_l14Make_r98_0_r99_0 : List RK := [.val false (.sl 89 (.pair .str (.pair (.int .i64) (.pair (.rs 5 (.int .u8)) .bool))))]
noncomputable def D_s_l14Make_r98_0_r99_0 (f : Y_s_l14Make_r98_0_r99_0) : Nat × Fn := (181, ⟨p_s_l14Make_r98_0_r99_0, r_s_l14Make_r98_0_r99_0, fun x => f x.1 x.2.1⟩)
noncomputable def F_s_l14Make_r98_0_r99_0 : Fn := (D_s_l14Make_r98_0_r99_0 P_s_l14Make_r98_0_r99_0).2
theorem E_s_l14Make_r98_0_r99_0 (f_s_l14CopyUps : Y_s_l14CopyUps) : ∀ x, (mkFn cfgR [D_s_l14CopyUps_r98_0_r99_0 f_s_l14CopyUps] A_s_l14Make_r98_0_r99_0 43 [.tmp 4] (Tryz.f181.body.getD .skip) p_s_l14Make_r98_0_r99_0 r_s_l14Make_r98_0_r99_0).fn x = B_s_l14Make_r98_0_r99_0 f_s_l14CopyUps x.1 x.2.1 := by intro x; kernel_rfl
theorem S_s_l14Make_r98_0_r99_0 : Sound Tryz.prog 181 F_s_l14Make_r98_0_r99_0 := sm MO cfgR_ok (tc Tryz.call142 S_s_l14CopyUps_r98_0_r99_0 tab_nil) Tryz.func181 (by kernel_rfl) (by decide) (E_s_l14Make_r98_0_r99_0 P_s_l14CopyUps)
def A_s_l14One_r99_0 : Nat → Option Jn := lookN [(4074, ⟨[], lt 43 27 [], false⟩)]
abbrev p_s_l14One_r99_0 : List PK := [.val false (.rs 89 kUp) false, .val true (.pair (.int .i64) (.pair (.int .i64) (.pair (.int .i64) (.pair .str (.pair (.int .i64) (.rs 5 (.int .u8))))))) false]
abbrev r_s_l14One_r99_0 : List RK := [.val false (.rs 89 (.pair .str (.pair (.int .i64) (.pair (.rs 5 (.int .u8)) .bool)))), .val false .bool]
noncomputable def D_s_l14One_r99_0 (f : Y_s_l14One_r99_0) : Nat × Fn := (155, ⟨p_s_l14One_r99_0, r_s_l14One_r99_0, fun x => f x.1 x.2.1⟩)
noncomputable def F_s_l14One_r99_0 : Fn := (D_s_l14One_r99_0 P_s_l14One_r99_0).2
theorem E_s_l14One_r99_0 (f_s_l14CopyUps : Y_s_l14CopyUps) (f_s_l14At : Y_s_l14At) (f_s_l14Make_r98_0_r99_0 : Y_s_l14Make_r98_0_r99_0) : ∀ x, (mkFn cfg [D_s_l14CopyUps f_s_l14CopyUps, D_s_l14At f_s_l14At, D_s_l14Make_r98_0_r99_0 f_s_l14Make_r98_0_r99_0] A_s_l14One_r99_0 114 [.tmp 4, .tmp 5] (Tryz.f155.body.getD .skip) p_s_l14One_r99_0 r_s_l14One_r99_0).fn x = B_s_l14One_r99_0 f_s_l14CopyUps f_s_l14At f_s_l14Make_r98_0_r99_0 x.1 x.2.1 := by intro x; kernel_rfl
theorem S_s_l14One_r99_0 : Sound Tryz.prog 155 F_s_l14One_r99_0 := sm MO cfg_ok (tc Tryz.call142 S_s_l14CopyUps (tc Tryz.call163 S_s_l14At (tc Tryz.call181 S_s_l14Make_r98_0_r99_0 tab_nil))) Tryz.func155 (by kernel_rfl) (by decide) (E_s_l14One_r99_0 P_s_l14CopyUps P_s_l14At P_s_l14Make_r98_0_r99_0)
def A_s_l14SameUps : Nat → Option Jn := lookN [(58, ⟨[.t 5 false [.int .i64]], lt 11 58 [], false⟩)]
abbrev p_s_l14SameUps : List PK := [.val false (.rs 89 kUp) false, .val false (.rs 89 kUp) false]
abbrev r_s_l14SameUps : List RK := [.val false .bool]
noncomputable def D_s_l14SameUps (f : Y_s_l14SameUps) : Nat × Fn := (143, ⟨p_s_l14SameUps, r_s_l14SameUps, fun x => f x.1 x.2.1⟩)
noncomputable def F_s_l14SameUps : Fn := (D_s_l14SameUps P_s_l14SameUps).2
theorem E_s_l14SameUps : ∀ x, (mkFn cfg [] A_s_l14SameUps 69 [.tmp 4] (Tryz.f143.body.getD .skip) p_s_l14SameUps r_s_l14SameUps).fn x = B_s_l14SameUps x.1 x.2.1 := by intro x; kernel_rfl
theorem S_s_l14SameUps : Sound Tryz.prog 143 F_s_l14SameUps := sm MO cfg_ok tab_nil Tryz.func143 (by kernel_rfl) (by decide) (E_s_l14SameUps)
def A_s_FoldRecs_r99_0 : Nat → Option Jn := lookN [(7, ⟨[.t 4 false [.ro 89 (.pair .str (.pair (.int .i64) (.pair (.rs 5 (.int .u8)) .bool)))]], lt 5 21 [.r 8, .t 27], false⟩), (58, ⟨[.t 4 false [.ro 89 (.pair .str (.pair (.int .i64) (.pair (.rs 5 (.int .u8)) .bool)))], .t 5 false [.int .i64]], lt 6 20 [.r 8, .t 27], false⟩)]
abbrev p_s_FoldRecs_r99_0 : List PK := [.val false (.rs 139 kRec) false]
abbrev r_s_FoldRecs_r99_0 : List RK := [.val false (.rs 89 kUp), .val false .bool]
noncomputable def D_s_FoldRecs_r99_0 (f : Y_s_FoldRecs_r99_0) : Nat × Fn := (110, ⟨p_s_FoldRecs_r99_0, r_s_FoldRecs_r99_0, fun x => f x.1⟩)
noncomputable def F_s_FoldRecs_r99_0 : Fn := (D_s_FoldRecs_r99_0 P_s_FoldRecs_r99_0).2
theorem E_s_FoldRecs_r99_0 (f_s_l14One_r99_0 : Y_s_l14One_r99_0) : ∀ x, (mkFn cfg [D_s_l14One_r99_0 f_s_l14One_r99_0] A_s_FoldRecs_r99_0 29 [.tmp 2, .tmp 3] (Tryz.f110.body.getD .skip) p_s_FoldRecs_r99_0 r_s_FoldRecs_r99_0).fn x = B_s_FoldRecs_r99_0 f_s_l14One_r99_0 x.1 := by intro x; kernel_rfl
theorem S_s_FoldRecs_r99_0 : Sound Tryz.prog 110 F_s_FoldRecs_r99_0 := sm MO cfg_ok (tc Tryz.call155 S_s_l14One_r99_0 tab_nil) Tryz.func110 (by kernel_rfl) (by decide) (E_s_FoldRecs_r99_0 P_s_l14One_r99_0)
def A_s_StoreOk : Nat → Option Jn := lookN [(3, ⟨[], lt 9 10 [], false⟩), (31, ⟨[], lt 27 33 [], false⟩), (506, ⟨[.t 6 false [.int .i64]], lt 62 26 [.b 7, .r 319493, .t 7, .t 8], false⟩)]
abbrev p_s_StoreOk : List PK := [.val true (.pair (.pair (.rs 9 .str) (.rs 9 .str)) (.pair (.int .i64) (.pair (.int .i64) (.rs 89 kUp)))) false]
abbrev r_s_StoreOk : List RK := [.val false .bool]
noncomputable def D_s_StoreOk (f : Y_s_StoreOk) : Nat × Fn := (96, ⟨p_s_StoreOk, r_s_StoreOk, fun x => f x.1⟩)
noncomputable def F_s_StoreOk : Fn := (D_s_StoreOk P_s_StoreOk).2
theorem E_s_StoreOk (f_s_l1In : Y_s_l1In) (f_s_DiskOk : Y_s_DiskOk) (f_s_ScanRecs : Y_s_ScanRecs) (f_s_FoldRecs_r99_0 : Y_s_FoldRecs_r99_0) (f_s_l14SameUps : Y_s_l14SameUps) (f_s_GetRec : Y_s_GetRec) : ∀ x, (mkFn cfg [D_s_l1In f_s_l1In, D_s_DiskOk f_s_DiskOk, D_s_ScanRecs f_s_ScanRecs, D_s_FoldRecs_r99_0 f_s_FoldRecs_r99_0, D_s_l14SameUps f_s_l14SameUps, D_s_GetRec f_s_GetRec] A_s_StoreOk 88 [.tmp 2] (Tryz.f96.body.getD .skip) p_s_StoreOk r_s_StoreOk).fn x = B_s_StoreOk f_s_l1In f_s_DiskOk f_s_ScanRecs f_s_FoldRecs_r99_0 f_s_l14SameUps f_s_GetRec x.1 := by intro x; kernel_rfl
theorem S_s_StoreOk : Sound Tryz.prog 96 F_s_StoreOk := sm MO cfg_ok (tc Tryz.call62 S_s_l1In (tc Tryz.call108 S_s_DiskOk (tc Tryz.call109 S_s_ScanRecs (tc Tryz.call110 S_s_FoldRecs_r99_0 (tc Tryz.call143 S_s_l14SameUps (tc Tryz.call144 S_s_GetRec tab_nil)))))) Tryz.func96 (by kernel_rfl) (by decide) (E_s_StoreOk P_s_l1In P_s_DiskOk P_s_ScanRecs P_s_FoldRecs_r99_0 P_s_l14SameUps P_s_GetRec)
def A_s_ServerOk : Nat → Option Jn := lookN [(3, ⟨[], lt 3 16 [], false⟩), (26, ⟨[.t 3 false [.int .i64]], lt 4 15 [], false⟩)]
abbrev p_s_ServerOk : List PK := [.val true (.pair (.pair (.pair (.rs 9 .str) (.rs 9 .str)) (.pair (.int .i64) (.pair (.int .i64) (.rs 89 kUp)))) (.rs 85 kHeld)) false]
abbrev r_s_ServerOk : List RK := [.val false .bool]
noncomputable def D_s_ServerOk (f : Y_s_ServerOk) : Nat × Fn := (46, ⟨p_s_ServerOk, r_s_ServerOk, fun x => f x.1⟩)
noncomputable def F_s_ServerOk : Fn := (D_s_ServerOk P_s_ServerOk).2
theorem E_s_ServerOk (f_s_RespOk : Y_s_RespOk) (f_s_StoreOk : Y_s_StoreOk) : ∀ x, (mkFn cfg [D_s_RespOk f_s_RespOk, D_s_StoreOk f_s_StoreOk] A_s_ServerOk 28 [.tmp 2] (Tryz.f46.body.getD .skip) p_s_ServerOk r_s_ServerOk).fn x = B_s_ServerOk f_s_RespOk f_s_StoreOk x.1 := by intro x; kernel_rfl
theorem S_s_ServerOk : Sound Tryz.prog 46 F_s_ServerOk := sm MO cfg_ok (tc Tryz.call95 S_s_RespOk (tc Tryz.call96 S_s_StoreOk tab_nil)) Tryz.func46 (by kernel_rfl) (by decide) (E_s_ServerOk P_s_RespOk P_s_StoreOk)
abbrev p_s_FlushDisk : List PK := [.val true (.pair (.rs 9 .str) (.rs 9 .str)) false]
abbrev r_s_FlushDisk : List RK := [.val true kDisk]
noncomputable def D_s_FlushDisk (f : Y_s_FlushDisk) : Nat × Fn := (97, ⟨p_s_FlushDisk, r_s_FlushDisk, fun x => f x.1⟩)
noncomputable def F_s_FlushDisk : Fn := (D_s_FlushDisk P_s_FlushDisk).2
theorem E_s_FlushDisk : ∀ x, (mkFn cfg [] (lookN []) 12 [.cell 2 26] (Tryz.f97.body.getD .skip) p_s_FlushDisk r_s_FlushDisk).fn x = B_s_FlushDisk x.1 := by intro x; kernel_rfl
theorem S_s_FlushDisk : Sound Tryz.prog 97 F_s_FlushDisk := sm MO cfg_ok tab_nil Tryz.func97 (by kernel_rfl) (by decide) (E_s_FlushDisk)
abbrev p_s_SyncStore : List PK := [.val true (.pair (.pair (.rs 9 .str) (.rs 9 .str)) (.pair (.int .i64) (.pair (.int .i64) (.rs 89 kUp)))) false]
abbrev r_s_SyncStore : List RK := [.val true kStore]
noncomputable def D_s_SyncStore (f : Y_s_SyncStore) : Nat × Fn := (47, ⟨p_s_SyncStore, r_s_SyncStore, fun x => f x.1⟩)
noncomputable def F_s_SyncStore : Fn := (D_s_SyncStore P_s_SyncStore).2
theorem E_s_SyncStore (f_s_l14Copy : Y_s_l14Copy) (f_s_StoreOk : Y_s_StoreOk) (f_s_FlushDisk : Y_s_FlushDisk) : ∀ x, (mkFn cfg [D_s_l14Copy f_s_l14Copy, D_s_StoreOk f_s_StoreOk, D_s_FlushDisk f_s_FlushDisk] (lookN []) 13 [.cell 2 29] (Tryz.f47.body.getD .skip) p_s_SyncStore r_s_SyncStore).fn x = B_s_SyncStore f_s_l14Copy f_s_StoreOk f_s_FlushDisk x.1 := by intro x; kernel_rfl
theorem S_s_SyncStore : Sound Tryz.prog 47 F_s_SyncStore := sm MO cfg_ok (tc Tryz.call94 S_s_l14Copy (tc Tryz.call96 S_s_StoreOk (tc Tryz.call97 S_s_FlushDisk tab_nil))) Tryz.func47 (by kernel_rfl) (by decide) (E_s_SyncStore P_s_l14Copy P_s_StoreOk P_s_FlushDisk)
abbrev p_s_SyncAll : List PK := [.val true (.pair (.pair (.pair (.rs 9 .str) (.rs 9 .str)) (.pair (.int .i64) (.pair (.int .i64) (.rs 89 kUp)))) (.rs 85 kHeld)) false]
abbrev r_s_SyncAll : List RK := [.val true kServer, .val false (.sl 85 kHeld)]
noncomputable def D_s_SyncAll (f : Y_s_SyncAll) : Nat × Fn := (16, ⟨p_s_SyncAll, r_s_SyncAll, fun x => f x.1⟩)
noncomputable def F_s_SyncAll : Fn := (D_s_SyncAll P_s_SyncAll).2
theorem E_s_SyncAll (f_s_l15Copy : Y_s_l15Copy) (f_s_ServerOk : Y_s_ServerOk) (f_s_SyncStore : Y_s_SyncStore) : ∀ x, (mkFn cfg [D_s_l15Copy f_s_l15Copy, D_s_ServerOk f_s_ServerOk, D_s_SyncStore f_s_SyncStore] (lookN []) 23 [.cell 2 32, .tmp 3] (Tryz.f16.body.getD .skip) p_s_SyncAll r_s_SyncAll).fn x = B_s_SyncAll f_s_l15Copy f_s_ServerOk f_s_SyncStore x.1 := by intro x; kernel_rfl
theorem S_s_SyncAll : Sound Tryz.prog 16 F_s_SyncAll := sm MO cfg_ok (tc Tryz.call45 S_s_l15Copy (tc Tryz.call46 S_s_ServerOk (tc Tryz.call47 S_s_SyncStore tab_nil))) Tryz.func16 (by kernel_rfl) (by decide) (E_s_SyncAll P_s_l15Copy P_s_ServerOk P_s_SyncStore)
def A_s_TopEpoch : Nat → Option Jn := lookN [(58, ⟨[.t 3 false [.int .i64], .t 4 false [.int .i64]], lt 5 27 [.b 5, .r 86021], false⟩)]
abbrev p_s_TopEpoch : List PK := [.val true (.pair (.rs 9 .str) (.rs 9 .str)) false]
abbrev r_s_TopEpoch : List RK := [.val false (.int .i64)]
noncomputable def D_s_TopEpoch (f : Y_s_TopEpoch) : Nat × Fn := (111, ⟨p_s_TopEpoch, r_s_TopEpoch, fun x => f x.1⟩)
noncomputable def F_s_TopEpoch : Fn := (D_s_TopEpoch P_s_TopEpoch).2
theorem E_s_TopEpoch (f_s_GetRec : Y_s_GetRec) : ∀ x, (mkFn cfg [D_s_GetRec f_s_GetRec] A_s_TopEpoch 33 [.tmp 2] (Tryz.f111.body.getD .skip) p_s_TopEpoch r_s_TopEpoch).fn x = B_s_TopEpoch f_s_GetRec x.1 := by intro x; kernel_rfl
theorem S_s_TopEpoch : Sound Tryz.prog 111 F_s_TopEpoch := sm MO cfg_ok (tc Tryz.call144 S_s_GetRec tab_nil) Tryz.func111 (by kernel_rfl) (by decide) (E_s_TopEpoch P_s_GetRec)
def A_s_FallDisk : Nat → Option Jn := lookN [(122, ⟨[.t 6 false [.int .i64], .b 5 [.own 36864, .own 36865], .r 36864 9 .str, .r 36865 9 .str], lt 13 35 [.x 36, .x 38, .x 45, .x 47], false⟩), (1956, ⟨[.t 29 false [.bool]], lt 20 9 [], true⟩)]
abbrev p_s_FallDisk : List PK := [.val true (.pair (.rs 9 .str) (.rs 9 .str)) false, .val false (.rs 4 .bool) false]
abbrev r_s_FallDisk : List RK := [.val true kDisk]
noncomputable def D_s_FallDisk (f : Y_s_FallDisk) : Nat × Fn := (55, ⟨p_s_FallDisk, r_s_FallDisk, fun x => f x.1 x.2.1⟩)
noncomputable def F_s_FallDisk : Fn := (D_s_FallDisk P_s_FallDisk).2
theorem E_s_FallDisk (f_s_DiskOk : Y_s_DiskOk) (f_s_l12Copy : Y_s_l12Copy) : ∀ x, (mkFn cfg [D_s_DiskOk f_s_DiskOk, D_s_l12Copy f_s_l12Copy] A_s_FallDisk 49 [.cell 4 26] (Tryz.f55.body.getD .skip) p_s_FallDisk r_s_FallDisk).fn x = B_s_FallDisk f_s_DiskOk f_s_l12Copy x.1 x.2.1 := by intro x; kernel_rfl
theorem S_s_FallDisk : Sound Tryz.prog 55 F_s_FallDisk := sm MO cfg_ok (tc Tryz.call108 S_s_DiskOk (tc Tryz.call112 S_s_l12Copy tab_nil)) Tryz.func55 (by kernel_rfl) (by decide) (E_s_FallDisk P_s_DiskOk P_s_l12Copy)
def A_s_OpenStore_r99_0 : Nat → Option Jn := lookN [(63, ⟨[], lt 22 6 [], false⟩)]
abbrev p_s_OpenStore_r99_0 : List PK := [.val true (.pair (.rs 9 .str) (.rs 9 .str)) false]
abbrev r_s_OpenStore_r99_0 : List RK := [.val true (.pair kDisk (.pair (.int .i64) (.pair (.int .i64) (.rs 89 kUp)))), .val false .bool]
noncomputable def D_s_OpenStore_r99_0 (f : Y_s_OpenStore_r99_0) : Nat × Fn := (54, ⟨p_s_OpenStore_r99_0, r_s_OpenStore_r99_0, fun x => f x.1⟩)
noncomputable def F_s_OpenStore_r99_0 : Fn := (D_s_OpenStore_r99_0 P_s_OpenStore_r99_0).2
theorem E_s_OpenStore_r99_0 (f_s_DiskOk : Y_s_DiskOk) (f_s_ScanRecs : Y_s_ScanRecs) (f_s_FoldRecs_r99_0 : Y_s_FoldRecs_r99_0) (f_s_TopEpoch : Y_s_TopEpoch) (f_s_l12Copy : Y_s_l12Copy) : ∀ x, (mkFn cfg [D_s_DiskOk f_s_DiskOk, D_s_ScanRecs f_s_ScanRecs, D_s_FoldRecs_r99_0 f_s_FoldRecs_r99_0, D_s_TopEpoch f_s_TopEpoch, D_s_l12Copy f_s_l12Copy] A_s_OpenStore_r99_0 36 [.cell 2 29, .tmp 3] (Tryz.f54.body.getD .skip) p_s_OpenStore_r99_0 r_s_OpenStore_r99_0).fn x = B_s_OpenStore_r99_0 f_s_DiskOk f_s_ScanRecs f_s_FoldRecs_r99_0 f_s_TopEpoch f_s_l12Copy x.1 := by intro x; kernel_rfl
theorem S_s_OpenStore_r99_0 : Sound Tryz.prog 54 F_s_OpenStore_r99_0 := sm MO cfg_ok (tc Tryz.call108 S_s_DiskOk (tc Tryz.call109 S_s_ScanRecs (tc Tryz.call110 S_s_FoldRecs_r99_0 (tc Tryz.call111 S_s_TopEpoch (tc Tryz.call112 S_s_l12Copy tab_nil))))) Tryz.func54 (by kernel_rfl) (by decide) (E_s_OpenStore_r99_0 P_s_DiskOk P_s_ScanRecs P_s_FoldRecs_r99_0 P_s_TopEpoch P_s_l12Copy)
def A_s_DiskNew : Nat → Option Jn := lookN [(58, ⟨[.t 4 false [.int .i64], .b 3 [.own 100000000, .own 100000001], .r 100000000 9 .str, .r 100000001 9 .str], lt 6 19 [.r 17, .r 18, .r 22, .r 23], false⟩), (116, ⟨[], lt 6 7 [], false⟩)]
abbrev p_s_DiskNew : List PK := [.val false (.int .i64) false]
abbrev r_s_DiskNew : List RK := [.val true kDisk]
noncomputable def D_s_DiskNew (f : Y_s_DiskNew) : Nat × Fn := (162, ⟨p_s_DiskNew, r_s_DiskNew, fun x => f x.1⟩)
noncomputable def F_s_DiskNew : Fn := (D_s_DiskNew P_s_DiskNew).2
theorem E_s_DiskNew : ∀ x, (mkFn cfg [] A_s_DiskNew 26 [.cell 2 26] (Tryz.f162.body.getD .skip) p_s_DiskNew r_s_DiskNew).fn x = B_s_DiskNew x.1 := by intro x; kernel_rfl
theorem S_s_DiskNew : Sound Tryz.prog 162 F_s_DiskNew := sm MO cfg_ok tab_nil Tryz.func162 (by kernel_rfl) (by decide) (E_s_DiskNew)
abbrev p_s_StoreNew : List PK := [.val false (.int .i64) false]
abbrev r_s_StoreNew : List RK := [.val true kStore]
noncomputable def D_s_StoreNew (f : Y_s_StoreNew) : Nat × Fn := (125, ⟨p_s_StoreNew, r_s_StoreNew, fun x => f x.1⟩)
noncomputable def F_s_StoreNew : Fn := (D_s_StoreNew P_s_StoreNew).2
theorem E_s_StoreNew (f_s_DiskNew : Y_s_DiskNew) : ∀ x, (mkFn cfg [D_s_DiskNew f_s_DiskNew] (lookN []) 6 [.cell 2 29] (Tryz.f125.body.getD .skip) p_s_StoreNew r_s_StoreNew).fn x = B_s_StoreNew f_s_DiskNew x.1 := by intro x; kernel_rfl
theorem S_s_StoreNew : Sound Tryz.prog 125 F_s_StoreNew := sm MO cfg_ok (tc Tryz.call162 S_s_DiskNew tab_nil) Tryz.func125 (by kernel_rfl) (by decide) (E_s_StoreNew P_s_DiskNew)
abbrev p_s_ServerNew : List PK := [.val false (.int .i64) false]
abbrev r_s_ServerNew : List RK := [.val true kServer]
noncomputable def D_s_ServerNew (f : Y_s_ServerNew) : Nat × Fn := (74, ⟨p_s_ServerNew, r_s_ServerNew, fun x => f x.1⟩)
noncomputable def F_s_ServerNew : Fn := (D_s_ServerNew P_s_ServerNew).2
theorem E_s_ServerNew (f_s_StoreNew : Y_s_StoreNew) : ∀ x, (mkFn cfg [D_s_StoreNew f_s_StoreNew] (lookN []) 6 [.cell 2 32] (Tryz.f74.body.getD .skip) p_s_ServerNew r_s_ServerNew).fn x = B_s_ServerNew f_s_StoreNew x.1 := by intro x; kernel_rfl
theorem S_s_ServerNew : Sound Tryz.prog 74 F_s_ServerNew := sm MO cfg_ok (tc Tryz.call125 S_s_StoreNew tab_nil) Tryz.func74 (by kernel_rfl) (by decide) (E_s_ServerNew P_s_StoreNew)
abbrev p_s_l11Most : List PK := [.val false (.int .i64) false]
abbrev r_s_l11Most : List RK := [.val false (.int .i64)]
noncomputable def D_s_l11Most (f : Y_s_l11Most) : Nat × Fn := (117, ⟨p_s_l11Most, r_s_l11Most, fun x => f x.1⟩)
noncomputable def F_s_l11Most : Fn := (D_s_l11Most P_s_l11Most).2
theorem E_s_l11Most : ∀ x, (mkFn cfg [] (lookN []) 9 [.tmp 2] (Tryz.f117.body.getD .skip) p_s_l11Most r_s_l11Most).fn x = B_s_l11Most x.1 := by intro x; kernel_rfl
theorem S_s_l11Most : Sound Tryz.prog 117 F_s_l11Most := sm MO cfg_ok tab_nil Tryz.func117 (by kernel_rfl) (by decide) (E_s_l11Most)
abbrev p_s_UpAt : List PK := [.val true (.pair (.pair (.rs 9 .str) (.rs 9 .str)) (.pair (.int .i64) (.pair (.int .i64) (.rs 89 kUp)))) false, .val false .str false]
abbrev r_s_UpAt : List RK := [.val true kUp, .val false .bool]
noncomputable def D_s_UpAt (f : Y_s_UpAt) : Nat × Fn := (129, ⟨p_s_UpAt, r_s_UpAt, fun x => f x.1 x.2.1⟩)
noncomputable def F_s_UpAt : Fn := (D_s_UpAt P_s_UpAt).2
theorem E_s_UpAt (f_s_l14At : Y_s_l14At) : ∀ x, (mkFn cfg [D_s_l14At f_s_l14At] (lookN []) 26 [.cell 4 89, .tmp 5] (Tryz.f129.body.getD .skip) p_s_UpAt r_s_UpAt).fn x = B_s_UpAt f_s_l14At x.1 x.2.1 := by intro x; kernel_rfl
theorem S_s_UpAt : Sound Tryz.prog 129 F_s_UpAt := sm MO cfg_ok (tc Tryz.call163 S_s_l14At tab_nil) Tryz.func129 (by kernel_rfl) (by decide) (E_s_UpAt P_s_l14At)
def A_s_ReqOk : Nat → Option Jn := lookN [(3, ⟨[], lt 4 10 [], false⟩)]
abbrev p_s_ReqOk : List PK := [.val true kReq false]
abbrev r_s_ReqOk : List RK := [.val false .bool]
noncomputable def D_s_ReqOk (f : Y_s_ReqOk) : Nat × Fn := (63, ⟨p_s_ReqOk, r_s_ReqOk, fun x => f x.1⟩)
noncomputable def F_s_ReqOk : Fn := (D_s_ReqOk P_s_ReqOk).2
theorem E_s_ReqOk (f_s_l1In : Y_s_l1In) (f_s_l11Id : Y_s_l11Id) (f_s_l11Most : Y_s_l11Most) : ∀ x, (mkFn cfg [D_s_l1In f_s_l1In, D_s_l11Id f_s_l11Id, D_s_l11Most f_s_l11Most] A_s_ReqOk 26 [.tmp 2] (Tryz.f63.body.getD .skip) p_s_ReqOk r_s_ReqOk).fn x = B_s_ReqOk f_s_l1In f_s_l11Id f_s_l11Most x.1 := by intro x; kernel_rfl
theorem S_s_ReqOk : Sound Tryz.prog 63 F_s_ReqOk := sm MO cfg_ok (tc Tryz.call62 S_s_l1In (tc Tryz.call116 S_s_l11Id (tc Tryz.call117 S_s_l11Most tab_nil))) Tryz.func63 (by kernel_rfl) (by decide) (E_s_ReqOk P_s_l1In P_s_l11Id P_s_l11Most)
abbrev p_s_l14Left : List PK := [.val true (.pair (.pair (.rs 9 .str) (.rs 9 .str)) (.pair (.int .i64) (.pair (.int .i64) (.rs 89 kUp)))) false]
abbrev r_s_l14Left : List RK := [.val false (.int .i64)]
noncomputable def D_s_l14Left (f : Y_s_l14Left) : Nat × Fn := (182, ⟨p_s_l14Left, r_s_l14Left, fun x => f x.1⟩)
noncomputable def F_s_l14Left : Fn := (D_s_l14Left P_s_l14Left).2
theorem E_s_l14Left : ∀ x, (mkFn cfg [] (lookN []) 10 [.tmp 2] (Tryz.f182.body.getD .skip) p_s_l14Left r_s_l14Left).fn x = B_s_l14Left x.1 := by intro x; kernel_rfl
theorem S_s_l14Left : Sound Tryz.prog 182 F_s_l14Left := sm MO cfg_ok tab_nil Tryz.func182 (by kernel_rfl) (by decide) (E_s_l14Left)
abbrev p_s_l14Write_r0_4 : List PK := [.ptr (.pair kDisk (.pair (.int .i64) (.pair (.int .i64) (.rs 89 kUp)))), .val true (.pair (.int .i64) (.pair (.int .i64) (.pair (.int .i64) (.pair .str (.pair (.int .i64) (.rs 5 (.int .u8))))))) false]
abbrev r_s_l14Write_r0_4 : List RK := []
noncomputable def D_s_l14Write_r0_4 (f : Y_s_l14Write_r0_4) : Nat × Fn := (183, ⟨p_s_l14Write_r0_4, r_s_l14Write_r0_4, fun x => f x.1 x.2.1⟩)
noncomputable def F_s_l14Write_r0_4 : Fn := (D_s_l14Write_r0_4 P_s_l14Write_r0_4).2
theorem E_s_l14Write_r0_4 (f_s_l14One_r99_0 : Y_s_l14One_r99_0) (f_s_l13Put : Y_s_l13Put) : ∀ x, (mkFn cfg [D_s_l14One_r99_0 f_s_l14One_r99_0, D_s_l13Put f_s_l13Put] (lookN []) 46 [] (Tryz.f183.body.getD .skip) p_s_l14Write_r0_4 r_s_l14Write_r0_4).fn x = B_s_l14Write_r0_4 f_s_l14One_r99_0 f_s_l13Put x.1 x.2.1 := by intro x; kernel_rfl
theorem S_s_l14Write_r0_4 : Sound Tryz.prog 183 F_s_l14Write_r0_4 := sm MO cfg_ok (tc Tryz.call155 S_s_l14One_r99_0 (tc Tryz.call180 S_s_l13Put tab_nil)) Tryz.func183 (by kernel_rfl) (by decide) (E_s_l14Write_r0_4 P_s_l14One_r99_0 P_s_l13Put)
abbrev p_s_l15Looks : List PK := [.val true (.pair (.pair (.rs 9 .str) (.rs 9 .str)) (.pair (.int .i64) (.pair (.int .i64) (.rs 89 kUp)))) false, .val true kReq false]
abbrev r_s_l15Looks : List RK := [.val true kResp]
noncomputable def D_s_l15Looks (f : Y_s_l15Looks) : Nat × Fn := (168, ⟨p_s_l15Looks, r_s_l15Looks, fun x => f x.1 x.2.1⟩)
noncomputable def F_s_l15Looks : Fn := (D_s_l15Looks P_s_l15Looks).2
theorem E_s_l15Looks (f_s_UpAt : Y_s_UpAt) : ∀ x, (mkFn cfg [D_s_UpAt f_s_UpAt] (lookN []) 35 [.cell 4 83] (Tryz.f168.body.getD .skip) p_s_l15Looks r_s_l15Looks).fn x = B_s_l15Looks f_s_UpAt x.1 x.2.1 := by intro x; kernel_rfl
theorem S_s_l15Looks : Sound Tryz.prog 168 F_s_l15Looks := sm MO cfg_ok (tc Tryz.call129 S_s_UpAt tab_nil) Tryz.func168 (by kernel_rfl) (by decide) (E_s_l15Looks P_s_UpAt)
def A_s_l15Bad : Nat → Option Jn := lookN [(235, ⟨[.t 19 false [.bool]], [.t 20, .t 21], true⟩)]
abbrev p_s_l15Bad : List PK := [.val true (.pair (.pair (.rs 9 .str) (.rs 9 .str)) (.pair (.int .i64) (.pair (.int .i64) (.rs 89 kUp)))) false, .val false .str false, .val false (.int .i64) false]
abbrev r_s_l15Bad : List RK := [.val true kResp]
noncomputable def D_s_l15Bad (f : Y_s_l15Bad) : Nat × Fn := (169, ⟨p_s_l15Bad, r_s_l15Bad, fun x => f x.1 x.2.1 x.2.2.1⟩)
noncomputable def F_s_l15Bad : Fn := (D_s_l15Bad P_s_l15Bad).2
theorem E_s_l15Bad (f_s_UpAt : Y_s_UpAt) : ∀ x, (mkFn cfg [D_s_UpAt f_s_UpAt] A_s_l15Bad 33 [.cell 6 83] (Tryz.f169.body.getD .skip) p_s_l15Bad r_s_l15Bad).fn x = B_s_l15Bad f_s_UpAt x.1 x.2.1 x.2.2.1 := by intro x; kernel_rfl
theorem S_s_l15Bad : Sound Tryz.prog 169 F_s_l15Bad := sm MO cfg_ok (tc Tryz.call129 S_s_UpAt tab_nil) Tryz.func169 (by kernel_rfl) (by decide) (E_s_l15Bad P_s_UpAt)
def A_s_MakeUp_r99_0 : Nat → Option Jn := lookN [(7, ⟨[], lt 33 10 (lt 26 6 (lt 11 14 [])), false⟩), (28, ⟨[.t 11 false [.bool]], lt 12 13 [], true⟩)]
abbrev p_s_MakeUp_r99_0 : List PK := [.val true (.pair (.pair (.rs 9 .str) (.rs 9 .str)) (.pair (.int .i64) (.pair (.int .i64) (.rs 89 kUp)))) false, .val false .str false, .val false (.int .i64) false]
abbrev r_s_MakeUp_r99_0 : List RK := [.val true (.pair kDisk (.pair (.int .i64) (.pair (.int .i64) (.rs 89 kUp)))), .val false (.int .i64)]
noncomputable def D_s_MakeUp_r99_0 (f : Y_s_MakeUp_r99_0) : Nat × Fn := (164, ⟨p_s_MakeUp_r99_0, r_s_MakeUp_r99_0, fun x => f x.1 x.2.1 x.2.2.1⟩)
noncomputable def F_s_MakeUp_r99_0 : Fn := (D_s_MakeUp_r99_0 P_s_MakeUp_r99_0).2
theorem E_s_MakeUp_r99_0 (f_s_l1In : Y_s_l1In) (f_s_l14Copy : Y_s_l14Copy) (f_s_StoreOk : Y_s_StoreOk) (f_s_l11Id : Y_s_l11Id) (f_s_l14At : Y_s_l14At) (f_s_l14Left : Y_s_l14Left) (f_s_l14Write_r0_4 : Y_s_l14Write_r0_4) : ∀ x, (mkFn cfg [D_s_l1In f_s_l1In, D_s_l14Copy f_s_l14Copy, D_s_StoreOk f_s_StoreOk, D_s_l11Id f_s_l11Id, D_s_l14At f_s_l14At, D_s_l14Left f_s_l14Left, D_s_l14Write_r0_4 f_s_l14Write_r0_4] A_s_MakeUp_r99_0 49 [.cell 6 29, .tmp 7] (Tryz.f164.body.getD .skip) p_s_MakeUp_r99_0 r_s_MakeUp_r99_0).fn x = B_s_MakeUp_r99_0 f_s_l1In f_s_l14Copy f_s_StoreOk f_s_l11Id f_s_l14At f_s_l14Left f_s_l14Write_r0_4 x.1 x.2.1 x.2.2.1 := by intro x; kernel_rfl
theorem S_s_MakeUp_r99_0 : Sound Tryz.prog 164 F_s_MakeUp_r99_0 := sm MO cfg_ok (tc Tryz.call62 S_s_l1In (tc Tryz.call94 S_s_l14Copy (tc Tryz.call96 S_s_StoreOk (tc Tryz.call116 S_s_l11Id (tc Tryz.call163 S_s_l14At (tc Tryz.call182 S_s_l14Left (tc Tryz.call183 S_s_l14Write_r0_4 tab_nil))))))) Tryz.func164 (by kernel_rfl) (by decide) (E_s_MakeUp_r99_0 P_s_l1In P_s_l14Copy P_s_StoreOk P_s_l11Id P_s_l14At P_s_l14Left P_s_l14Write_r0_4)
def A_s_PutUp_r99_0 : Nat → Option Jn := lookN [(7, ⟨[], lt 17 14 [], false⟩), (127, ⟨[], lt 64 9 (lt 44 19 []), false⟩), (255, ⟨[.b 10 [.own 100003000, .own 100003001, .int .i64, .int .i64, .ro 89 kUp], .r 100003000 9 .str, .r 100003001 9 .str], lt 74 26 [.r 92, .r 97, .r 69632, .r 69633, .r 69636, .r 411648, .r 411649, .t 13, .t 14, .t 16], true⟩), (508, ⟨[.t 44 false [.bool]], lt 45 18 [], true⟩), (2042, ⟨[.t 13 false [.int .i64], .b 10 [.own 100003000, .own 100003001, .int .i64, .int .i64, .ro 89 kUp], .r 100003000 9 .str, .r 100003001 9 .str], lt 74 26 [.r 92, .r 97, .r 69632, .r 69633, .r 69636, .r 411648, .r 411649, .t 14, .t 16], false⟩), (65353, ⟨[.t 14 false [.int .i64]], lt 82 6 [], true⟩)]
abbrev p_s_PutUp_r99_0 : List PK := [.val true (.pair (.pair (.rs 9 .str) (.rs 9 .str)) (.pair (.int .i64) (.pair (.int .i64) (.rs 89 kUp)))) false, .val false .str false, .val false (.int .i64) false, .val false (.rs 5 (.int .u8)) false]
abbrev r_s_PutUp_r99_0 : List RK := [.val true (.pair kDisk (.pair (.int .i64) (.pair (.int .i64) (.rs 89 kUp)))), .val false (.int .i64)]
noncomputable def D_s_PutUp_r99_0 (f : Y_s_PutUp_r99_0) : Nat × Fn := (165, ⟨p_s_PutUp_r99_0, r_s_PutUp_r99_0, fun x => f x.1 x.2.1 x.2.2.1 x.2.2.2.1⟩)
noncomputable def F_s_PutUp_r99_0 : Fn := (D_s_PutUp_r99_0 P_s_PutUp_r99_0).2
theorem E_s_PutUp_r99_0 (f_s_l1In : Y_s_l1In) (f_s_l14Copy : Y_s_l14Copy) (f_s_StoreOk : Y_s_StoreOk) (f_s_l11Id : Y_s_l11Id) (f_s_l14At : Y_s_l14At) (f_s_l14Left : Y_s_l14Left) (f_s_l14Write_r0_4 : Y_s_l14Write_r0_4) : ∀ x, (mkFn cfg [D_s_l1In f_s_l1In, D_s_l14Copy f_s_l14Copy, D_s_StoreOk f_s_StoreOk, D_s_l11Id f_s_l11Id, D_s_l14At f_s_l14At, D_s_l14Left f_s_l14Left, D_s_l14Write_r0_4 f_s_l14Write_r0_4] A_s_PutUp_r99_0 101 [.cell 8 29, .tmp 9] (Tryz.f165.body.getD .skip) p_s_PutUp_r99_0 r_s_PutUp_r99_0).fn x = B_s_PutUp_r99_0 f_s_l1In f_s_l14Copy f_s_StoreOk f_s_l11Id f_s_l14At f_s_l14Left f_s_l14Write_r0_4 x.1 x.2.1 x.2.2.1 x.2.2.2.1 := by intro x; kernel_rfl
theorem S_s_PutUp_r99_0 : Sound Tryz.prog 165 F_s_PutUp_r99_0 := sm MO cfg_ok (tc Tryz.call62 S_s_l1In (tc Tryz.call94 S_s_l14Copy (tc Tryz.call96 S_s_StoreOk (tc Tryz.call116 S_s_l11Id (tc Tryz.call163 S_s_l14At (tc Tryz.call182 S_s_l14Left (tc Tryz.call183 S_s_l14Write_r0_4 tab_nil))))))) Tryz.func165 (by kernel_rfl) (by decide) (E_s_PutUp_r99_0 P_s_l1In P_s_l14Copy P_s_StoreOk P_s_l11Id P_s_l14At P_s_l14Left P_s_l14Write_r0_4)
def A_s_DoneUp_r99_0 : Nat → Option Jn := lookN [(7, ⟨[], lt 13 8 [], false⟩)]
abbrev p_s_DoneUp_r99_0 : List PK := [.val true (.pair (.pair (.rs 9 .str) (.rs 9 .str)) (.pair (.int .i64) (.pair (.int .i64) (.rs 89 kUp)))) false, .val false .str false, .val false (.int .i64) false]
abbrev r_s_DoneUp_r99_0 : List RK := [.val true (.pair kDisk (.pair (.int .i64) (.pair (.int .i64) (.rs 89 kUp)))), .val false (.int .i64)]
noncomputable def D_s_DoneUp_r99_0 (f : Y_s_DoneUp_r99_0) : Nat × Fn := (166, ⟨p_s_DoneUp_r99_0, r_s_DoneUp_r99_0, fun x => f x.1 x.2.1 x.2.2.1⟩)
noncomputable def F_s_DoneUp_r99_0 : Fn := (D_s_DoneUp_r99_0 P_s_DoneUp_r99_0).2
theorem E_s_DoneUp_r99_0 (f_s_l14Copy : Y_s_l14Copy) (f_s_StoreOk : Y_s_StoreOk) (f_s_l11Id : Y_s_l11Id) (f_s_Crc : Y_s_Crc) (f_s_l14At : Y_s_l14At) (f_s_l14Left : Y_s_l14Left) (f_s_l14Write_r0_4 : Y_s_l14Write_r0_4) : ∀ x, (mkFn cfg [D_s_l14Copy f_s_l14Copy, D_s_StoreOk f_s_StoreOk, D_s_l11Id f_s_l11Id, D_s_Crc f_s_Crc, D_s_l14At f_s_l14At, D_s_l14Left f_s_l14Left, D_s_l14Write_r0_4 f_s_l14Write_r0_4] A_s_DoneUp_r99_0 62 [.cell 6 29, .tmp 7] (Tryz.f166.body.getD .skip) p_s_DoneUp_r99_0 r_s_DoneUp_r99_0).fn x = B_s_DoneUp_r99_0 f_s_l14Copy f_s_StoreOk f_s_l11Id f_s_Crc f_s_l14At f_s_l14Left f_s_l14Write_r0_4 x.1 x.2.1 x.2.2.1 := by intro x; kernel_rfl
theorem S_s_DoneUp_r99_0 : Sound Tryz.prog 166 F_s_DoneUp_r99_0 := sm MO cfg_ok (tc Tryz.call94 S_s_l14Copy (tc Tryz.call96 S_s_StoreOk (tc Tryz.call116 S_s_l11Id (tc Tryz.call131 S_s_Crc (tc Tryz.call163 S_s_l14At (tc Tryz.call182 S_s_l14Left (tc Tryz.call183 S_s_l14Write_r0_4 tab_nil))))))) Tryz.func166 (by kernel_rfl) (by decide) (E_s_DoneUp_r99_0 P_s_l14Copy P_s_StoreOk P_s_l11Id P_s_Crc P_s_l14At P_s_l14Left P_s_l14Write_r0_4)
def A_s_DropUp_r99_0 : Nat → Option Jn := lookN [(7, ⟨[], lt 26 4 (lt 19 6 (lt 9 9 [])), false⟩), (28, ⟨[.t 9 false [.bool]], lt 10 8 [], true⟩)]
abbrev p_s_DropUp_r99_0 : List PK := [.val true (.pair (.pair (.rs 9 .str) (.rs 9 .str)) (.pair (.int .i64) (.pair (.int .i64) (.rs 89 kUp)))) false, .val false .str false]
abbrev r_s_DropUp_r99_0 : List RK := [.val true (.pair kDisk (.pair (.int .i64) (.pair (.int .i64) (.rs 89 kUp)))), .val false (.int .i64)]
noncomputable def D_s_DropUp_r99_0 (f : Y_s_DropUp_r99_0) : Nat × Fn := (167, ⟨p_s_DropUp_r99_0, r_s_DropUp_r99_0, fun x => f x.1 x.2.1⟩)
noncomputable def F_s_DropUp_r99_0 : Fn := (D_s_DropUp_r99_0 P_s_DropUp_r99_0).2
theorem E_s_DropUp_r99_0 (f_s_l14Copy : Y_s_l14Copy) (f_s_StoreOk : Y_s_StoreOk) (f_s_l11Id : Y_s_l11Id) (f_s_l14At : Y_s_l14At) (f_s_l14Left : Y_s_l14Left) (f_s_l14Write_r0_4 : Y_s_l14Write_r0_4) : ∀ x, (mkFn cfg [D_s_l14Copy f_s_l14Copy, D_s_StoreOk f_s_StoreOk, D_s_l11Id f_s_l11Id, D_s_l14At f_s_l14At, D_s_l14Left f_s_l14Left, D_s_l14Write_r0_4 f_s_l14Write_r0_4] A_s_DropUp_r99_0 35 [.cell 4 29, .tmp 5] (Tryz.f167.body.getD .skip) p_s_DropUp_r99_0 r_s_DropUp_r99_0).fn x = B_s_DropUp_r99_0 f_s_l14Copy f_s_StoreOk f_s_l11Id f_s_l14At f_s_l14Left f_s_l14Write_r0_4 x.1 x.2.1 := by intro x; kernel_rfl
theorem S_s_DropUp_r99_0 : Sound Tryz.prog 167 F_s_DropUp_r99_0 := sm MO cfg_ok (tc Tryz.call94 S_s_l14Copy (tc Tryz.call96 S_s_StoreOk (tc Tryz.call116 S_s_l11Id (tc Tryz.call163 S_s_l14At (tc Tryz.call182 S_s_l14Left (tc Tryz.call183 S_s_l14Write_r0_4 tab_nil)))))) Tryz.func167 (by kernel_rfl) (by decide) (E_s_DropUp_r99_0 P_s_l14Copy P_s_StoreOk P_s_l11Id P_s_l14At P_s_l14Left P_s_l14Write_r0_4)
def A_s_l15Does_r99_0 : Nat → Option Jn := lookN [(31, ⟨[.t 9 false [.int .i64], .b 8 [.int .i64, .int .i64], .b 10 [.own 100000000, .own 100000001, .int .i64, .int .i64, .ro 89 kUp], .r 100000000 9 .str, .r 100000001 9 .str], lt 19 51 [.r 114688, .r 114689, .r 167936, .r 167937, .r 237568, .r 237569, .r 274432, .r 274433, .t 13, .t 14], false⟩)]
abbrev p_s_l15Does_r99_0 : List PK := [.val true (.pair (.pair (.rs 9 .str) (.rs 9 .str)) (.pair (.int .i64) (.pair (.int .i64) (.rs 89 kUp)))) false, .val true kReq false, .val false (.rs 5 (.int .u8)) false]
abbrev r_s_l15Does_r99_0 : List RK := [.val true (.pair (.pair (.rs 9 .str) (.rs 9 .str)) (.pair (.int .i64) (.pair (.int .i64) (.rs 89 kUp)))), .val true kResp]
noncomputable def D_s_l15Does_r99_0 (f : Y_s_l15Does_r99_0) : Nat × Fn := (132, ⟨p_s_l15Does_r99_0, r_s_l15Does_r99_0, fun x => f x.1 x.2.1 x.2.2.1⟩)
noncomputable def F_s_l15Does_r99_0 : Fn := (D_s_l15Does_r99_0 P_s_l15Does_r99_0).2
theorem E_s_l15Does_r99_0 (f_s_MakeUp_r99_0 : Y_s_MakeUp_r99_0) (f_s_PutUp_r99_0 : Y_s_PutUp_r99_0) (f_s_DoneUp_r99_0 : Y_s_DoneUp_r99_0) (f_s_DropUp_r99_0 : Y_s_DropUp_r99_0) (f_s_l15Looks : Y_s_l15Looks) (f_s_l15Bad : Y_s_l15Bad) : ∀ x, (mkFn cfg [D_s_MakeUp_r99_0 f_s_MakeUp_r99_0, D_s_PutUp_r99_0 f_s_PutUp_r99_0, D_s_DoneUp_r99_0 f_s_DoneUp_r99_0, D_s_DropUp_r99_0 f_s_DropUp_r99_0, D_s_l15Looks f_s_l15Looks, D_s_l15Bad f_s_l15Bad] A_s_l15Does_r99_0 80 [.cell 6 29, .cell 7 83] (Tryz.f132.body.getD .skip) p_s_l15Does_r99_0 r_s_l15Does_r99_0).fn x = B_s_l15Does_r99_0 f_s_MakeUp_r99_0 f_s_PutUp_r99_0 f_s_DoneUp_r99_0 f_s_DropUp_r99_0 f_s_l15Looks f_s_l15Bad x.1 x.2.1 x.2.2.1 := by intro x; kernel_rfl
theorem S_s_l15Does_r99_0 : Sound Tryz.prog 132 F_s_l15Does_r99_0 := sm MO cfg_ok (tc Tryz.call164 S_s_MakeUp_r99_0 (tc Tryz.call165 S_s_PutUp_r99_0 (tc Tryz.call166 S_s_DoneUp_r99_0 (tc Tryz.call167 S_s_DropUp_r99_0 (tc Tryz.call168 S_s_l15Looks (tc Tryz.call169 S_s_l15Bad tab_nil)))))) Tryz.func132 (by kernel_rfl) (by decide) (E_s_l15Does_r99_0 P_s_MakeUp_r99_0 P_s_PutUp_r99_0 P_s_DoneUp_r99_0 P_s_DropUp_r99_0 P_s_l15Looks P_s_l15Bad)
abbrev p_s_CrashServer_r99_0 : List PK := [.val true (.pair (.pair (.pair (.rs 9 .str) (.rs 9 .str)) (.pair (.int .i64) (.pair (.int .i64) (.rs 89 kUp)))) (.rs 85 kHeld)) false, .val false (.rs 4 .bool) false]
abbrev r_s_CrashServer_r99_0 : List RK := [.val true (.pair (.pair kDisk (.pair (.int .i64) (.pair (.int .i64) (.rs 89 kUp)))) (.sl 85 kHeld)), .val false .bool]
noncomputable def D_s_CrashServer_r99_0 (f : Y_s_CrashServer_r99_0) : Nat × Fn := (24, ⟨p_s_CrashServer_r99_0, r_s_CrashServer_r99_0, fun x => f x.1 x.2.1⟩)
noncomputable def F_s_CrashServer_r99_0 : Fn := (D_s_CrashServer_r99_0 P_s_CrashServer_r99_0).2
theorem E_s_CrashServer_r99_0 (f_s_l15Copy : Y_s_l15Copy) (f_s_ServerOk : Y_s_ServerOk) (f_s_OpenStore_r99_0 : Y_s_OpenStore_r99_0) (f_s_FallDisk : Y_s_FallDisk) : ∀ x, (mkFn cfg [D_s_l15Copy f_s_l15Copy, D_s_ServerOk f_s_ServerOk, D_s_OpenStore_r99_0 f_s_OpenStore_r99_0, D_s_FallDisk f_s_FallDisk] (lookN []) 28 [.cell 4 32, .tmp 5] (Tryz.f24.body.getD .skip) p_s_CrashServer_r99_0 r_s_CrashServer_r99_0).fn x = B_s_CrashServer_r99_0 f_s_l15Copy f_s_ServerOk f_s_OpenStore_r99_0 f_s_FallDisk x.1 x.2.1 := by intro x; kernel_rfl
theorem S_s_CrashServer_r99_0 : Sound Tryz.prog 24 F_s_CrashServer_r99_0 := sm MO cfg_ok (tc Tryz.call45 S_s_l15Copy (tc Tryz.call46 S_s_ServerOk (tc Tryz.call54 S_s_OpenStore_r99_0 (tc Tryz.call55 S_s_FallDisk tab_nil)))) Tryz.func24 (by kernel_rfl) (by decide) (E_s_CrashServer_r99_0 P_s_l15Copy P_s_ServerOk P_s_OpenStore_r99_0 P_s_FallDisk)
def A_s_Serve_r99_0 : Nat → Option Jn := lookN [(7, ⟨[], lt 15 14 [], false⟩)]
abbrev p_s_Serve_r99_0 : List PK := [.val true (.pair (.pair (.pair (.rs 9 .str) (.rs 9 .str)) (.pair (.int .i64) (.pair (.int .i64) (.rs 89 kUp)))) (.rs 85 kHeld)) false, .val false (.int .i64) false, .val true kReq false, .val false (.rs 5 (.int .u8)) false]
abbrev r_s_Serve_r99_0 : List RK := [.val true (.pair (.pair (.pair (.rs 9 .str) (.rs 9 .str)) (.pair (.int .i64) (.pair (.int .i64) (.rs 89 kUp)))) (.sl 85 kHeld)), .val false .bool]
noncomputable def D_s_Serve_r99_0 (f : Y_s_Serve_r99_0) : Nat × Fn := (79, ⟨p_s_Serve_r99_0, r_s_Serve_r99_0, fun x => f x.1 x.2.1 x.2.2.1 x.2.2.2.1⟩)
noncomputable def F_s_Serve_r99_0 : Fn := (D_s_Serve_r99_0 P_s_Serve_r99_0).2
theorem E_s_Serve_r99_0 (f_s_l15Copy : Y_s_l15Copy) (f_s_ServerOk : Y_s_ServerOk) (f_s_ReqOk : Y_s_ReqOk) (f_s_l15Does_r99_0 : Y_s_l15Does_r99_0) : ∀ x, (mkFn cfg [D_s_l15Copy f_s_l15Copy, D_s_ServerOk f_s_ServerOk, D_s_ReqOk f_s_ReqOk, D_s_l15Does_r99_0 f_s_l15Does_r99_0] A_s_Serve_r99_0 49 [.cell 8 32, .tmp 9] (Tryz.f79.body.getD .skip) p_s_Serve_r99_0 r_s_Serve_r99_0).fn x = B_s_Serve_r99_0 f_s_l15Copy f_s_ServerOk f_s_ReqOk f_s_l15Does_r99_0 x.1 x.2.1 x.2.2.1 x.2.2.2.1 := by intro x; kernel_rfl
theorem S_s_Serve_r99_0 : Sound Tryz.prog 79 F_s_Serve_r99_0 := sm MO cfg_ok (tc Tryz.call45 S_s_l15Copy (tc Tryz.call46 S_s_ServerOk (tc Tryz.call63 S_s_ReqOk (tc Tryz.call132 S_s_l15Does_r99_0 tab_nil)))) Tryz.func79 (by kernel_rfl) (by decide) (E_s_Serve_r99_0 P_s_l15Copy P_s_ServerOk P_s_ReqOk P_s_l15Does_r99_0)
abbrev p_s_l1Size : List PK := [.val false (.rs 5 (.int .u8)) false, .val false (.int .i64) false]
abbrev r_s_l1Size : List RK := [.val false (.int .i64)]
noncomputable def D_s_l1Size (f : Y_s_l1Size) : Nat × Fn := (35, ⟨p_s_l1Size, r_s_l1Size, fun x => f x.1 x.2.1⟩)
noncomputable def F_s_l1Size : Fn := (D_s_l1Size P_s_l1Size).2
theorem E_s_l1Size : ∀ x, (mkFn cfg [] (lookN []) 15 [.tmp 4] (Tryz.f35.body.getD .skip) p_s_l1Size r_s_l1Size).fn x = B_s_l1Size x.1 x.2.1 := by intro x; kernel_rfl
theorem S_s_l1Size : Sound Tryz.prog 35 F_s_l1Size := sm MO cfg_ok tab_nil Tryz.func35 (by kernel_rfl) (by decide) (E_s_l1Size)
abbrev p_i_inRange : List PK := [.val false (.int .i64) false, .val false (.int .i64) false, .val false (.int .i64) false]
abbrev r_i_inRange : List RK := [.val false .bool]
noncomputable def D_i_inRange (f : Y_i_inRange) : Nat × Fn := (69, ⟨p_i_inRange, r_i_inRange, fun x => f x.1 x.2.1 x.2.2.1⟩)
noncomputable def F_i_inRange : Fn := (D_i_inRange P_i_inRange).2
theorem E_i_inRange : ∀ x, (mkFn cfg [] (lookN []) 15 [.tmp 6] (Tryz.f69.body.getD .skip) p_i_inRange r_i_inRange).fn x = B_i_inRange x.1 x.2.1 x.2.2.1 := by intro x; kernel_rfl
theorem S_i_inRange : Sound Tryz.prog 69 F_i_inRange := sm MO cfg_ok tab_nil Tryz.func69 (by kernel_rfl) (by decide) (E_i_inRange)
abbrev p_i_RespOk : List PK := [.val true kResp false]
abbrev r_i_RespOk : List RK := [.val false .bool]
noncomputable def D_i_RespOk (f : Y_i_RespOk) : Nat × Fn := (40, ⟨p_i_RespOk, r_i_RespOk, fun x => f x.1⟩)
noncomputable def F_i_RespOk : Fn := (D_i_RespOk P_i_RespOk).2
theorem E_i_RespOk (f_i_inRange : Y_i_inRange) : ∀ x, (mkFn cfg [D_i_inRange f_i_inRange] (lookN []) 11 [.tmp 2] (Tryz.f40.body.getD .skip) p_i_RespOk r_i_RespOk).fn x = B_i_RespOk f_i_inRange x.1 := by intro x; kernel_rfl
theorem S_i_RespOk : Sound Tryz.prog 40 F_i_RespOk := sm MO cfg_ok (tc Tryz.call69 S_i_inRange tab_nil) Tryz.func40 (by kernel_rfl) (by decide) (E_i_RespOk P_i_inRange)
abbrev p_i_isEpoch : List PK := [.val false (.int .i64) false]
abbrev r_i_isEpoch : List RK := [.val false .bool]
noncomputable def D_i_isEpoch (f : Y_i_isEpoch) : Nat × Fn := (85, ⟨p_i_isEpoch, r_i_isEpoch, fun x => f x.1⟩)
noncomputable def F_i_isEpoch : Fn := (D_i_isEpoch P_i_isEpoch).2
theorem E_i_isEpoch (f_i_inRange : Y_i_inRange) : ∀ x, (mkFn cfg [D_i_inRange f_i_inRange] (lookN []) 5 [.tmp 2] (Tryz.f85.body.getD .skip) p_i_isEpoch r_i_isEpoch).fn x = B_i_isEpoch f_i_inRange x.1 := by intro x; kernel_rfl
theorem S_i_isEpoch : Sound Tryz.prog 85 F_i_isEpoch := sm MO cfg_ok (tc Tryz.call69 S_i_inRange tab_nil) Tryz.func85 (by kernel_rfl) (by decide) (E_i_isEpoch P_i_inRange)
def A_i_DiskOk : Nat → Option Jn := lookN [(3, ⟨[], lt 4 13 [], false⟩), (58, ⟨[.t 20 false [.int .i64]], lt 21 19 [.t 3], false⟩)]
abbrev p_i_DiskOk : List PK := [.val true (.pair (.rs 9 .str) (.rs 9 .str)) false]
abbrev r_i_DiskOk : List RK := [.val false .bool]
noncomputable def D_i_DiskOk (f : Y_i_DiskOk) : Nat × Fn := (86, ⟨p_i_DiskOk, r_i_DiskOk, fun x => f x.1⟩)
noncomputable def F_i_DiskOk : Fn := (D_i_DiskOk P_i_DiskOk).2
theorem E_i_DiskOk : ∀ x, (mkFn cfg [] A_i_DiskOk 40 [.tmp 2] (Tryz.f86.body.getD .skip) p_i_DiskOk r_i_DiskOk).fn x = B_i_DiskOk x.1 := by intro x; kernel_rfl
theorem S_i_DiskOk : Sound Tryz.prog 86 F_i_DiskOk := sm MO cfg_ok tab_nil Tryz.func86 (by kernel_rfl) (by decide) (E_i_DiskOk)
def A_i_GetBig : Nat → Option Jn := lookN [(3, ⟨[], lt 11 15 [], false⟩), (15, ⟨[.t 8 false [.int .i64]], lt 26 17 [.t 10], true⟩), (122, ⟨[.t 8 false [.int .i64], .t 33 false [.int .i64]], lt 34 9 [.t 10], false⟩)]
abbrev p_i_GetBig : List PK := [.val false (.rs 5 (.int .u8)) false, .val false (.int .i64) false, .val false (.int .i64) false]
abbrev r_i_GetBig : List RK := [.val false (.int .i64), .val false .bool]
noncomputable def D_i_GetBig (f : Y_i_GetBig) : Nat × Fn := (184, ⟨p_i_GetBig, r_i_GetBig, fun x => f x.1 x.2.1 x.2.2.1⟩)
noncomputable def F_i_GetBig : Fn := (D_i_GetBig P_i_GetBig).2
theorem E_i_GetBig (f_i_inRange : Y_i_inRange) : ∀ x, (mkFn cfg [D_i_inRange f_i_inRange] A_i_GetBig 44 [.tmp 6, .tmp 7] (Tryz.f184.body.getD .skip) p_i_GetBig r_i_GetBig).fn x = B_i_GetBig f_i_inRange x.1 x.2.1 x.2.2.1 := by intro x; kernel_rfl
theorem S_i_GetBig : Sound Tryz.prog 184 F_i_GetBig := sm MO cfg_ok (tc Tryz.call69 S_i_inRange tab_nil) Tryz.func184 (by kernel_rfl) (by decide) (E_i_GetBig P_i_inRange)
def A_i_byteReader_number : Nat → Option Jn := lookN [(7, ⟨[], lt 20 8 [], false⟩)]
abbrev p_i_byteReader_number : List PK := [.ptr kByteReader, .val false (.int .i64) false]
abbrev r_i_byteReader_number : List RK := [.val false (.int .i64)]
noncomputable def D_i_byteReader_number (f : Y_i_byteReader_number) : Nat × Fn := (171, ⟨p_i_byteReader_number, r_i_byteReader_number, fun x => f x.1 x.2.1⟩)
noncomputable def F_i_byteReader_number : Fn := (D_i_byteReader_number P_i_byteReader_number).2
theorem E_i_byteReader_number (f_i_GetBig : Y_i_GetBig) : ∀ x, (mkFn cfg [D_i_GetBig f_i_GetBig] A_i_byteReader_number 40 [.tmp 4] (Tryz.f171.body.getD .skip) p_i_byteReader_number r_i_byteReader_number).fn x = B_i_byteReader_number f_i_GetBig x.1 x.2.1 := by intro x; kernel_rfl
theorem S_i_byteReader_number : Sound Tryz.prog 171 F_i_byteReader_number := sm MO cfg_ok (tc Tryz.call184 S_i_GetBig tab_nil) Tryz.func171 (by kernel_rfl) (by decide) (E_i_byteReader_number P_i_GetBig)
abbrev p_slices_Clone_byte_byte : List PK := [.val false (.rs 5 (.int .u8)) false]
abbrev r_slices_Clone_byte_byte : List RK := [.val false (.sl 5 (.int .u8))]
noncomputable def D_slices_Clone_byte_byte (f : Y_slices_Clone_byte_byte) : Nat × Fn := (170, ⟨p_slices_Clone_byte_byte, r_slices_Clone_byte_byte, fun x => f x.1⟩)
noncomputable def F_slices_Clone_byte_byte : Fn := (D_slices_Clone_byte_byte P_slices_Clone_byte_byte).2
theorem E_slices_Clone_byte_byte : ∀ x, (mkFn cfg [] (lookN []) 8 [.tmp 2] (Tryz.f170.body.getD .skip) p_slices_Clone_byte_byte r_slices_Clone_byte_byte).fn x = B_slices_Clone_byte_byte x.1 := by intro x; kernel_rfl
theorem S_slices_Clone_byte_byte : Sound Tryz.prog 170 F_slices_Clone_byte_byte := sm MO cfg_ok tab_nil Tryz.func170 (by kernel_rfl) (by decide) (E_slices_Clone_byte_byte)
def A_i_byteReader_take : Nat → Option Jn := lookN [(3, ⟨[], lt 5 18 [], false⟩)]
abbrev p_i_byteReader_take : List PK := [.ptr kByteReader, .val false (.int .i64) false]
abbrev r_i_byteReader_take : List RK := [.val false (.sl 5 (.int .u8))]
noncomputable def D_i_byteReader_take (f : Y_i_byteReader_take) : Nat × Fn := (172, ⟨p_i_byteReader_take, r_i_byteReader_take, fun x => f x.1 x.2.1⟩)
noncomputable def F_i_byteReader_take : Fn := (D_i_byteReader_take P_i_byteReader_take).2
theorem E_i_byteReader_take (f_slices_Clone_byte_byte : Y_slices_Clone_byte_byte) : ∀ x, (mkFn cfg [D_slices_Clone_byte_byte f_slices_Clone_byte_byte] A_i_byteReader_take 50 [.tmp 4] (Tryz.f172.body.getD .skip) p_i_byteReader_take r_i_byteReader_take).fn x = B_i_byteReader_take f_slices_Clone_byte_byte x.1 x.2.1 := by intro x; kernel_rfl
theorem S_i_byteReader_take : Sound Tryz.prog 172 F_i_byteReader_take := sm MO cfg_ok (tc Tryz.call170 S_slices_Clone_byte_byte tab_nil) Tryz.func172 (by kernel_rfl) (by decide) (E_i_byteReader_take P_slices_Clone_byte_byte)
def A_i_idOk : Nat → Option Jn := lookN [(3, ⟨[], lt 3 30 [], false⟩), (26, ⟨[.t 3 false [.int .i64]], lt 4 29 [], false⟩)]
abbrev p_i_idOk : List PK := [.val false .str false]
abbrev r_i_idOk : List RK := [.val false .bool]
noncomputable def D_i_idOk (f : Y_i_idOk) : Nat × Fn := (122, ⟨p_i_idOk, r_i_idOk, fun x => f x.1⟩)
noncomputable def F_i_idOk : Fn := (D_i_idOk P_i_idOk).2
theorem E_i_idOk (f_i_inRange : Y_i_inRange) : ∀ x, (mkFn cfg [D_i_inRange f_i_inRange] A_i_idOk 36 [.tmp 2] (Tryz.f122.body.getD .skip) p_i_idOk r_i_idOk).fn x = B_i_idOk f_i_inRange x.1 := by intro x; kernel_rfl
theorem S_i_idOk : Sound Tryz.prog 122 F_i_idOk := sm MO cfg_ok (tc Tryz.call69 S_i_inRange tab_nil) Tryz.func122 (by kernel_rfl) (by decide) (E_i_idOk P_i_inRange)
def A_i_RecOk : Nat → Option Jn := lookN [(3, ⟨[], lt 3 22 [], false⟩)]
abbrev p_i_RecOk : List PK := [.val true (.pair (.int .i64) (.pair (.int .i64) (.pair (.int .i64) (.pair .str (.pair (.int .i64) (.rs 5 (.int .u8))))))) false]
abbrev r_i_RecOk : List RK := [.val false .bool]
noncomputable def D_i_RecOk (f : Y_i_RecOk) : Nat × Fn := (173, ⟨p_i_RecOk, r_i_RecOk, fun x => f x.1⟩)
noncomputable def F_i_RecOk : Fn := (D_i_RecOk P_i_RecOk).2
theorem E_i_RecOk (f_i_inRange : Y_i_inRange) (f_i_isEpoch : Y_i_isEpoch) (f_i_idOk : Y_i_idOk) : ∀ x, (mkFn cfg [D_i_inRange f_i_inRange, D_i_isEpoch f_i_isEpoch, D_i_idOk f_i_idOk] A_i_RecOk 58 [.tmp 2] (Tryz.f173.body.getD .skip) p_i_RecOk r_i_RecOk).fn x = B_i_RecOk f_i_inRange f_i_isEpoch f_i_idOk x.1 := by intro x; kernel_rfl
theorem S_i_RecOk : Sound Tryz.prog 173 F_i_RecOk := sm MO cfg_ok (tc Tryz.call69 S_i_inRange (tc Tryz.call85 S_i_isEpoch (tc Tryz.call122 S_i_idOk tab_nil))) Tryz.func173 (by kernel_rfl) (by decide) (E_i_RecOk P_i_inRange P_i_isEpoch P_i_idOk)
def A_i_putBig : Nat → Option Jn := lookN [(58, ⟨[.t 0 false [.own 100000000], .t 7 false [.int .i64], .r 100000000 5 (.int .u8)], lt 12 13 [.r 23, .r 24, .r 1000], false⟩)]
abbrev p_i_putBig : List PK := [.val false (.sl 5 (.int .u8)) false, .val false (.int .i64) false, .val false (.int .i64) false]
abbrev r_i_putBig : List RK := [.val false (.sl 5 (.int .u8))]
noncomputable def D_i_putBig (f : Y_i_putBig) : Nat × Fn := (185, ⟨p_i_putBig, r_i_putBig, fun x => f x.1 x.2.1 x.2.2.1⟩)
noncomputable def F_i_putBig : Fn := (D_i_putBig P_i_putBig).2
theorem E_i_putBig : ∀ x, (mkFn cfg [] A_i_putBig 26 [.tmp 6] (Tryz.f185.body.getD .skip) p_i_putBig r_i_putBig).fn x = B_i_putBig x.1 x.2.1 x.2.2.1 := by intro x; kernel_rfl
theorem S_i_putBig : Sound Tryz.prog 185 F_i_putBig := sm MO cfg_ok tab_nil Tryz.func185 (by kernel_rfl) (by decide) (E_i_putBig)
def A_i_Crc : Nat → Option Jn := lookN [(7, ⟨[.t 3 false [.int .u32]], lt 5 24 [], true⟩), (58, ⟨[.t 3 false [.int .u32], .t 9 false [.int .i64]], lt 10 19 [.t 5, .t 6], false⟩), (29902, ⟨[.t 3 false [.int .u32], .t 17 false [.int .i64]], lt 18 10 [.t 6], false⟩)]
abbrev p_i_Crc : List PK := [.val false (.rs 5 (.int .u8)) false]
abbrev r_i_Crc : List RK := [.val false (.int .i64)]
noncomputable def D_i_Crc (f : Y_i_Crc) : Nat × Fn := (186, ⟨p_i_Crc, r_i_Crc, fun x => f x.1⟩)
noncomputable def F_i_Crc : Fn := (D_i_Crc P_i_Crc).2
theorem E_i_Crc : ∀ x, (mkFn cfg [] A_i_Crc 32 [.tmp 2] (Tryz.f186.body.getD .skip) p_i_Crc r_i_Crc).fn x = B_i_Crc x.1 := by intro x; kernel_rfl
theorem S_i_Crc : Sound Tryz.prog 186 F_i_Crc := sm MO cfg_ok tab_nil Tryz.func186 (by kernel_rfl) (by decide) (E_i_Crc)
abbrev p_i_PutRec : List PK := [.val true (.pair (.int .i64) (.pair (.int .i64) (.pair (.int .i64) (.pair .str (.pair (.int .i64) (.rs 5 (.int .u8))))))) false]
abbrev r_i_PutRec : List RK := [.val false .str]
noncomputable def D_i_PutRec (f : Y_i_PutRec) : Nat × Fn := (174, ⟨p_i_PutRec, r_i_PutRec, fun x => f x.1⟩)
noncomputable def F_i_PutRec : Fn := (D_i_PutRec P_i_PutRec).2
theorem E_i_PutRec (f_i_RecOk : Y_i_RecOk) (f_i_putBig : Y_i_putBig) (f_i_Crc : Y_i_Crc) : ∀ x, (mkFn cfg [D_i_RecOk f_i_RecOk, D_i_putBig f_i_putBig, D_i_Crc f_i_Crc] (lookN []) 45 [.tmp 2] (Tryz.f174.body.getD .skip) p_i_PutRec r_i_PutRec).fn x = B_i_PutRec f_i_RecOk f_i_putBig f_i_Crc x.1 := by intro x; kernel_rfl
theorem S_i_PutRec : Sound Tryz.prog 174 F_i_PutRec := sm MO cfg_ok (tc Tryz.call173 S_i_RecOk (tc Tryz.call185 S_i_putBig (tc Tryz.call186 S_i_Crc tab_nil))) Tryz.func174 (by kernel_rfl) (by decide) (E_i_PutRec P_i_RecOk P_i_putBig P_i_Crc)
end Go.Proofs.YtehbegmomfcmhaaGreat.Ev
