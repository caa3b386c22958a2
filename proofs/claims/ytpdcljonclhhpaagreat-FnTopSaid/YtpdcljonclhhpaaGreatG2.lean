/- Each function of the program does what its plain function says. -/
import Derived.Test.YtpdcljonclhhpaaGreatG1
set_option linter.unusedVariables false
set_option maxRecDepth 100000
namespace Go.Proofs.YtpdcljonclhhpaaGreat.Ev
abbrev p_s_l18Sync_W : List PK := [.ptr (.pair (.pair (.pair (.pair (.rs 9 .str) (.rs 9 .str)) (.pair (.int .i64) (.pair (.int .i64) (.rs 109 (.pair .str (.pair (.int .i64) (.pair (.rs 5 (.int .u8)) .bool))))))) (.sl 130 kHeld)) (.pair (.sl 79 (.pair .str (.pair (.rs 5 (.int .u8)) kResp))) (.pair (.sl 4 .bool) (.pair (.sl 113 (.pair (.int .i64) (.pair kReq (.rs 5 (.int .u8))))) (.pair (.sl 130 kHeld) (.sl 3 (.int .i64)))))))]
abbrev r_s_l18Sync_W : List RK := [.val false .bool]
noncomputable def D_s_l18Sync_W (f : Y_s_l18Sync) : Nat × Fn := (196, ⟨p_s_l18Sync_W, r_s_l18Sync_W, fun x => f x.1⟩)
noncomputable def F_s_l18Sync_W : Fn := (D_s_l18Sync_W P_s_l18Sync).2
theorem E_s_l18Sync_W (f_s_FlushDisk : Y_s_FlushDisk) : ∀ x, (mkFn cfgR [D_s_FlushDisk f_s_FlushDisk] (lookN []) 46 [.tmp 2] (Tryz.f196.body.getD .skip) p_s_l18Sync_W r_s_l18Sync_W).fn x = B_s_l18Sync f_s_FlushDisk x.1 := by intro x; kernel_rfl
theorem S_s_l18Sync_W : Sound Tryz.prog 196 F_s_l18Sync_W := sm MO cfgR_ok (tc Tryz.call252 S_s_FlushDisk tab_nil) Tryz.func196 (by kernel_rfl) (by decide) (E_s_l18Sync_W P_s_FlushDisk)
def A_s_l18Tell_W : Nat → Option Jn := lookN [(501, ⟨[.b 1000 [.ro 9 .str, .ro 9 .str, .int .i64, .int .i64, .ro 109 (.pair .str (.pair (.int .i64) (.pair (.rs 5 (.int .u8)) .bool))), .own 1005, .own 1006, .own 1007, .own 1008, .own 38, .own 1010], .r 38 130 kHeld, .r 1005 130 kHeld, .r 1006 79 (.pair .str (.pair (.rs 5 (.int .u8)) kResp)), .r 1007 4 .bool, .r 1008 113 (.pair (.int .i64) (.pair kReq (.rs 5 (.int .u8)))), .r 1010 3 (.int .i64)], lt 56 28 [.x 62, .x 78, .x 83], true⟩)]
abbrev p_s_l18Tell_W : List PK := [.ptr (.pair (.pair (.pair (.pair (.rs 9 .str) (.rs 9 .str)) (.pair (.int .i64) (.pair (.int .i64) (.rs 109 (.pair .str (.pair (.int .i64) (.pair (.rs 5 (.int .u8)) .bool))))))) (.sl 130 kHeld)) (.pair (.sl 79 (.pair .str (.pair (.rs 5 (.int .u8)) kResp))) (.pair (.sl 4 .bool) (.pair (.sl 113 (.pair (.int .i64) (.pair kReq (.rs 5 (.int .u8))))) (.pair (.sl 130 kHeld) (.sl 3 (.int .i64))))))), .val false (.int .i64) false]
abbrev r_s_l18Tell_W : List RK := [.val false .bool]
noncomputable def D_s_l18Tell_W (f : Y_s_l18Tell_W) : Nat × Fn := (197, ⟨p_s_l18Tell_W, r_s_l18Tell_W, fun x => f x.1 x.2.1⟩)
noncomputable def F_s_l18Tell_W : Fn := (D_s_l18Tell_W P_s_l18Tell_W).2
theorem E_s_l18Tell_W (f_s_l1In : Y_s_l1In) (f_s_l17Over : Y_s_l17Over) (f_s_l17Hear : Y_s_l17Hear) : ∀ x, (mkFn cfgR [D_s_l1In f_s_l1In, D_s_l17Over f_s_l17Over, D_s_l17Hear_r99_0 f_s_l17Hear] A_s_l18Tell_W 106 [.tmp 4] (Tryz.f197.body.getD .skip) p_s_l18Tell_W r_s_l18Tell_W).fn x = B_s_l18Tell_W f_s_l1In f_s_l17Over f_s_l17Hear x.1 x.2.1 := by intro x; kernel_rfl
theorem S_s_l18Tell_W : Sound Tryz.prog 197 F_s_l18Tell_W := sm MO cfgR_ok (tc Tryz.call120 S_s_l1In (tc Tryz.call253 S_s_l17Over (tc Tryz.call254 S_s_l17Hear_r99_0 tab_nil))) Tryz.func197 (by kernel_rfl) (by decide) (E_s_l18Tell_W P_s_l1In P_s_l17Over P_s_l17Hear)
def A_s_l18Cut_W : Nat → Option Jn := lookN [(15, ⟨[.t 5 false [.own 100000000], .r 100000000 113 (.pair (.int .i64) (.pair kReq (.rs 5 (.int .u8))))], lt 17 29 [.r 16, .r 44, .r 45, .t 6, .x 31, .x 42], true⟩), (122, ⟨[.t 5 false [.own 100000000], .t 6 false [.int .i64], .r 100000000 113 (.pair (.int .i64) (.pair kReq (.rs 5 (.int .u8))))], lt 17 29 [.r 16, .r 44, .r 45, .x 31, .x 42], false⟩)]
abbrev p_s_l18Cut_W : List PK := [.ptr (.pair (.pair (.pair (.pair (.rs 9 .str) (.rs 9 .str)) (.pair (.int .i64) (.pair (.int .i64) (.rs 109 (.pair .str (.pair (.int .i64) (.pair (.rs 5 (.int .u8)) .bool))))))) (.sl 130 kHeld)) (.pair (.sl 79 (.pair .str (.pair (.rs 5 (.int .u8)) kResp))) (.pair (.sl 4 .bool) (.pair (.sl 113 (.pair (.int .i64) (.pair kReq (.rs 5 (.int .u8))))) (.pair (.sl 130 kHeld) (.sl 3 (.int .i64))))))), .val false (.int .i64) false]
abbrev r_s_l18Cut_W : List RK := [.val false .bool]
noncomputable def D_s_l18Cut_W (f : Y_s_l18Cut_W) : Nat × Fn := (198, ⟨p_s_l18Cut_W, r_s_l18Cut_W, fun x => f x.1 x.2.1⟩)
noncomputable def F_s_l18Cut_W : Fn := (D_s_l18Cut_W P_s_l18Cut_W).2
theorem E_s_l18Cut_W (f_s_l1In : Y_s_l1In) (f_s_l18Others : Y_s_l18Others) (f_s_CutOff : Y_s_CutOff) : ∀ x, (mkFn cfgR [D_s_l1In f_s_l1In, D_s_l18Others f_s_l18Others, D_s_CutOff f_s_CutOff] A_s_l18Cut_W 90 [.tmp 4] (Tryz.f198.body.getD .skip) p_s_l18Cut_W r_s_l18Cut_W).fn x = B_s_l18Cut_W f_s_l1In f_s_l18Others f_s_CutOff x.1 x.2.1 := by intro x; kernel_rfl
theorem S_s_l18Cut_W : Sound Tryz.prog 198 F_s_l18Cut_W := sm MO cfgR_ok (tc Tryz.call120 S_s_l1In (tc Tryz.call255 S_s_l18Others (tc Tryz.call256 S_s_CutOff tab_nil))) Tryz.func198 (by kernel_rfl) (by decide) (E_s_l18Cut_W P_s_l1In P_s_l18Others P_s_CutOff)
def A_s_l18Crash_W : Nat → Option Jn := lookN [(1018, ⟨[.t 7 false [.int .i64], .b 1000 [.own 73728, .own 73729, .int .i64, .int .i64, .ro 109 kUp, .nil, .own 1006, .own 1007, .own 28, .own 32, .own 1010], .r 28 113 (.pair (.int .i64) (.pair kReq (.rs 5 (.int .u8)))), .r 32 130 kHeld, .r 1006 79 (.pair .str (.pair (.rs 5 (.int .u8)) kResp)), .r 1007 4 .bool, .r 1010 3 (.int .i64), .r 73728 9 .str, .r 73729 9 .str], lt 35 29 [.r 233473, .x 54, .x 57, .x 63], false⟩)]
abbrev p_s_l18Crash_W : List PK := [.ptr (.pair (.pair (.pair (.pair (.rs 9 .str) (.rs 9 .str)) (.pair (.int .i64) (.pair (.int .i64) (.rs 109 (.pair .str (.pair (.int .i64) (.pair (.rs 5 (.int .u8)) .bool))))))) (.sl 130 kHeld)) (.pair (.sl 79 (.pair .str (.pair (.rs 5 (.int .u8)) kResp))) (.pair (.sl 4 .bool) (.pair (.sl 113 (.pair (.int .i64) (.pair kReq (.rs 5 (.int .u8))))) (.pair (.sl 130 kHeld) (.sl 3 (.int .i64))))))), .val false (.rs 4 .bool) false]
abbrev r_s_l18Crash_W : List RK := [.val false .bool]
noncomputable def D_s_l18Crash_W (f : Y_s_l18Crash_W) : Nat × Fn := (199, ⟨p_s_l18Crash_W, r_s_l18Crash_W, fun x => f x.1 x.2.1⟩)
noncomputable def F_s_l18Crash_W : Fn := (D_s_l18Crash_W P_s_l18Crash_W).2
theorem E_s_l18Crash_W (f_s_CutOff : Y_s_CutOff) (f_s_OpenStore_r99_0 : Y_s_OpenStore_r99_0) (f_s_FallDisk : Y_s_FallDisk) : ∀ x, (mkFn cfgR [D_s_CutOff f_s_CutOff, D_s_OpenStore_r99_0 f_s_OpenStore_r99_0, D_s_FallDisk f_s_FallDisk] A_s_l18Crash_W 64 [.tmp 4] (Tryz.f199.body.getD .skip) p_s_l18Crash_W r_s_l18Crash_W).fn x = B_s_l18Crash_W f_s_CutOff f_s_OpenStore_r99_0 f_s_FallDisk x.1 x.2.1 := by intro x; kernel_rfl
theorem S_s_l18Crash_W : Sound Tryz.prog 199 F_s_l18Crash_W := sm MO cfgR_ok (tc Tryz.call256 S_s_CutOff (tc Tryz.call257 S_s_OpenStore_r99_0 (tc Tryz.call258 S_s_FallDisk tab_nil))) Tryz.func199 (by kernel_rfl) (by decide) (E_s_l18Crash_W P_s_CutOff P_s_OpenStore_r99_0 P_s_FallDisk)
abbrev p_s_l18Do_W : List PK := [.ptr (.pair (.pair (.pair (.pair (.rs 9 .str) (.rs 9 .str)) (.pair (.int .i64) (.pair (.int .i64) (.rs 109 (.pair .str (.pair (.int .i64) (.pair (.rs 5 (.int .u8)) .bool))))))) (.sl 130 kHeld)) (.pair (.sl 79 (.pair .str (.pair (.rs 5 (.int .u8)) kResp))) (.pair (.sl 4 .bool) (.pair (.sl 113 (.pair (.int .i64) (.pair kReq (.rs 5 (.int .u8))))) (.pair (.sl 130 kHeld) (.sl 3 (.int .i64))))))), .val true (.pair (.int .i64) (.pair (.int .i64) (.rs 4 .bool))) false]
abbrev r_s_l18Do_W : List RK := [.val false .bool]
noncomputable def D_s_l18Do_W (f : Y_s_l18Do_W) : Nat × Fn := (111, ⟨p_s_l18Do_W, r_s_l18Do_W, fun x => f x.1 x.2.1⟩)
noncomputable def F_s_l18Do_W : Fn := (D_s_l18Do_W P_s_l18Do_W).2
theorem E_s_l18Do_W (f_s_l18Send_W : Y_s_l18Send_W) (f_s_l18Serve_W : Y_s_l18Serve_W) (f_s_l18Sync : Y_s_l18Sync) (f_s_l18Tell_W : Y_s_l18Tell_W) (f_s_l18Cut_W : Y_s_l18Cut_W) (f_s_l18Crash_W : Y_s_l18Crash_W) : ∀ x, (mkFn cfgR [D_s_l18Send_W f_s_l18Send_W, D_s_l18Serve_W f_s_l18Serve_W, D_s_l18Sync_W f_s_l18Sync, D_s_l18Tell_W f_s_l18Tell_W, D_s_l18Cut_W f_s_l18Cut_W, D_s_l18Crash_W f_s_l18Crash_W] (lookN []) 41 [.tmp 4] (Tryz.f111.body.getD .skip) p_s_l18Do_W r_s_l18Do_W).fn x = B_s_l18Do_W f_s_l18Send_W f_s_l18Serve_W f_s_l18Sync f_s_l18Tell_W f_s_l18Cut_W f_s_l18Crash_W x.1 x.2.1 := by intro x; kernel_rfl
theorem S_s_l18Do_W : Sound Tryz.prog 111 F_s_l18Do_W := sm MO cfgR_ok (tc Tryz.call194 S_s_l18Send_W (tc Tryz.call195 S_s_l18Serve_W (tc Tryz.call196 S_s_l18Sync_W (tc Tryz.call197 S_s_l18Tell_W (tc Tryz.call198 S_s_l18Cut_W (tc Tryz.call199 S_s_l18Crash_W tab_nil)))))) Tryz.func111 (by kernel_rfl) (by decide) (E_s_l18Do_W P_s_l18Send_W P_s_l18Serve_W P_s_l18Sync P_s_l18Tell_W P_s_l18Cut_W P_s_l18Crash_W)
abbrev p_s_l1Size : List PK := [.val false (.rs 5 (.int .u8)) false, .val false (.int .i64) false]
abbrev r_s_l1Size : List RK := [.val false (.int .i64)]
noncomputable def D_s_l1Size (f : Y_s_l1Size) : Nat × Fn := (69, ⟨p_s_l1Size, r_s_l1Size, fun x => f x.1 x.2.1⟩)
noncomputable def F_s_l1Size : Fn := (D_s_l1Size P_s_l1Size).2
theorem E_s_l1Size : ∀ x, (mkFn cfg [] (lookN []) 15 [.tmp 4] (Tryz.f69.body.getD .skip) p_s_l1Size r_s_l1Size).fn x = B_s_l1Size x.1 x.2.1 := by intro x; kernel_rfl
theorem S_s_l1Size : Sound Tryz.prog 69 F_s_l1Size := sm MO cfg_ok tab_nil Tryz.func69 (by kernel_rfl) (by decide) (E_s_l1Size)
abbrev p_slices_Clone_byte_byte : List PK := [.val false (.rs 5 (.int .u8)) false]
abbrev r_slices_Clone_byte_byte : List RK := [.val false (.sl 5 (.int .u8))]
noncomputable def D_slices_Clone_byte_byte (f : Y_slices_Clone_byte_byte) : Nat × Fn := (191, ⟨p_slices_Clone_byte_byte, r_slices_Clone_byte_byte, fun x => f x.1⟩)
noncomputable def F_slices_Clone_byte_byte : Fn := (D_slices_Clone_byte_byte P_slices_Clone_byte_byte).2
theorem E_slices_Clone_byte_byte : ∀ x, (mkFn cfg [] (lookN []) 8 [.tmp 2] (Tryz.f191.body.getD .skip) p_slices_Clone_byte_byte r_slices_Clone_byte_byte).fn x = B_slices_Clone_byte_byte x.1 := by intro x; kernel_rfl
theorem S_slices_Clone_byte_byte : Sound Tryz.prog 191 F_slices_Clone_byte_byte := sm MO cfg_ok tab_nil Tryz.func191 (by kernel_rfl) (by decide) (E_slices_Clone_byte_byte)
abbrev p_i_copyUp : List PK := [.val true (.pair .str (.pair (.int .i64) (.pair (.rs 5 (.int .u8)) .bool))) false]
abbrev r_i_copyUp : List RK := [.val true kUp]
noncomputable def D_i_copyUp (f : Y_i_copyUp) : Nat × Fn := (144, ⟨p_i_copyUp, r_i_copyUp, fun x => f x.1⟩)
noncomputable def F_i_copyUp : Fn := (D_i_copyUp P_i_copyUp).2
theorem E_i_copyUp (f_slices_Clone_byte_byte : Y_slices_Clone_byte_byte) : ∀ x, (mkFn cfg [D_slices_Clone_byte_byte f_slices_Clone_byte_byte] (lookN []) 8 [.cell 2 109] (Tryz.f144.body.getD .skip) p_i_copyUp r_i_copyUp).fn x = B_i_copyUp f_slices_Clone_byte_byte x.1 := by intro x; kernel_rfl
theorem S_i_copyUp : Sound Tryz.prog 144 F_i_copyUp := sm MO cfg_ok (tc Tryz.call191 S_slices_Clone_byte_byte tab_nil) Tryz.func144 (by kernel_rfl) (by decide) (E_i_copyUp P_slices_Clone_byte_byte)
def A_i_UpAt : Nat → Option Jn := lookN [(3, ⟨[], lt 7 12 [.b 7, .t 21], false⟩), (26, ⟨[.t 11 false [.int .i64]], lt 12 7 [.b 7, .t 7, .t 21], false⟩)]
abbrev p_i_UpAt : List PK := [.val true (.pair (.pair (.rs 9 .str) (.rs 9 .str)) (.pair (.int .i64) (.pair (.int .i64) (.rs 109 kUp)))) false, .val false .str false]
abbrev r_i_UpAt : List RK := [.val true kUp, .val false .bool]
noncomputable def D_i_UpAt (f : Y_i_UpAt) : Nat × Fn := (75, ⟨p_i_UpAt, r_i_UpAt, fun x => f x.1 x.2.1⟩)
noncomputable def F_i_UpAt : Fn := (D_i_UpAt P_i_UpAt).2
theorem E_i_UpAt (f_i_copyUp : Y_i_copyUp) : ∀ x, (mkFn cfg [D_i_copyUp f_i_copyUp] A_i_UpAt 23 [.cell 4 109, .tmp 5] (Tryz.f75.body.getD .skip) p_i_UpAt r_i_UpAt).fn x = B_i_UpAt f_i_copyUp x.1 x.2.1 := by intro x; kernel_rfl
theorem S_i_UpAt : Sound Tryz.prog 75 F_i_UpAt := sm MO cfg_ok (tc Tryz.call144 S_i_copyUp tab_nil) Tryz.func75 (by kernel_rfl) (by decide) (E_i_UpAt P_i_copyUp)
abbrev p_bytes_Equal : List PK := [.val false (.rs 5 (.int .u8)) false, .val false (.rs 5 (.int .u8)) false]
abbrev r_bytes_Equal : List RK := [.val false .bool]
noncomputable def D_bytes_Equal (f : Y_bytes_Equal) : Nat × Fn := (77, ⟨p_bytes_Equal, r_bytes_Equal, fun x => f x.1 x.2.1⟩)
noncomputable def F_bytes_Equal : Fn := (D_bytes_Equal P_bytes_Equal).2
theorem E_bytes_Equal : ∀ x, (mkFn cfg [] (lookN []) 10 [.tmp 4] (Tryz.f77.body.getD .skip) p_bytes_Equal r_bytes_Equal).fn x = B_bytes_Equal x.1 x.2.1 := by intro x; kernel_rfl
theorem S_bytes_Equal : Sound Tryz.prog 77 F_bytes_Equal := sm MO cfg_ok tab_nil Tryz.func77 (by kernel_rfl) (by decide) (E_bytes_Equal)
abbrev p_bytes_HasPrefix : List PK := [.val false (.rs 5 (.int .u8)) false, .val false (.rs 5 (.int .u8)) false]
abbrev r_bytes_HasPrefix : List RK := [.val false .bool]
noncomputable def D_bytes_HasPrefix (f : Y_bytes_HasPrefix) : Nat × Fn := (76, ⟨p_bytes_HasPrefix, r_bytes_HasPrefix, fun x => f x.1 x.2.1⟩)
noncomputable def F_bytes_HasPrefix : Fn := (D_bytes_HasPrefix P_bytes_HasPrefix).2
theorem E_bytes_HasPrefix (f_bytes_Equal : Y_bytes_Equal) : ∀ x, (mkFn cfg [D_bytes_Equal f_bytes_Equal] (lookN []) 18 [.tmp 4] (Tryz.f76.body.getD .skip) p_bytes_HasPrefix r_bytes_HasPrefix).fn x = B_bytes_HasPrefix f_bytes_Equal x.1 x.2.1 := by intro x; kernel_rfl
theorem S_bytes_HasPrefix : Sound Tryz.prog 76 F_bytes_HasPrefix := sm MO cfg_ok (tc Tryz.call77 S_bytes_Equal tab_nil) Tryz.func76 (by kernel_rfl) (by decide) (E_bytes_HasPrefix P_bytes_Equal)
def A_i_Begins : Nat → Option Jn := lookN [(26, ⟨[.t 10 false [.int .i64]], lt 11 30 (lt 4 3 [.b 4, .b 5, .r 86018]), false⟩)]
abbrev p_i_Begins : List PK := [.val true (.pair (.pair (.pair (.pair (.rs 9 .str) (.rs 9 .str)) (.pair (.int .i64) (.pair (.int .i64) (.rs 109 kUp)))) (.rs 130 kHeld)) (.pair (.rs 79 kClient) (.pair (.rs 4 .bool) (.pair (.rs 113 kWant) (.pair (.rs 130 kHeld) (.rs 3 (.int .i64))))))) false]
abbrev r_i_Begins : List RK := [.val false .bool]
noncomputable def D_i_Begins (f : Y_i_Begins) : Nat × Fn := (19, ⟨p_i_Begins, r_i_Begins, fun x => f x.1⟩)
noncomputable def F_i_Begins : Fn := (D_i_Begins P_i_Begins).2
theorem E_i_Begins (f_i_UpAt : Y_i_UpAt) (f_bytes_HasPrefix : Y_bytes_HasPrefix) : ∀ x, (mkFn cfg [D_i_UpAt f_i_UpAt, D_bytes_HasPrefix f_bytes_HasPrefix] A_i_Begins 41 [.tmp 2] (Tryz.f19.body.getD .skip) p_i_Begins r_i_Begins).fn x = B_i_Begins f_i_UpAt f_bytes_HasPrefix x.1 := by intro x; kernel_rfl
theorem S_i_Begins : Sound Tryz.prog 19 F_i_Begins := sm MO cfg_ok (tc Tryz.call75 S_i_UpAt (tc Tryz.call76 S_bytes_HasPrefix tab_nil)) Tryz.func19 (by kernel_rfl) (by decide) (E_i_Begins P_i_UpAt P_bytes_HasPrefix)
def A_i_NotLost : Nat → Option Jn := lookN [(26, ⟨[.t 10 false [.int .i64]], lt 11 40 (lt 3 4 [.b 4, .b 5, .r 143362]), false⟩), (1689, ⟨[], lt 15 13 [], false⟩)]
abbrev p_i_NotLost : List PK := [.val true (.pair (.pair (.pair (.pair (.rs 9 .str) (.rs 9 .str)) (.pair (.int .i64) (.pair (.int .i64) (.rs 109 kUp)))) (.rs 130 kHeld)) (.pair (.rs 79 kClient) (.pair (.rs 4 .bool) (.pair (.rs 113 kWant) (.pair (.rs 130 kHeld) (.rs 3 (.int .i64))))))) false]
abbrev r_i_NotLost : List RK := [.val false .bool]
noncomputable def D_i_NotLost (f : Y_i_NotLost) : Nat × Fn := (20, ⟨p_i_NotLost, r_i_NotLost, fun x => f x.1⟩)
noncomputable def F_i_NotLost : Fn := (D_i_NotLost P_i_NotLost).2
theorem E_i_NotLost (f_i_UpAt : Y_i_UpAt) : ∀ x, (mkFn cfg [D_i_UpAt f_i_UpAt] A_i_NotLost 51 [.tmp 2] (Tryz.f20.body.getD .skip) p_i_NotLost r_i_NotLost).fn x = B_i_NotLost f_i_UpAt x.1 := by intro x; kernel_rfl
theorem S_i_NotLost : Sound Tryz.prog 20 F_i_NotLost := sm MO cfg_ok (tc Tryz.call75 S_i_UpAt tab_nil) Tryz.func20 (by kernel_rfl) (by decide) (E_i_NotLost P_i_UpAt)
def A_i_Ends : Nat → Option Jn := lookN [(26, ⟨[.t 10 false [.int .i64]], lt 11 33 (lt 4 3 [.b 4, .b 5, .r 86018]), false⟩)]
abbrev p_i_Ends : List PK := [.val true (.pair (.pair (.pair (.pair (.rs 9 .str) (.rs 9 .str)) (.pair (.int .i64) (.pair (.int .i64) (.rs 109 kUp)))) (.rs 130 kHeld)) (.pair (.rs 79 kClient) (.pair (.rs 4 .bool) (.pair (.rs 113 kWant) (.pair (.rs 130 kHeld) (.rs 3 (.int .i64))))))) false]
abbrev r_i_Ends : List RK := [.val false .bool]
noncomputable def D_i_Ends (f : Y_i_Ends) : Nat × Fn := (21, ⟨p_i_Ends, r_i_Ends, fun x => f x.1⟩)
noncomputable def F_i_Ends : Fn := (D_i_Ends P_i_Ends).2
theorem E_i_Ends (f_i_UpAt : Y_i_UpAt) (f_bytes_Equal : Y_bytes_Equal) : ∀ x, (mkFn cfg [D_i_UpAt f_i_UpAt, D_bytes_Equal f_bytes_Equal] A_i_Ends 44 [.tmp 2] (Tryz.f21.body.getD .skip) p_i_Ends r_i_Ends).fn x = B_i_Ends f_i_UpAt f_bytes_Equal x.1 := by intro x; kernel_rfl
theorem S_i_Ends : Sound Tryz.prog 21 F_i_Ends := sm MO cfg_ok (tc Tryz.call75 S_i_UpAt (tc Tryz.call77 S_bytes_Equal tab_nil)) Tryz.func21 (by kernel_rfl) (by decide) (E_i_Ends P_i_UpAt P_bytes_Equal)
def A_i_NoneFails : Nat → Option Jn := lookN [(26, ⟨[.t 8 false [.int .i64]], lt 9 7 [.b 4, .t 4], false⟩)]
abbrev p_i_NoneFails : List PK := [.val true (.pair (.pair (.pair (.pair (.rs 9 .str) (.rs 9 .str)) (.pair (.int .i64) (.pair (.int .i64) (.rs 109 kUp)))) (.rs 130 kHeld)) (.pair (.rs 79 kClient) (.pair (.rs 4 .bool) (.pair (.rs 113 kWant) (.pair (.rs 130 kHeld) (.rs 3 (.int .i64))))))) false]
abbrev r_i_NoneFails : List RK := [.val false .bool]
noncomputable def D_i_NoneFails (f : Y_i_NoneFails) : Nat × Fn := (22, ⟨p_i_NoneFails, r_i_NoneFails, fun x => f x.1⟩)
noncomputable def F_i_NoneFails : Fn := (D_i_NoneFails P_i_NoneFails).2
theorem E_i_NoneFails : ∀ x, (mkFn cfg [] A_i_NoneFails 16 [.tmp 2] (Tryz.f22.body.getD .skip) p_i_NoneFails r_i_NoneFails).fn x = B_i_NoneFails x.1 := by intro x; kernel_rfl
theorem S_i_NoneFails : Sound Tryz.prog 22 F_i_NoneFails := sm MO cfg_ok tab_nil Tryz.func22 (by kernel_rfl) (by decide) (E_i_NoneFails)
abbrev p_i_inRange : List PK := [.val false (.int .i64) false, .val false (.int .i64) false, .val false (.int .i64) false]
abbrev r_i_inRange : List RK := [.val false .bool]
noncomputable def D_i_inRange (f : Y_i_inRange) : Nat × Fn := (80, ⟨p_i_inRange, r_i_inRange, fun x => f x.1 x.2.1 x.2.2.1⟩)
noncomputable def F_i_inRange : Fn := (D_i_inRange P_i_inRange).2
theorem E_i_inRange : ∀ x, (mkFn cfg [] (lookN []) 15 [.tmp 6] (Tryz.f80.body.getD .skip) p_i_inRange r_i_inRange).fn x = B_i_inRange x.1 x.2.1 x.2.2.1 := by intro x; kernel_rfl
theorem S_i_inRange : Sound Tryz.prog 80 F_i_inRange := sm MO cfg_ok tab_nil Tryz.func80 (by kernel_rfl) (by decide) (E_i_inRange)
abbrev p_i_RespOk : List PK := [.val true kResp false]
abbrev r_i_RespOk : List RK := [.val false .bool]
noncomputable def D_i_RespOk (f : Y_i_RespOk) : Nat × Fn := (93, ⟨p_i_RespOk, r_i_RespOk, fun x => f x.1⟩)
noncomputable def F_i_RespOk : Fn := (D_i_RespOk P_i_RespOk).2
theorem E_i_RespOk (f_i_inRange : Y_i_inRange) : ∀ x, (mkFn cfg [D_i_inRange f_i_inRange] (lookN []) 11 [.tmp 2] (Tryz.f93.body.getD .skip) p_i_RespOk r_i_RespOk).fn x = B_i_RespOk f_i_inRange x.1 := by intro x; kernel_rfl
theorem S_i_RespOk : Sound Tryz.prog 93 F_i_RespOk := sm MO cfg_ok (tc Tryz.call80 S_i_inRange tab_nil) Tryz.func93 (by kernel_rfl) (by decide) (E_i_RespOk P_i_inRange)
abbrev p_i_isEpoch : List PK := [.val false (.int .i64) false]
abbrev r_i_isEpoch : List RK := [.val false .bool]
noncomputable def D_i_isEpoch (f : Y_i_isEpoch) : Nat × Fn := (168, ⟨p_i_isEpoch, r_i_isEpoch, fun x => f x.1⟩)
noncomputable def F_i_isEpoch : Fn := (D_i_isEpoch P_i_isEpoch).2
theorem E_i_isEpoch (f_i_inRange : Y_i_inRange) : ∀ x, (mkFn cfg [D_i_inRange f_i_inRange] (lookN []) 5 [.tmp 2] (Tryz.f168.body.getD .skip) p_i_isEpoch r_i_isEpoch).fn x = B_i_isEpoch f_i_inRange x.1 := by intro x; kernel_rfl
theorem S_i_isEpoch : Sound Tryz.prog 168 F_i_isEpoch := sm MO cfg_ok (tc Tryz.call80 S_i_inRange tab_nil) Tryz.func168 (by kernel_rfl) (by decide) (E_i_isEpoch P_i_inRange)
def A_i_DiskOk : Nat → Option Jn := lookN [(3, ⟨[], lt 4 13 [], false⟩), (58, ⟨[.t 20 false [.int .i64]], lt 21 19 [.t 3], false⟩)]
abbrev p_i_DiskOk : List PK := [.val true (.pair (.rs 9 .str) (.rs 9 .str)) false]
abbrev r_i_DiskOk : List RK := [.val false .bool]
noncomputable def D_i_DiskOk (f : Y_i_DiskOk) : Nat × Fn := (169, ⟨p_i_DiskOk, r_i_DiskOk, fun x => f x.1⟩)
noncomputable def F_i_DiskOk : Fn := (D_i_DiskOk P_i_DiskOk).2
theorem E_i_DiskOk : ∀ x, (mkFn cfg [] A_i_DiskOk 40 [.tmp 2] (Tryz.f169.body.getD .skip) p_i_DiskOk r_i_DiskOk).fn x = B_i_DiskOk x.1 := by intro x; kernel_rfl
theorem S_i_DiskOk : Sound Tryz.prog 169 F_i_DiskOk := sm MO cfg_ok tab_nil Tryz.func169 (by kernel_rfl) (by decide) (E_i_DiskOk)
def A_i_GetBig : Nat → Option Jn := lookN [(3, ⟨[], lt 11 15 [], false⟩), (15, ⟨[.t 8 false [.int .i64]], lt 26 17 [.t 10], true⟩), (122, ⟨[.t 8 false [.int .i64], .t 33 false [.int .i64]], lt 34 9 [.t 10], false⟩)]
abbrev p_i_GetBig : List PK := [.val false (.rs 5 (.int .u8)) false, .val false (.int .i64) false, .val false (.int .i64) false]
abbrev r_i_GetBig : List RK := [.val false (.int .i64), .val false .bool]
noncomputable def D_i_GetBig (f : Y_i_GetBig) : Nat × Fn := (307, ⟨p_i_GetBig, r_i_GetBig, fun x => f x.1 x.2.1 x.2.2.1⟩)
noncomputable def F_i_GetBig : Fn := (D_i_GetBig P_i_GetBig).2
theorem E_i_GetBig (f_i_inRange : Y_i_inRange) : ∀ x, (mkFn cfg [D_i_inRange f_i_inRange] A_i_GetBig 44 [.tmp 6, .tmp 7] (Tryz.f307.body.getD .skip) p_i_GetBig r_i_GetBig).fn x = B_i_GetBig f_i_inRange x.1 x.2.1 x.2.2.1 := by intro x; kernel_rfl
theorem S_i_GetBig : Sound Tryz.prog 307 F_i_GetBig := sm MO cfg_ok (tc Tryz.call80 S_i_inRange tab_nil) Tryz.func307 (by kernel_rfl) (by decide) (E_i_GetBig P_i_inRange)
def A_i_byteReader_number : Nat → Option Jn := lookN [(7, ⟨[], lt 20 8 [], false⟩)]
abbrev p_i_byteReader_number : List PK := [.ptr kByteReader, .val false (.int .i64) false]
abbrev r_i_byteReader_number : List RK := [.val false (.int .i64)]
noncomputable def D_i_byteReader_number (f : Y_i_byteReader_number) : Nat × Fn := (285, ⟨p_i_byteReader_number, r_i_byteReader_number, fun x => f x.1 x.2.1⟩)
noncomputable def F_i_byteReader_number : Fn := (D_i_byteReader_number P_i_byteReader_number).2
theorem E_i_byteReader_number (f_i_GetBig : Y_i_GetBig) : ∀ x, (mkFn cfg [D_i_GetBig f_i_GetBig] A_i_byteReader_number 40 [.tmp 4] (Tryz.f285.body.getD .skip) p_i_byteReader_number r_i_byteReader_number).fn x = B_i_byteReader_number f_i_GetBig x.1 x.2.1 := by intro x; kernel_rfl
theorem S_i_byteReader_number : Sound Tryz.prog 285 F_i_byteReader_number := sm MO cfg_ok (tc Tryz.call307 S_i_GetBig tab_nil) Tryz.func285 (by kernel_rfl) (by decide) (E_i_byteReader_number P_i_GetBig)
def A_i_byteReader_take : Nat → Option Jn := lookN [(3, ⟨[], lt 5 18 [], false⟩)]
abbrev p_i_byteReader_take : List PK := [.ptr kByteReader, .val false (.int .i64) false]
abbrev r_i_byteReader_take : List RK := [.val false (.sl 5 (.int .u8))]
noncomputable def D_i_byteReader_take (f : Y_i_byteReader_take) : Nat × Fn := (286, ⟨p_i_byteReader_take, r_i_byteReader_take, fun x => f x.1 x.2.1⟩)
noncomputable def F_i_byteReader_take : Fn := (D_i_byteReader_take P_i_byteReader_take).2
theorem E_i_byteReader_take (f_slices_Clone_byte_byte : Y_slices_Clone_byte_byte) : ∀ x, (mkFn cfg [D_slices_Clone_byte_byte f_slices_Clone_byte_byte] A_i_byteReader_take 50 [.tmp 4] (Tryz.f286.body.getD .skip) p_i_byteReader_take r_i_byteReader_take).fn x = B_i_byteReader_take f_slices_Clone_byte_byte x.1 x.2.1 := by intro x; kernel_rfl
theorem S_i_byteReader_take : Sound Tryz.prog 286 F_i_byteReader_take := sm MO cfg_ok (tc Tryz.call191 S_slices_Clone_byte_byte tab_nil) Tryz.func286 (by kernel_rfl) (by decide) (E_i_byteReader_take P_slices_Clone_byte_byte)
def A_i_idOk : Nat → Option Jn := lookN [(3, ⟨[], lt 3 30 [], false⟩), (26, ⟨[.t 3 false [.int .i64]], lt 4 29 [], false⟩)]
abbrev p_i_idOk : List PK := [.val false .str false]
abbrev r_i_idOk : List RK := [.val false .bool]
noncomputable def D_i_idOk (f : Y_i_idOk) : Nat × Fn := (147, ⟨p_i_idOk, r_i_idOk, fun x => f x.1⟩)
noncomputable def F_i_idOk : Fn := (D_i_idOk P_i_idOk).2
theorem E_i_idOk (f_i_inRange : Y_i_inRange) : ∀ x, (mkFn cfg [D_i_inRange f_i_inRange] A_i_idOk 36 [.tmp 2] (Tryz.f147.body.getD .skip) p_i_idOk r_i_idOk).fn x = B_i_idOk f_i_inRange x.1 := by intro x; kernel_rfl
theorem S_i_idOk : Sound Tryz.prog 147 F_i_idOk := sm MO cfg_ok (tc Tryz.call80 S_i_inRange tab_nil) Tryz.func147 (by kernel_rfl) (by decide) (E_i_idOk P_i_inRange)
def A_i_RecOk : Nat → Option Jn := lookN [(3, ⟨[], lt 3 22 [], false⟩)]
abbrev p_i_RecOk : List PK := [.val true (.pair (.int .i64) (.pair (.int .i64) (.pair (.int .i64) (.pair .str (.pair (.int .i64) (.rs 5 (.int .u8))))))) false]
abbrev r_i_RecOk : List RK := [.val false .bool]
noncomputable def D_i_RecOk (f : Y_i_RecOk) : Nat × Fn := (287, ⟨p_i_RecOk, r_i_RecOk, fun x => f x.1⟩)
noncomputable def F_i_RecOk : Fn := (D_i_RecOk P_i_RecOk).2
theorem E_i_RecOk (f_i_inRange : Y_i_inRange) (f_i_idOk : Y_i_idOk) (f_i_isEpoch : Y_i_isEpoch) : ∀ x, (mkFn cfg [D_i_inRange f_i_inRange, D_i_idOk f_i_idOk, D_i_isEpoch f_i_isEpoch] A_i_RecOk 58 [.tmp 2] (Tryz.f287.body.getD .skip) p_i_RecOk r_i_RecOk).fn x = B_i_RecOk f_i_inRange f_i_idOk f_i_isEpoch x.1 := by intro x; kernel_rfl
theorem S_i_RecOk : Sound Tryz.prog 287 F_i_RecOk := sm MO cfg_ok (tc Tryz.call80 S_i_inRange (tc Tryz.call147 S_i_idOk (tc Tryz.call168 S_i_isEpoch tab_nil))) Tryz.func287 (by kernel_rfl) (by decide) (E_i_RecOk P_i_inRange P_i_idOk P_i_isEpoch)
def A_i_Crc : Nat → Option Jn := lookN [(7, ⟨[.t 3 false [.int .u32]], lt 5 24 [], true⟩), (58, ⟨[.t 3 false [.int .u32], .t 9 false [.int .i64]], lt 10 19 [.t 5, .t 6], false⟩), (29902, ⟨[.t 3 false [.int .u32], .t 17 false [.int .i64]], lt 18 10 [.t 6], false⟩)]
abbrev p_i_Crc : List PK := [.val false (.rs 5 (.int .u8)) false]
abbrev r_i_Crc : List RK := [.val false (.int .i64)]
noncomputable def D_i_Crc (f : Y_i_Crc) : Nat × Fn := (280, ⟨p_i_Crc, r_i_Crc, fun x => f x.1⟩)
noncomputable def F_i_Crc : Fn := (D_i_Crc P_i_Crc).2
theorem E_i_Crc : ∀ x, (mkFn cfg [] A_i_Crc 32 [.tmp 2] (Tryz.f280.body.getD .skip) p_i_Crc r_i_Crc).fn x = B_i_Crc x.1 := by intro x; kernel_rfl
theorem S_i_Crc : Sound Tryz.prog 280 F_i_Crc := sm MO cfg_ok tab_nil Tryz.func280 (by kernel_rfl) (by decide) (E_i_Crc)
def A_i_putBig : Nat → Option Jn := lookN [(58, ⟨[.t 0 false [.own 100000000], .t 7 false [.int .i64], .r 100000000 5 (.int .u8)], lt 12 13 [.r 23, .r 24, .r 1000], false⟩)]
abbrev p_i_putBig : List PK := [.val false (.sl 5 (.int .u8)) false, .val false (.int .i64) false, .val false (.int .i64) false]
abbrev r_i_putBig : List RK := [.val false (.sl 5 (.int .u8))]
noncomputable def D_i_putBig (f : Y_i_putBig) : Nat × Fn := (308, ⟨p_i_putBig, r_i_putBig, fun x => f x.1 x.2.1 x.2.2.1⟩)
noncomputable def F_i_putBig : Fn := (D_i_putBig P_i_putBig).2
theorem E_i_putBig : ∀ x, (mkFn cfg [] A_i_putBig 26 [.tmp 6] (Tryz.f308.body.getD .skip) p_i_putBig r_i_putBig).fn x = B_i_putBig x.1 x.2.1 x.2.2.1 := by intro x; kernel_rfl
theorem S_i_putBig : Sound Tryz.prog 308 F_i_putBig := sm MO cfg_ok tab_nil Tryz.func308 (by kernel_rfl) (by decide) (E_i_putBig)
abbrev p_i_PutRec : List PK := [.val true (.pair (.int .i64) (.pair (.int .i64) (.pair (.int .i64) (.pair .str (.pair (.int .i64) (.rs 5 (.int .u8))))))) false]
abbrev r_i_PutRec : List RK := [.val false .str]
noncomputable def D_i_PutRec (f : Y_i_PutRec) : Nat × Fn := (288, ⟨p_i_PutRec, r_i_PutRec, fun x => f x.1⟩)
noncomputable def F_i_PutRec : Fn := (D_i_PutRec P_i_PutRec).2
theorem E_i_PutRec (f_i_Crc : Y_i_Crc) (f_i_RecOk : Y_i_RecOk) (f_i_putBig : Y_i_putBig) : ∀ x, (mkFn cfg [D_i_Crc f_i_Crc, D_i_RecOk f_i_RecOk, D_i_putBig f_i_putBig] (lookN []) 45 [.tmp 2] (Tryz.f288.body.getD .skip) p_i_PutRec r_i_PutRec).fn x = B_i_PutRec f_i_Crc f_i_RecOk f_i_putBig x.1 := by intro x; kernel_rfl
theorem S_i_PutRec : Sound Tryz.prog 288 F_i_PutRec := sm MO cfg_ok (tc Tryz.call280 S_i_Crc (tc Tryz.call287 S_i_RecOk (tc Tryz.call308 S_i_putBig tab_nil))) Tryz.func288 (by kernel_rfl) (by decide) (E_i_PutRec P_i_Crc P_i_RecOk P_i_putBig)
abbrev p_i_GetRec : List PK := [.val false .str false]
abbrev r_i_GetRec : List RK := [.val true kRec, .val false .bool]
noncomputable def D_i_GetRec (f : Y_i_GetRec) : Nat × Fn := (238, ⟨p_i_GetRec, r_i_GetRec, fun x => f x.1⟩)
noncomputable def F_i_GetRec : Fn := (D_i_GetRec P_i_GetRec).2
theorem E_i_GetRec (f_i_byteReader_number : Y_i_byteReader_number) (f_i_byteReader_take : Y_i_byteReader_take) (f_i_RecOk : Y_i_RecOk) (f_i_PutRec : Y_i_PutRec) : ∀ x, (mkFn cfg [D_i_byteReader_number f_i_byteReader_number, D_i_byteReader_take f_i_byteReader_take, D_i_RecOk f_i_RecOk, D_i_PutRec f_i_PutRec] (lookN []) 42 [.cell 2 194, .tmp 3] (Tryz.f238.body.getD .skip) p_i_GetRec r_i_GetRec).fn x = B_i_GetRec f_i_byteReader_number f_i_byteReader_take f_i_RecOk f_i_PutRec x.1 := by intro x; kernel_rfl
theorem S_i_GetRec : Sound Tryz.prog 238 F_i_GetRec := sm MO cfg_ok (tc Tryz.call285 S_i_byteReader_number (tc Tryz.call286 S_i_byteReader_take (tc Tryz.call287 S_i_RecOk (tc Tryz.call288 S_i_PutRec tab_nil)))) Tryz.func238 (by kernel_rfl) (by decide) (E_i_GetRec P_i_byteReader_number P_i_byteReader_take P_i_RecOk P_i_PutRec)
def A_i_ScanRecs : Nat → Option Jn := lookN [(122, ⟨[.t 3 false [.own 100000000], .t 4 false [.int .i64], .t 12 false [.int .i64], .r 100000000 194 kRec], lt 13 30 (lt 5 4 [.b 7, .r 38, .r 39, .r 81925]), false⟩)]
abbrev p_i_ScanRecs : List PK := [.val true (.pair (.rs 9 .str) (.rs 9 .str)) false]
abbrev r_i_ScanRecs : List RK := [.val false (.sl 194 kRec)]
noncomputable def D_i_ScanRecs (f : Y_i_ScanRecs) : Nat × Fn := (170, ⟨p_i_ScanRecs, r_i_ScanRecs, fun x => f x.1⟩)
noncomputable def F_i_ScanRecs : Fn := (D_i_ScanRecs P_i_ScanRecs).2
theorem E_i_ScanRecs (f_i_GetRec : Y_i_GetRec) : ∀ x, (mkFn cfg [D_i_GetRec f_i_GetRec] A_i_ScanRecs 44 [.tmp 2] (Tryz.f170.body.getD .skip) p_i_ScanRecs r_i_ScanRecs).fn x = B_i_ScanRecs f_i_GetRec x.1 := by intro x; kernel_rfl
theorem S_i_ScanRecs : Sound Tryz.prog 170 F_i_ScanRecs := sm MO cfg_ok (tc Tryz.call238 S_i_GetRec tab_nil) Tryz.func170 (by kernel_rfl) (by decide) (E_i_ScanRecs P_i_GetRec)
def A_i_upAt : Nat → Option Jn := lookN [(7, ⟨[.t 6 false [.int .i64]], lt 7 15 [], true⟩), (28, ⟨[.t 6 false [.int .i64]], lt 7 15 [], false⟩)]
abbrev p_i_upAt : List PK := [.val false (.rs 109 kUp) false, .val false .str false]
abbrev r_i_upAt : List RK := [.val false (.int .i64), .val false .bool]
noncomputable def D_i_upAt (f : Y_i_upAt) : Nat × Fn := (289, ⟨p_i_upAt, r_i_upAt, fun x => f x.1 x.2.1⟩)
noncomputable def F_i_upAt : Fn := (D_i_upAt P_i_upAt).2
theorem E_i_upAt : ∀ x, (mkFn cfg [] A_i_upAt 36 [.tmp 4, .tmp 5] (Tryz.f289.body.getD .skip) p_i_upAt r_i_upAt).fn x = B_i_upAt x.1 x.2.1 := by intro x; kernel_rfl
theorem S_i_upAt : Sound Tryz.prog 289 F_i_upAt := sm MO cfg_ok tab_nil Tryz.func289 (by kernel_rfl) (by decide) (E_i_upAt)
def A_i_fold : Nat → Option Jn := lookN [(58, ⟨[], lt 19 6 [], false⟩), (2026, ⟨[], lt 43 30 [], false⟩)]
abbrev p_i_fold : List PK := [.val false (.sl 109 kUp) false, .val true (.pair (.int .i64) (.pair (.int .i64) (.pair (.int .i64) (.pair .str (.pair (.int .i64) (.rs 5 (.int .u8))))))) false]
abbrev r_i_fold : List RK := [.val false (.sl 109 kUp), .val false .bool]
noncomputable def D_i_fold (f : Y_i_fold) : Nat × Fn := (239, ⟨p_i_fold, r_i_fold, fun x => f x.1 x.2.1⟩)
noncomputable def F_i_fold : Fn := (D_i_fold P_i_fold).2
theorem E_i_fold (f_i_upAt : Y_i_upAt) (f_slices_Insert_impl_Up_impl_Up : Y_slices_Insert_impl_Up_impl_Up) (f_slices_Delete_impl_Up_impl_Up : Y_slices_Delete_impl_Up_impl_Up) : ∀ x, (mkFn cfg [D_i_upAt f_i_upAt, D_slices_Insert_impl_Up_impl_Up f_slices_Insert_impl_Up_impl_Up, D_slices_Delete_impl_Up_impl_Up f_slices_Delete_impl_Up_impl_Up] A_i_fold 113 [.tmp 4, .tmp 5] (Tryz.f239.body.getD .skip) p_i_fold r_i_fold).fn x = B_i_fold f_i_upAt f_slices_Insert_impl_Up_impl_Up f_slices_Delete_impl_Up_impl_Up x.1 x.2.1 := by intro x; kernel_rfl
theorem S_i_fold : Sound Tryz.prog 239 F_i_fold := sm MO cfg_ok (tc Tryz.call289 S_i_upAt (tc Tryz.call290 S_slices_Insert_impl_Up_impl_Up (tc Tryz.call291 S_slices_Delete_impl_Up_impl_Up tab_nil))) Tryz.func239 (by kernel_rfl) (by decide) (E_i_fold P_i_upAt P_slices_Insert_impl_Up_impl_Up P_slices_Delete_impl_Up_impl_Up)
def A_i_FoldRecs : Nat → Option Jn := lookN [(7, ⟨[.t 4 false [.own 100000000], .r 100000000 109 kUp], lt 6 19 [.b 6, .r 77824], false⟩), (58, ⟨[.t 4 false [.own 100000000], .t 11 false [.int .i64], .r 100000000 109 kUp], lt 12 13 (lt 6 3 [.b 6, .r 77824]), false⟩)]
abbrev p_i_FoldRecs : List PK := [.val false (.rs 194 kRec) false]
abbrev r_i_FoldRecs : List RK := [.val false (.sl 109 kUp), .val false .bool]
noncomputable def D_i_FoldRecs (f : Y_i_FoldRecs) : Nat × Fn := (171, ⟨p_i_FoldRecs, r_i_FoldRecs, fun x => f x.1⟩)
noncomputable def F_i_FoldRecs : Fn := (D_i_FoldRecs P_i_FoldRecs).2
theorem E_i_FoldRecs (f_i_fold : Y_i_fold) : ∀ x, (mkFn cfg [D_i_fold f_i_fold] A_i_FoldRecs 26 [.tmp 2, .tmp 3] (Tryz.f171.body.getD .skip) p_i_FoldRecs r_i_FoldRecs).fn x = B_i_FoldRecs f_i_fold x.1 := by intro x; kernel_rfl
theorem S_i_FoldRecs : Sound Tryz.prog 171 F_i_FoldRecs := sm MO cfg_ok (tc Tryz.call239 S_i_fold tab_nil) Tryz.func171 (by kernel_rfl) (by decide) (E_i_FoldRecs P_i_fold)
def A_i_topFrom : Nat → Option Jn := lookN [(58, ⟨[.t 3 false [.int .i64], .t 10 false [.int .i64]], lt 11 14 (lt 5 3 [.b 6, .r 69637]), false⟩)]
abbrev p_i_topFrom : List PK := [.val false (.rs 9 .str) false]
abbrev r_i_topFrom : List RK := [.val false (.int .i64)]
noncomputable def D_i_topFrom (f : Y_i_topFrom) : Nat × Fn := (174, ⟨p_i_topFrom, r_i_topFrom, fun x => f x.1⟩)
noncomputable def F_i_topFrom : Fn := (D_i_topFrom P_i_topFrom).2
theorem E_i_topFrom (f_i_GetRec : Y_i_GetRec) : ∀ x, (mkFn cfg [D_i_GetRec f_i_GetRec] A_i_topFrom 26 [.tmp 2] (Tryz.f174.body.getD .skip) p_i_topFrom r_i_topFrom).fn x = B_i_topFrom f_i_GetRec x.1 := by intro x; kernel_rfl
theorem S_i_topFrom : Sound Tryz.prog 174 F_i_topFrom := sm MO cfg_ok (tc Tryz.call238 S_i_GetRec tab_nil) Tryz.func174 (by kernel_rfl) (by decide) (E_i_topFrom P_i_GetRec)
abbrev p_i_sameUp : List PK := [.val true (.pair .str (.pair (.int .i64) (.pair (.rs 5 (.int .u8)) .bool))) false, .val true (.pair .str (.pair (.int .i64) (.pair (.rs 5 (.int .u8)) .bool))) false]
abbrev r_i_sameUp : List RK := [.val false .bool]
noncomputable def D_i_sameUp (f : Y_i_sameUp) : Nat × Fn := (173, ⟨p_i_sameUp, r_i_sameUp, fun x => f x.1 x.2.1⟩)
noncomputable def F_i_sameUp : Fn := (D_i_sameUp P_i_sameUp).2
theorem E_i_sameUp (f_bytes_Equal : Y_bytes_Equal) : ∀ x, (mkFn cfg [D_bytes_Equal f_bytes_Equal] (lookN []) 31 [.tmp 4] (Tryz.f173.body.getD .skip) p_i_sameUp r_i_sameUp).fn x = B_i_sameUp f_bytes_Equal x.1 x.2.1 := by intro x; kernel_rfl
theorem S_i_sameUp : Sound Tryz.prog 173 F_i_sameUp := sm MO cfg_ok (tc Tryz.call77 S_bytes_Equal tab_nil) Tryz.func173 (by kernel_rfl) (by decide) (E_i_sameUp P_bytes_Equal)
def A_slices_EqualFunc_impl_Up_impl_Up_impl_Up_impl_Up_r1002_173 : Nat → Option Jn := lookN [(58, ⟨[.t 17 false [.int .i64]], lt 18 14 (lt 7 3 [.b 8, .b 9]), false⟩)]
abbrev p_slices_EqualFunc_impl_Up_impl_Up_impl_Up_impl_Up_r1002_173 : List PK := [.val false (.rs 109 kUp) false, .val false (.rs 109 kUp) false, .val false (.fnc 173) false]
abbrev r_slices_EqualFunc_impl_Up_impl_Up_impl_Up_impl_Up_r1002_173 : List RK := [.val false .bool]
noncomputable def D_slices_EqualFunc_impl_Up_impl_Up_impl_Up_impl_Up_r1002_173 (f : Y_slices_EqualFunc_impl_Up_impl_Up_impl_Up_impl_Up_r1002_173) : Nat × Fn := (172, ⟨p_slices_EqualFunc_impl_Up_impl_Up_impl_Up_impl_Up_r1002_173, r_slices_EqualFunc_impl_Up_impl_Up_impl_Up_impl_Up_r1002_173, fun x => f x.1 x.2.1 x.2.2.1⟩)
noncomputable def F_slices_EqualFunc_impl_Up_impl_Up_impl_Up_impl_Up_r1002_173 : Fn := (D_slices_EqualFunc_impl_Up_impl_Up_impl_Up_impl_Up_r1002_173 P_slices_EqualFunc_impl_Up_impl_Up_impl_Up_impl_Up_r1002_173).2
theorem E_slices_EqualFunc_impl_Up_impl_Up_impl_Up_impl_Up_r1002_173 (f_i_sameUp : Y_i_sameUp) : ∀ x, (mkFn cfg [D_i_sameUp f_i_sameUp] A_slices_EqualFunc_impl_Up_impl_Up_impl_Up_impl_Up_r1002_173 32 [.tmp 6] (Tryz.f172.body.getD .skip) p_slices_EqualFunc_impl_Up_impl_Up_impl_Up_impl_Up_r1002_173 r_slices_EqualFunc_impl_Up_impl_Up_impl_Up_impl_Up_r1002_173).fn x = B_slices_EqualFunc_impl_Up_impl_Up_impl_Up_impl_Up_r1002_173 f_i_sameUp x.1 x.2.1 x.2.2.1 := by intro x; kernel_rfl
theorem S_slices_EqualFunc_impl_Up_impl_Up_impl_Up_impl_Up_r1002_173 : Sound Tryz.prog 172 F_slices_EqualFunc_impl_Up_impl_Up_impl_Up_impl_Up_r1002_173 := sm MO cfg_ok (tc Tryz.call173 S_i_sameUp tab_nil) Tryz.func172 (by kernel_rfl) (by decide) (E_slices_EqualFunc_impl_Up_impl_Up_impl_Up_impl_Up_r1002_173 P_i_sameUp)
def A_i_StoreOk : Nat → Option Jn := lookN [(3, ⟨[], lt 6 10 [], false⟩), (31, ⟨[], lt 24 16 [], false⟩), (63, ⟨[], lt 40 15 [.x 50], false⟩)]
abbrev p_i_StoreOk : List PK := [.val true (.pair (.pair (.rs 9 .str) (.rs 9 .str)) (.pair (.int .i64) (.pair (.int .i64) (.rs 109 kUp)))) false]
abbrev r_i_StoreOk : List RK := [.val false .bool]
noncomputable def D_i_StoreOk (f : Y_i_StoreOk) : Nat × Fn := (94, ⟨p_i_StoreOk, r_i_StoreOk, fun x => f x.1⟩)
noncomputable def F_i_StoreOk : Fn := (D_i_StoreOk P_i_StoreOk).2
theorem E_i_StoreOk (f_i_isEpoch : Y_i_isEpoch) (f_i_DiskOk : Y_i_DiskOk) (f_i_ScanRecs : Y_i_ScanRecs) (f_i_FoldRecs : Y_i_FoldRecs) (f_slices_EqualFunc_impl_Up_impl_Up_impl_Up_impl_Up_r1002_173 : Y_slices_EqualFunc_impl_Up_impl_Up_impl_Up_impl_Up_r1002_173) (f_i_topFrom : Y_i_topFrom) : ∀ x, (mkFn cfg [D_i_isEpoch f_i_isEpoch, D_i_DiskOk f_i_DiskOk, D_i_ScanRecs f_i_ScanRecs, D_i_FoldRecs f_i_FoldRecs, D_slices_EqualFunc_impl_Up_impl_Up_impl_Up_impl_Up_r1002_173 f_slices_EqualFunc_impl_Up_impl_Up_impl_Up_impl_Up_r1002_173, D_i_topFrom f_i_topFrom] A_i_StoreOk 65 [.tmp 2] (Tryz.f94.body.getD .skip) p_i_StoreOk r_i_StoreOk).fn x = B_i_StoreOk f_i_isEpoch f_i_DiskOk f_i_ScanRecs f_i_FoldRecs f_slices_EqualFunc_impl_Up_impl_Up_impl_Up_impl_Up_r1002_173 f_i_topFrom x.1 := by intro x; kernel_rfl
theorem S_i_StoreOk : Sound Tryz.prog 94 F_i_StoreOk := sm MO cfg_ok (tc Tryz.call168 S_i_isEpoch (tc Tryz.call169 S_i_DiskOk (tc Tryz.call170 S_i_ScanRecs (tc Tryz.call171 S_i_FoldRecs (tc Tryz.call172 S_slices_EqualFunc_impl_Up_impl_Up_impl_Up_impl_Up_r1002_173 (tc Tryz.call174 S_i_topFrom tab_nil)))))) Tryz.func94 (by kernel_rfl) (by decide) (E_i_StoreOk P_i_isEpoch P_i_DiskOk P_i_ScanRecs P_i_FoldRecs P_slices_EqualFunc_impl_Up_impl_Up_impl_Up_impl_Up_r1002_173 P_i_topFrom)
def A_i_ServerOk : Nat → Option Jn := lookN [(3, ⟨[], lt 4 13 [.b 4], false⟩), (26, ⟨[.t 8 false [.int .i64]], lt 9 8 [.b 4, .t 4], false⟩)]
abbrev p_i_ServerOk : List PK := [.val true (.pair (.pair (.pair (.rs 9 .str) (.rs 9 .str)) (.pair (.int .i64) (.pair (.int .i64) (.rs 109 kUp)))) (.rs 130 kHeld)) false]
abbrev r_i_ServerOk : List RK := [.val false .bool]
noncomputable def D_i_ServerOk (f : Y_i_ServerOk) : Nat × Fn := (28, ⟨p_i_ServerOk, r_i_ServerOk, fun x => f x.1⟩)
noncomputable def F_i_ServerOk : Fn := (D_i_ServerOk P_i_ServerOk).2
theorem E_i_ServerOk (f_i_RespOk : Y_i_RespOk) (f_i_StoreOk : Y_i_StoreOk) : ∀ x, (mkFn cfg [D_i_RespOk f_i_RespOk, D_i_StoreOk f_i_StoreOk] A_i_ServerOk 26 [.tmp 2] (Tryz.f28.body.getD .skip) p_i_ServerOk r_i_ServerOk).fn x = B_i_ServerOk f_i_RespOk f_i_StoreOk x.1 := by intro x; kernel_rfl
theorem S_i_ServerOk : Sound Tryz.prog 28 F_i_ServerOk := sm MO cfg_ok (tc Tryz.call93 S_i_RespOk (tc Tryz.call94 S_i_StoreOk tab_nil)) Tryz.func28 (by kernel_rfl) (by decide) (E_i_ServerOk P_i_RespOk P_i_StoreOk)
abbrev p_i_ClientOk : List PK := [.val true (.pair .str (.pair (.rs 5 (.int .u8)) kResp)) false]
abbrev r_i_ClientOk : List RK := [.val false .bool]
noncomputable def D_i_ClientOk (f : Y_i_ClientOk) : Nat × Fn := (145, ⟨p_i_ClientOk, r_i_ClientOk, fun x => f x.1⟩)
noncomputable def F_i_ClientOk : Fn := (D_i_ClientOk P_i_ClientOk).2
theorem E_i_ClientOk (f_i_inRange : Y_i_inRange) (f_i_idOk : Y_i_idOk) : ∀ x, (mkFn cfg [D_i_inRange f_i_inRange, D_i_idOk f_i_idOk] (lookN []) 25 [.tmp 2] (Tryz.f145.body.getD .skip) p_i_ClientOk r_i_ClientOk).fn x = B_i_ClientOk f_i_inRange f_i_idOk x.1 := by intro x; kernel_rfl
theorem S_i_ClientOk : Sound Tryz.prog 145 F_i_ClientOk := sm MO cfg_ok (tc Tryz.call80 S_i_inRange (tc Tryz.call147 S_i_idOk tab_nil)) Tryz.func145 (by kernel_rfl) (by decide) (E_i_ClientOk P_i_inRange P_i_idOk)
def A_i_clientsOk : Nat → Option Jn := lookN [(3, ⟨[], lt 6 28 [.b 4, .b 6, .t 3, .t 4], false⟩), (26, ⟨[.t 10 false [.int .i64]], lt 11 23 [.b 4, .b 6, .t 3, .t 4, .t 6], false⟩), (13518, ⟨[.t 23 false [.int .i64]], lt 24 9 [.b 6, .t 6], false⟩)]
abbrev p_i_clientsOk : List PK := [.val true (.pair (.pair (.pair (.pair (.rs 9 .str) (.rs 9 .str)) (.pair (.int .i64) (.pair (.int .i64) (.rs 109 kUp)))) (.rs 130 kHeld)) (.pair (.rs 79 kClient) (.pair (.rs 4 .bool) (.pair (.rs 113 kWant) (.pair (.rs 130 kHeld) (.rs 3 (.int .i64))))))) false]
abbrev r_i_clientsOk : List RK := [.val false .bool]
noncomputable def D_i_clientsOk (f : Y_i_clientsOk) : Nat × Fn := (78, ⟨p_i_clientsOk, r_i_clientsOk, fun x => f x.1⟩)
noncomputable def F_i_clientsOk : Fn := (D_i_clientsOk P_i_clientsOk).2
theorem E_i_clientsOk (f_i_ClientOk : Y_i_ClientOk) : ∀ x, (mkFn cfg [D_i_ClientOk f_i_ClientOk] A_i_clientsOk 56 [.tmp 2] (Tryz.f78.body.getD .skip) p_i_clientsOk r_i_clientsOk).fn x = B_i_clientsOk f_i_ClientOk x.1 := by intro x; kernel_rfl
theorem S_i_clientsOk : Sound Tryz.prog 78 F_i_clientsOk := sm MO cfg_ok (tc Tryz.call145 S_i_ClientOk tab_nil) Tryz.func78 (by kernel_rfl) (by decide) (E_i_clientsOk P_i_ClientOk)
abbrev p_i_numberField : List PK := [.val false (.int .i64) false]
abbrev r_i_numberField : List RK := [.val false .str, .val false (.int .i64)]
noncomputable def D_i_numberField (f : Y_i_numberField) : Nat × Fn := (146, ⟨p_i_numberField, r_i_numberField, fun x => f x.1⟩)
noncomputable def F_i_numberField : Fn := (D_i_numberField P_i_numberField).2
theorem E_i_numberField : ∀ x, (mkFn cfg [] (lookN []) 11 [.tmp 2, .tmp 3] (Tryz.f146.body.getD .skip) p_i_numberField r_i_numberField).fn x = B_i_numberField x.1 := by intro x; kernel_rfl
theorem S_i_numberField : Sound Tryz.prog 146 F_i_numberField := sm MO cfg_ok tab_nil Tryz.func146 (by kernel_rfl) (by decide) (E_i_numberField)
abbrev p_i_ReqOk : List PK := [.val true kReq false]
abbrev r_i_ReqOk : List RK := [.val false .bool]
noncomputable def D_i_ReqOk (f : Y_i_ReqOk) : Nat × Fn := (79, ⟨p_i_ReqOk, r_i_ReqOk, fun x => f x.1⟩)
noncomputable def F_i_ReqOk : Fn := (D_i_ReqOk P_i_ReqOk).2
theorem E_i_ReqOk (f_i_inRange : Y_i_inRange) (f_i_numberField : Y_i_numberField) (f_i_idOk : Y_i_idOk) : ∀ x, (mkFn cfg [D_i_inRange f_i_inRange, D_i_numberField f_i_numberField, D_i_idOk f_i_idOk] (lookN []) 25 [.tmp 2] (Tryz.f79.body.getD .skip) p_i_ReqOk r_i_ReqOk).fn x = B_i_ReqOk f_i_inRange f_i_numberField f_i_idOk x.1 := by intro x; kernel_rfl
theorem S_i_ReqOk : Sound Tryz.prog 79 F_i_ReqOk := sm MO cfg_ok (tc Tryz.call80 S_i_inRange (tc Tryz.call146 S_i_numberField (tc Tryz.call147 S_i_idOk tab_nil))) Tryz.func79 (by kernel_rfl) (by decide) (E_i_ReqOk P_i_inRange P_i_numberField P_i_idOk)
def A_i_heldOk : Nat → Option Jn := lookN [(26, ⟨[.t 9 false [.int .i64]], lt 10 18 [.b 6, .t 6], false⟩)]
abbrev p_i_heldOk : List PK := [.val true (.pair (.pair (.pair (.pair (.rs 9 .str) (.rs 9 .str)) (.pair (.int .i64) (.pair (.int .i64) (.rs 109 kUp)))) (.rs 130 kHeld)) (.pair (.rs 79 kClient) (.pair (.rs 4 .bool) (.pair (.rs 113 kWant) (.pair (.rs 130 kHeld) (.rs 3 (.int .i64))))))) false, .val false (.rs 130 kHeld) false]
abbrev r_i_heldOk : List RK := [.val false .bool]
noncomputable def D_i_heldOk (f : Y_i_heldOk) : Nat × Fn := (81, ⟨p_i_heldOk, r_i_heldOk, fun x => f x.1 x.2.1⟩)
noncomputable def F_i_heldOk : Fn := (D_i_heldOk P_i_heldOk).2
theorem E_i_heldOk (f_i_inRange : Y_i_inRange) (f_i_RespOk : Y_i_RespOk) : ∀ x, (mkFn cfg [D_i_inRange f_i_inRange, D_i_RespOk f_i_RespOk] A_i_heldOk 28 [.tmp 4] (Tryz.f81.body.getD .skip) p_i_heldOk r_i_heldOk).fn x = B_i_heldOk f_i_inRange f_i_RespOk x.1 x.2.1 := by intro x; kernel_rfl
theorem S_i_heldOk : Sound Tryz.prog 81 F_i_heldOk := sm MO cfg_ok (tc Tryz.call80 S_i_inRange (tc Tryz.call93 S_i_RespOk tab_nil)) Tryz.func81 (by kernel_rfl) (by decide) (E_i_heldOk P_i_inRange P_i_RespOk)
def A_i_WorldOk : Nat → Option Jn := lookN [(3, ⟨[], lt 5 15 [], false⟩), (7, ⟨[], lt 20 22 [.b 4, .t 4], false⟩), (58, ⟨[.t 23 false [.int .i64]], lt 24 18 [.b 4, .t 4], false⟩)]
abbrev p_i_WorldOk : List PK := [.val true (.pair (.pair (.pair (.pair (.rs 9 .str) (.rs 9 .str)) (.pair (.int .i64) (.pair (.int .i64) (.rs 109 kUp)))) (.rs 130 kHeld)) (.pair (.rs 79 kClient) (.pair (.rs 4 .bool) (.pair (.rs 113 kWant) (.pair (.rs 130 kHeld) (.rs 3 (.int .i64))))))) false]
abbrev r_i_WorldOk : List RK := [.val false .bool]
noncomputable def D_i_WorldOk (f : Y_i_WorldOk) : Nat × Fn := (23, ⟨p_i_WorldOk, r_i_WorldOk, fun x => f x.1⟩)
noncomputable def F_i_WorldOk : Fn := (D_i_WorldOk P_i_WorldOk).2
theorem E_i_WorldOk (f_i_ServerOk : Y_i_ServerOk) (f_i_clientsOk : Y_i_clientsOk) (f_i_ReqOk : Y_i_ReqOk) (f_i_inRange : Y_i_inRange) (f_i_heldOk : Y_i_heldOk) : ∀ x, (mkFn cfg [D_i_ServerOk f_i_ServerOk, D_i_clientsOk f_i_clientsOk, D_i_ReqOk f_i_ReqOk, D_i_inRange f_i_inRange, D_i_heldOk f_i_heldOk] A_i_WorldOk 58 [.tmp 2] (Tryz.f23.body.getD .skip) p_i_WorldOk r_i_WorldOk).fn x = B_i_WorldOk f_i_ServerOk f_i_clientsOk f_i_ReqOk f_i_inRange f_i_heldOk x.1 := by intro x; kernel_rfl
theorem S_i_WorldOk : Sound Tryz.prog 23 F_i_WorldOk := sm MO cfg_ok (tc Tryz.call28 S_i_ServerOk (tc Tryz.call78 S_i_clientsOk (tc Tryz.call79 S_i_ReqOk (tc Tryz.call80 S_i_inRange (tc Tryz.call81 S_i_heldOk tab_nil))))) Tryz.func23 (by kernel_rfl) (by decide) (E_i_WorldOk P_i_ServerOk P_i_clientsOk P_i_ReqOk P_i_inRange P_i_heldOk)
abbrev p_i_Safe : List PK := [.val true (.pair (.pair (.pair (.pair (.rs 9 .str) (.rs 9 .str)) (.pair (.int .i64) (.pair (.int .i64) (.rs 109 kUp)))) (.rs 130 kHeld)) (.pair (.rs 79 kClient) (.pair (.rs 4 .bool) (.pair (.rs 113 kWant) (.pair (.rs 130 kHeld) (.rs 3 (.int .i64))))))) false]
abbrev r_i_Safe : List RK := [.val false (.int .i64)]
noncomputable def D_i_Safe (f : Y_i_Safe) : Nat × Fn := (17, ⟨p_i_Safe, r_i_Safe, fun x => f x.1⟩)
noncomputable def F_i_Safe : Fn := (D_i_Safe P_i_Safe).2
theorem E_i_Safe (f_i_Begins : Y_i_Begins) (f_i_NotLost : Y_i_NotLost) (f_i_Ends : Y_i_Ends) (f_i_NoneFails : Y_i_NoneFails) (f_i_WorldOk : Y_i_WorldOk) : ∀ x, (mkFn cfg [D_i_Begins f_i_Begins, D_i_NotLost f_i_NotLost, D_i_Ends f_i_Ends, D_i_NoneFails f_i_NoneFails, D_i_WorldOk f_i_WorldOk] (lookN []) 23 [.tmp 2] (Tryz.f17.body.getD .skip) p_i_Safe r_i_Safe).fn x = B_i_Safe f_i_Begins f_i_NotLost f_i_Ends f_i_NoneFails f_i_WorldOk x.1 := by intro x; kernel_rfl
theorem S_i_Safe : Sound Tryz.prog 17 F_i_Safe := sm MO cfg_ok (tc Tryz.call19 S_i_Begins (tc Tryz.call20 S_i_NotLost (tc Tryz.call21 S_i_Ends (tc Tryz.call22 S_i_NoneFails (tc Tryz.call23 S_i_WorldOk tab_nil))))) Tryz.func17 (by kernel_rfl) (by decide) (E_i_Safe P_i_Begins P_i_NotLost P_i_Ends P_i_NoneFails P_i_WorldOk)
def A_s_l19Begins : Nat → Option Jn := lookN [(58, ⟨[.t 5 false [.int .i64]], lt 11 15 [], false⟩)]
abbrev p_s_l19Begins : List PK := [.val false (.rs 5 (.int .u8)) false, .val false (.rs 5 (.int .u8)) false]
abbrev r_s_l19Begins : List RK := [.val false .bool]
noncomputable def D_s_l19Begins (f : Y_s_l19Begins) : Nat × Fn := (143, ⟨p_s_l19Begins, r_s_l19Begins, fun x => f x.1 x.2.1⟩)
noncomputable def F_s_l19Begins : Fn := (D_s_l19Begins P_s_l19Begins).2
theorem E_s_l19Begins : ∀ x, (mkFn cfg [] A_s_l19Begins 26 [.tmp 4] (Tryz.f143.body.getD .skip) p_s_l19Begins r_s_l19Begins).fn x = B_s_l19Begins x.1 x.2.1 := by intro x; kernel_rfl
theorem S_s_l19Begins : Sound Tryz.prog 143 F_s_l19Begins := sm MO cfg_ok tab_nil Tryz.func143 (by kernel_rfl) (by decide) (E_s_l19Begins)
def A_s_Begins : Nat → Option Jn := lookN [(26, ⟨[.t 3 false [.int .i64]], lt 4 47 [.b 4, .r 98306], false⟩)]
abbrev p_s_Begins : List PK := [.val true (.pair (.pair (.pair (.pair (.rs 9 .str) (.rs 9 .str)) (.pair (.int .i64) (.pair (.int .i64) (.rs 109 kUp)))) (.rs 130 kHeld)) (.pair (.rs 79 kClient) (.pair (.rs 4 .bool) (.pair (.rs 113 kWant) (.pair (.rs 130 kHeld) (.rs 3 (.int .i64))))))) false]
abbrev r_s_Begins : List RK := [.val false .bool]
noncomputable def D_s_Begins (f : Y_s_Begins) : Nat × Fn := (71, ⟨p_s_Begins, r_s_Begins, fun x => f x.1⟩)
noncomputable def F_s_Begins : Fn := (D_s_Begins P_s_Begins).2
theorem E_s_Begins (f_s_UpAt : Y_s_UpAt) (f_s_l19Begins : Y_s_l19Begins) : ∀ x, (mkFn cfg [D_s_UpAt f_s_UpAt, D_s_l19Begins f_s_l19Begins] A_s_Begins 51 [.tmp 2] (Tryz.f71.body.getD .skip) p_s_Begins r_s_Begins).fn x = B_s_Begins f_s_UpAt f_s_l19Begins x.1 := by intro x; kernel_rfl
theorem S_s_Begins : Sound Tryz.prog 71 F_s_Begins := sm MO cfg_ok (tc Tryz.call113 S_s_UpAt (tc Tryz.call143 S_s_l19Begins tab_nil)) Tryz.func71 (by kernel_rfl) (by decide) (E_s_Begins P_s_UpAt P_s_l19Begins)
def A_s_NotLost : Nat → Option Jn := lookN [(26, ⟨[.t 3 false [.int .i64]], lt 4 50 [.b 4, .r 126978], false⟩), (52, ⟨[], lt 6 12 [], false⟩)]
abbrev p_s_NotLost : List PK := [.val true (.pair (.pair (.pair (.pair (.rs 9 .str) (.rs 9 .str)) (.pair (.int .i64) (.pair (.int .i64) (.rs 109 kUp)))) (.rs 130 kHeld)) (.pair (.rs 79 kClient) (.pair (.rs 4 .bool) (.pair (.rs 113 kWant) (.pair (.rs 130 kHeld) (.rs 3 (.int .i64))))))) false]
abbrev r_s_NotLost : List RK := [.val false .bool]
noncomputable def D_s_NotLost (f : Y_s_NotLost) : Nat × Fn := (72, ⟨p_s_NotLost, r_s_NotLost, fun x => f x.1⟩)
noncomputable def F_s_NotLost : Fn := (D_s_NotLost P_s_NotLost).2
theorem E_s_NotLost (f_s_UpAt : Y_s_UpAt) : ∀ x, (mkFn cfg [D_s_UpAt f_s_UpAt] A_s_NotLost 54 [.tmp 2] (Tryz.f72.body.getD .skip) p_s_NotLost r_s_NotLost).fn x = B_s_NotLost f_s_UpAt x.1 := by intro x; kernel_rfl
theorem S_s_NotLost : Sound Tryz.prog 72 F_s_NotLost := sm MO cfg_ok (tc Tryz.call113 S_s_UpAt tab_nil) Tryz.func72 (by kernel_rfl) (by decide) (E_s_NotLost P_s_UpAt)
def A_s_Ends : Nat → Option Jn := lookN [(26, ⟨[.t 3 false [.int .i64]], lt 4 51 [.b 4, .r 98306], false⟩)]
abbrev p_s_Ends : List PK := [.val true (.pair (.pair (.pair (.pair (.rs 9 .str) (.rs 9 .str)) (.pair (.int .i64) (.pair (.int .i64) (.rs 109 kUp)))) (.rs 130 kHeld)) (.pair (.rs 79 kClient) (.pair (.rs 4 .bool) (.pair (.rs 113 kWant) (.pair (.rs 130 kHeld) (.rs 3 (.int .i64))))))) false]
abbrev r_s_Ends : List RK := [.val false .bool]
noncomputable def D_s_Ends (f : Y_s_Ends) : Nat × Fn := (73, ⟨p_s_Ends, r_s_Ends, fun x => f x.1⟩)
noncomputable def F_s_Ends : Fn := (D_s_Ends P_s_Ends).2
theorem E_s_Ends (f_s_UpAt : Y_s_UpAt) : ∀ x, (mkFn cfg [D_s_UpAt f_s_UpAt] A_s_Ends 55 [.tmp 2] (Tryz.f73.body.getD .skip) p_s_Ends r_s_Ends).fn x = B_s_Ends f_s_UpAt x.1 := by intro x; kernel_rfl
theorem S_s_Ends : Sound Tryz.prog 73 F_s_Ends := sm MO cfg_ok (tc Tryz.call113 S_s_UpAt tab_nil) Tryz.func73 (by kernel_rfl) (by decide) (E_s_Ends P_s_UpAt)
def A_s_NoneFails : Nat → Option Jn := lookN [(26, ⟨[.t 3 false [.int .i64]], lt 4 14 [], false⟩)]
abbrev p_s_NoneFails : List PK := [.val true (.pair (.pair (.pair (.pair (.rs 9 .str) (.rs 9 .str)) (.pair (.int .i64) (.pair (.int .i64) (.rs 109 kUp)))) (.rs 130 kHeld)) (.pair (.rs 79 kClient) (.pair (.rs 4 .bool) (.pair (.rs 113 kWant) (.pair (.rs 130 kHeld) (.rs 3 (.int .i64))))))) false]
abbrev r_s_NoneFails : List RK := [.val false .bool]
noncomputable def D_s_NoneFails (f : Y_s_NoneFails) : Nat × Fn := (74, ⟨p_s_NoneFails, r_s_NoneFails, fun x => f x.1⟩)
noncomputable def F_s_NoneFails : Fn := (D_s_NoneFails P_s_NoneFails).2
theorem E_s_NoneFails : ∀ x, (mkFn cfg [] A_s_NoneFails 18 [.tmp 2] (Tryz.f74.body.getD .skip) p_s_NoneFails r_s_NoneFails).fn x = B_s_NoneFails x.1 := by intro x; kernel_rfl
theorem S_s_NoneFails : Sound Tryz.prog 74 F_s_NoneFails := sm MO cfg_ok tab_nil Tryz.func74 (by kernel_rfl) (by decide) (E_s_NoneFails)
abbrev p_s_Safe : List PK := [.val true (.pair (.pair (.pair (.pair (.rs 9 .str) (.rs 9 .str)) (.pair (.int .i64) (.pair (.int .i64) (.rs 109 kUp)))) (.rs 130 kHeld)) (.pair (.rs 79 kClient) (.pair (.rs 4 .bool) (.pair (.rs 113 kWant) (.pair (.rs 130 kHeld) (.rs 3 (.int .i64))))))) false]
abbrev r_s_Safe : List RK := [.val false (.int .i64)]
noncomputable def D_s_Safe (f : Y_s_Safe) : Nat × Fn := (18, ⟨p_s_Safe, r_s_Safe, fun x => f x.1⟩)
noncomputable def F_s_Safe : Fn := (D_s_Safe P_s_Safe).2
theorem E_s_Safe (f_s_WorldOk : Y_s_WorldOk) (f_s_Begins : Y_s_Begins) (f_s_NotLost : Y_s_NotLost) (f_s_Ends : Y_s_Ends) (f_s_NoneFails : Y_s_NoneFails) : ∀ x, (mkFn cfg [D_s_WorldOk f_s_WorldOk, D_s_Begins f_s_Begins, D_s_NotLost f_s_NotLost, D_s_Ends f_s_Ends, D_s_NoneFails f_s_NoneFails] (lookN []) 23 [.tmp 2] (Tryz.f18.body.getD .skip) p_s_Safe r_s_Safe).fn x = B_s_Safe f_s_WorldOk f_s_Begins f_s_NotLost f_s_Ends f_s_NoneFails x.1 := by intro x; kernel_rfl
theorem S_s_Safe : Sound Tryz.prog 18 F_s_Safe := sm MO cfg_ok (tc Tryz.call70 S_s_WorldOk (tc Tryz.call71 S_s_Begins (tc Tryz.call72 S_s_NotLost (tc Tryz.call73 S_s_Ends (tc Tryz.call74 S_s_NoneFails tab_nil))))) Tryz.func18 (by kernel_rfl) (by decide) (E_s_Safe P_s_WorldOk P_s_Begins P_s_NotLost P_s_Ends P_s_NoneFails)
def A_s_l1New_r99_0 : Nat → Option Jn := lookN [(7, ⟨[.t 3 false [.int .i64]], lt 8 20 [.t 4], true⟩), (58, ⟨[.t 3 false [.int .i64], .t 4 false [.int .i64]], lt 8 20 [], false⟩), (116, ⟨[], lt 8 8 [], false⟩)]
abbrev p_s_l1New_r99_0 : List PK := [.val false (.rs 5 (.int .u8)) false]
abbrev r_s_l1New_r99_0 : List RK := [.new (.pair (.rs 5 (.int .u8)) kResp)]
noncomputable def D_s_l1New_r99_0 (f : Y_s_l1New) : Nat × Fn := (67, ⟨p_s_l1New_r99_0, r_s_l1New_r99_0, fun x => f x.1⟩)
noncomputable def F_s_l1New_r99_0 : Fn := (D_s_l1New_r99_0 P_s_l1New).2
theorem E_s_l1New_r99_0 : ∀ x, (mkFn cfg [] A_s_l1New_r99_0 32 [.tmp 2] (Tryz.f67.body.getD .skip) p_s_l1New_r99_0 r_s_l1New_r99_0).fn x = B_s_l1New x.1 := by intro x; kernel_rfl
theorem S_s_l1New_r99_0 : Sound Tryz.prog 67 F_s_l1New_r99_0 := sm MO cfg_ok tab_nil Tryz.func67 (by kernel_rfl) (by decide) (E_s_l1New_r99_0)
abbrev p_s_l1Byte_r0_0 : List PK := [.ptr (.pair (.rs 5 (.int .u8)) kResp)]
abbrev r_s_l1Byte_r0_0 : List RK := [.val false (.int .i64)]
noncomputable def D_s_l1Byte_r0_0 (f : Y_s_l1Byte) : Nat × Fn := (153, ⟨p_s_l1Byte_r0_0, r_s_l1Byte_r0_0, fun x => f x.1⟩)
noncomputable def F_s_l1Byte_r0_0 : Fn := (D_s_l1Byte_r0_0 P_s_l1Byte).2
theorem E_s_l1Byte_r0_0 : ∀ x, (mkFn cfg [] (lookN []) 58 [.tmp 2] (Tryz.f153.body.getD .skip) p_s_l1Byte_r0_0 r_s_l1Byte_r0_0).fn x = B_s_l1Byte x.1 := by intro x; kernel_rfl
theorem S_s_l1Byte_r0_0 : Sound Tryz.prog 153 F_s_l1Byte_r0_0 := sm MO cfg_ok tab_nil Tryz.func153 (by kernel_rfl) (by decide) (E_s_l1Byte_r0_0)
abbrev p_s_l1Below_r0_0 : List PK := [.ptr (.pair (.rs 5 (.int .u8)) kResp), .val false (.int .i64) false]
abbrev r_s_l1Below_r0_0 : List RK := [.val false (.int .i64)]
noncomputable def D_s_l1Below_r0_0 (f : Y_s_l1Below) : Nat × Fn := (86, ⟨p_s_l1Below_r0_0, r_s_l1Below_r0_0, fun x => f x.1 x.2.1⟩)
noncomputable def F_s_l1Below_r0_0 : Fn := (D_s_l1Below_r0_0 P_s_l1Below).2
theorem E_s_l1Below_r0_0 (f_s_l1Byte : Y_s_l1Byte) : ∀ x, (mkFn cfg [D_s_l1Byte_r0_0 f_s_l1Byte] (lookN []) 31 [.tmp 4] (Tryz.f86.body.getD .skip) p_s_l1Below_r0_0 r_s_l1Below_r0_0).fn x = B_s_l1Below f_s_l1Byte x.1 x.2.1 := by intro x; kernel_rfl
theorem S_s_l1Below_r0_0 : Sound Tryz.prog 86 F_s_l1Below_r0_0 := sm MO cfg_ok (tc Tryz.call153 S_s_l1Byte_r0_0 tab_nil) Tryz.func86 (by kernel_rfl) (by decide) (E_s_l1Below_r0_0 P_s_l1Byte)
abbrev p_s_l1Int_r0_0 : List PK := [.ptr (.pair (.rs 5 (.int .u8)) kResp), .val false (.rs 3 (.int .i64)) false]
abbrev r_s_l1Int_r0_0 : List RK := [.val false (.int .i64)]
noncomputable def D_s_l1Int_r0_0 (f : Y_s_l1Int) : Nat × Fn := (115, ⟨p_s_l1Int_r0_0, r_s_l1Int_r0_0, fun x => f x.1 x.2.1⟩)
noncomputable def F_s_l1Int_r0_0 : Fn := (D_s_l1Int_r0_0 P_s_l1Int).2
theorem E_s_l1Int_r0_0 (f_s_l1Below : Y_s_l1Below) : ∀ x, (mkFn cfg [D_s_l1Below_r0_0 f_s_l1Below] (lookN []) 12 [.tmp 4] (Tryz.f115.body.getD .skip) p_s_l1Int_r0_0 r_s_l1Int_r0_0).fn x = B_s_l1Int f_s_l1Below x.1 x.2.1 := by intro x; kernel_rfl
theorem S_s_l1Int_r0_0 : Sound Tryz.prog 115 F_s_l1Int_r0_0 := sm MO cfg_ok (tc Tryz.call86 S_s_l1Below_r0_0 tab_nil) Tryz.func115 (by kernel_rfl) (by decide) (E_s_l1Int_r0_0 P_s_l1Below)
def A_s_l1Bytes_r0_0 : Nat → Option Jn := lookN [(58, ⟨[.t 5 false [.own 100000000], .t 6 false [.int .i64], .b 1000 [.ro 5 (.int .u8), .int .i64, .int .i64], .r 100000000 5 (.int .u8)], lt 8 11 [.r 7, .r 17, .r 18], false⟩)]
abbrev p_s_l1Bytes_r0_0 : List PK := [.ptr (.pair (.rs 5 (.int .u8)) kResp), .val false (.int .i64) false]
abbrev r_s_l1Bytes_r0_0 : List RK := [.val false (.sl 5 (.int .u8))]
noncomputable def D_s_l1Bytes_r0_0 (f : Y_s_l1Bytes_r0_0) : Nat × Fn := (139, ⟨p_s_l1Bytes_r0_0, r_s_l1Bytes_r0_0, fun x => f x.1 x.2.1⟩)
noncomputable def F_s_l1Bytes_r0_0 : Fn := (D_s_l1Bytes_r0_0 P_s_l1Bytes_r0_0).2
theorem E_s_l1Bytes_r0_0 (f_s_l1Byte : Y_s_l1Byte) : ∀ x, (mkFn cfg [D_s_l1Byte_r0_0 f_s_l1Byte] A_s_l1Bytes_r0_0 20 [.tmp 4] (Tryz.f139.body.getD .skip) p_s_l1Bytes_r0_0 r_s_l1Bytes_r0_0).fn x = B_s_l1Bytes_r0_0 f_s_l1Byte x.1 x.2.1 := by intro x; kernel_rfl
theorem S_s_l1Bytes_r0_0 : Sound Tryz.prog 139 F_s_l1Bytes_r0_0 := sm MO cfg_ok (tc Tryz.call153 S_s_l1Byte_r0_0 tab_nil) Tryz.func139 (by kernel_rfl) (by decide) (E_s_l1Bytes_r0_0 P_s_l1Byte)
abbrev p_s_l1Once_r0_0 : List PK := [.ptr (.pair (.rs 5 (.int .u8)) kResp), .val false (.int .i64) false]
abbrev r_s_l1Once_r0_0 : List RK := [.val false .bool]
noncomputable def D_s_l1Once_r0_0 (f : Y_s_l1Once) : Nat × Fn := (84, ⟨p_s_l1Once_r0_0, r_s_l1Once_r0_0, fun x => f x.1 x.2.1⟩)
noncomputable def F_s_l1Once_r0_0 : Fn := (D_s_l1Once_r0_0 P_s_l1Once).2
theorem E_s_l1Once_r0_0 (f_s_l1Below : Y_s_l1Below) : ∀ x, (mkFn cfg [D_s_l1Below_r0_0 f_s_l1Below] (lookN []) 9 [.tmp 4] (Tryz.f84.body.getD .skip) p_s_l1Once_r0_0 r_s_l1Once_r0_0).fn x = B_s_l1Once f_s_l1Below x.1 x.2.1 := by intro x; kernel_rfl
theorem S_s_l1Once_r0_0 : Sound Tryz.prog 84 F_s_l1Once_r0_0 := sm MO cfg_ok (tc Tryz.call86 S_s_l1Below_r0_0 tab_nil) Tryz.func84 (by kernel_rfl) (by decide) (E_s_l1Once_r0_0 P_s_l1Below)
def A_s_l18Event_r0_0_r95_1 : Nat → Option Jn := lookN [(3, ⟨[.b 1000 [.ro 5 (.int .u8), .int .i64, .int .i64]], lt 34 3 (lt 30 3 (lt 19 4 (lt 7 6 [.t 44, .t 45]))), false⟩), (26, ⟨[.t 9 false [.bool]], lt 10 3 [], true⟩), (107, ⟨[.t 19 false [.bool]], lt 20 3 [], true⟩), (122, ⟨[.t 6 false [.int .i64], .b 5 [.int .i64, .int .i64, .own 100005000], .b 1000 [.ro 5 (.int .u8), .int .i64, .int .i64], .r 100005000 4 .bool], lt 53 11 [.r 61, .r 62], false⟩), (431, ⟨[.t 30 false [.bool]], [.t 31, .t 32], true⟩), (1727, ⟨[.t 34 false [.bool]], [.t 35, .t 36], true⟩)]
abbrev p_s_l18Event_r0_0_r95_1 : List PK := [.ptr (.pair (.rs 5 (.int .u8)) kResp), .val true (.pair (.pair (.pair (.pair (.rs 9 .str) (.rs 9 .str)) (.pair (.int .i64) (.pair (.int .i64) (.rs 109 (.pair .str (.pair (.int .i64) (.pair (.rs 5 (.int .u8)) .bool))))))) (.sl 130 kHeld)) (.pair (.sl 79 (.pair .str (.pair (.rs 5 (.int .u8)) kResp))) (.pair (.sl 4 .bool) (.pair (.sl 113 (.pair (.int .i64) (.pair kReq (.rs 5 (.int .u8))))) (.pair (.sl 130 kHeld) (.sl 3 (.int .i64))))))) true]
abbrev r_s_l18Event_r0_0_r95_1 : List RK := [.val true kEvent]
noncomputable def D_s_l18Event_r0_0_r95_1 (f : Y_s_l18Event_r0_0_r95_1) : Nat × Fn := (110, ⟨p_s_l18Event_r0_0_r95_1, r_s_l18Event_r0_0_r95_1, fun x => f x.1 x.2.1⟩)
noncomputable def F_s_l18Event_r0_0_r95_1 : Fn := (D_s_l18Event_r0_0_r95_1 P_s_l18Event_r0_0_r95_1).2
theorem E_s_l18Event_r0_0_r95_1 (f_s_l1Once : Y_s_l1Once) (f_s_l1Below : Y_s_l1Below) : ∀ x, (mkFn cfg [D_s_l1Once_r0_0 f_s_l1Once, D_s_l1Below_r0_0 f_s_l1Below] A_s_l18Event_r0_0_r95_1 65 [.cell 4 77] (Tryz.f110.body.getD .skip) p_s_l18Event_r0_0_r95_1 r_s_l18Event_r0_0_r95_1).fn x = B_s_l18Event_r0_0_r95_1 f_s_l1Once f_s_l1Below x.1 x.2.1 := by intro x; kernel_rfl
theorem S_s_l18Event_r0_0_r95_1 : Sound Tryz.prog 110 F_s_l18Event_r0_0_r95_1 := sm MO cfg_ok (tc Tryz.call84 S_s_l1Once_r0_0 (tc Tryz.call86 S_s_l1Below_r0_0 tab_nil)) Tryz.func110 (by kernel_rfl) (by decide) (E_s_l18Event_r0_0_r95_1 P_s_l1Once P_s_l1Below)
def A_s_l18Draw_r0_0_r99_0 : Nat → Option Jn := lookN [(15, ⟨[.t 5 false [.own 100000000], .b 1000 [.ro 5 (.int .u8), .int .i64, .int .i64], .r 100000000 79 kClient], lt 12 21 [.r 10, .r 13, .r 27, .r 31, .r 32, .r 122880, .r 126977, .t 7, .x 23], true⟩), (122, ⟨[.t 5 false [.own 100000000], .t 7 false [.int .i64], .b 1000 [.ro 5 (.int .u8), .int .i64, .int .i64], .r 100000000 79 kClient], lt 15 18 [.r 10, .r 27, .r 31, .r 32, .r 122880, .r 126977, .x 23], false⟩), (506, ⟨[.t 9 false [.int .i64], .b 8 [.ro 9 .str, .ro 9 .str, .int .i64, .int .i64, .ro 109 (.pair .str (.pair (.int .i64) (.pair (.rs 5 (.int .u8)) .bool))), .own 100002001, .own 100002002, .own 100002003, .own 100002004, .own 100002005, .own 100002006], .b 1000 [.ro 5 (.int .u8), .int .i64, .int .i64], .r 100002001 130 kHeld, .r 100002002 79 (.pair .str (.pair (.rs 5 (.int .u8)) kResp)), .r 100002003 4 .bool, .r 100002004 113 (.pair (.int .i64) (.pair kReq (.rs 5 (.int .u8)))), .r 100002005 130 kHeld, .r 100002006 3 (.int .i64)], lt 38 8 [.r 143360, .r 143361, .r 143364, .r 143365, .r 143366, .r 143367, .r 143368, .r 143369, .r 143370, .r 184322, .r 190469, .r 190470, .r 190471, .r 190472, .r 190473, .r 190474, .t 34], false⟩)]
abbrev p_s_l18Draw_r0_0_r99_0 : List PK := [.ptr (.pair (.rs 5 (.int .u8)) kResp), .val false (.int .i64) false]
abbrev r_s_l18Draw_r0_0_r99_0 : List RK := [.val true (.pair (.pair (.pair (.pair (.rs 9 .str) (.rs 9 .str)) (.pair (.int .i64) (.pair (.int .i64) (.rs 109 kUp)))) (.sl 130 kHeld)) (.pair (.sl 79 (.pair .str (.pair (.rs 5 (.int .u8)) kResp))) (.pair (.sl 4 .bool) (.pair (.sl 113 (.pair (.int .i64) (.pair kReq (.rs 5 (.int .u8))))) (.pair (.sl 130 kHeld) (.sl 3 (.int .i64)))))))]
noncomputable def D_s_l18Draw_r0_0_r99_0 (f : Y_s_l18Draw_r0_0_r99_0) : Nat × Fn := (68, ⟨p_s_l18Draw_r0_0_r99_0, r_s_l18Draw_r0_0_r99_0, fun x => f x.1 x.2.1⟩)
noncomputable def F_s_l18Draw_r0_0_r99_0 : Fn := (D_s_l18Draw_r0_0_r99_0 P_s_l18Draw_r0_0_r99_0).2
theorem E_s_l18Draw_r0_0_r99_0 (f_s_l1Below : Y_s_l1Below) (f_s_l18Event_r0_0_r95_1 : Y_s_l18Event_r0_0_r95_1) (f_s_l18Do_W : Y_s_l18Do_W) (f_s_l1Int : Y_s_l1Int) (f_s_ClientNew : Y_s_ClientNew) (f_s_l1Bytes_r0_0 : Y_s_l1Bytes_r0_0) (f_s_WorldNew : Y_s_WorldNew) : ∀ x, (mkFn cfg [D_s_l1Below_r0_0 f_s_l1Below, D_s_l18Event_r0_0_r95_1 f_s_l18Event_r0_0_r95_1, D_s_l18Do_W f_s_l18Do_W, D_s_l1Int_r0_0 f_s_l1Int, D_s_ClientNew f_s_ClientNew, D_s_l1Bytes_r0_0 f_s_l1Bytes_r0_0, D_s_WorldNew_r98_0_r99_0 f_s_WorldNew] A_s_l18Draw_r0_0_r99_0 47 [.cell 4 38] (Tryz.f68.body.getD .skip) p_s_l18Draw_r0_0_r99_0 r_s_l18Draw_r0_0_r99_0).fn x = B_s_l18Draw_r0_0_r99_0 f_s_l1Below f_s_l18Event_r0_0_r95_1 f_s_l18Do_W f_s_l1Int f_s_ClientNew f_s_l1Bytes_r0_0 f_s_WorldNew x.1 x.2.1 := by intro x; kernel_rfl
theorem S_s_l18Draw_r0_0_r99_0 : Sound Tryz.prog 68 F_s_l18Draw_r0_0_r99_0 := sm MO cfg_ok (tc Tryz.call86 S_s_l1Below_r0_0 (tc Tryz.call110 S_s_l18Event_r0_0_r95_1 (tc Tryz.call111 S_s_l18Do_W (tc Tryz.call115 S_s_l1Int_r0_0 (tc Tryz.call138 S_s_ClientNew (tc Tryz.call139 S_s_l1Bytes_r0_0 (tc Tryz.call140 S_s_WorldNew_r98_0_r99_0 tab_nil))))))) Tryz.func68 (by kernel_rfl) (by decide) (E_s_l18Draw_r0_0_r99_0 P_s_l1Below P_s_l18Event_r0_0_r95_1 P_s_l18Do_W P_s_l1Int P_s_ClientNew P_s_l1Bytes_r0_0 P_s_WorldNew)
end Go.Proofs.YtpdcljonclhhpaaGreat.Ev
