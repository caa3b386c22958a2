/- Each function of the program does what its plain function says. -/
import Derived.Test.YtehbegmomfcmhaaG2
set_option linter.unusedVariables false
set_option maxRecDepth 100000
namespace Go.Proofs.Ytehbegmomfcmhaa.Ev
abbrev p_s_DrawStore_r99_0 : List PK := [.val false (.rs 5 (.int .u8)) false]
abbrev r_s_DrawStore_r99_0 : List RK := [.val true (.pair (.pair (.rs 9 .str) (.rs 9 .str)) (.pair (.int .i64) (.pair (.int .i64) (.rs 56 kUp))))]
noncomputable def D_s_DrawStore_r99_0 (f : Y_s_DrawStore_r99_0) : Nat × Fn := (46, ⟨p_s_DrawStore_r99_0, r_s_DrawStore_r99_0, fun x => f x.1⟩)
noncomputable def F_s_DrawStore_r99_0 : Fn := (D_s_DrawStore_r99_0 P_s_DrawStore_r99_0).2
theorem E_s_DrawStore_r99_0 (f_s_l1New : Y_s_l1New) (f_s_l1Size : Y_s_l1Size) (f_s_l14Draw_r0_0_r99_0 : Y_s_l14Draw_r0_0_r99_0) : ∀ x, (mkFn cfg [D_s_l1New_r99_0 f_s_l1New, D_s_l1Size f_s_l1Size, D_s_l14Draw_r0_0_r99_0 f_s_l14Draw_r0_0_r99_0] (lookN []) 11 [.cell 2 36] (Try.f46.body.getD .skip) p_s_DrawStore_r99_0 r_s_DrawStore_r99_0).fn x = B_s_DrawStore_r99_0 f_s_l1New f_s_l1Size f_s_l14Draw_r0_0_r99_0 x.1 := by intro x; kernel_rfl
theorem S_s_DrawStore_r99_0 : Sound Try.prog 46 F_s_DrawStore_r99_0 := sm MO cfg_ok (tc Try.call72 S_s_l1New_r99_0 (tc Try.call74 S_s_l1Size (tc Try.call93 S_s_l14Draw_r0_0_r99_0 tab_nil))) Try.func46 (by kernel_rfl) (by decide) (E_s_DrawStore_r99_0 P_s_l1New P_s_l1Size P_s_l14Draw_r0_0_r99_0)
def A_s_DrawKept_r99_0 : Nat → Option Jn := lookN [(122, ⟨[.t 4 false [.own 100000000], .t 5 false [.int .i64], .b 32768 [.ro 5 (.int .u8), .int .i64, .int .i64], .r 100000000 4 .bool], lt 9 9 [.r 8, .r 16, .r 17], false⟩)]
abbrev p_s_DrawKept_r99_0 : List PK := [.val false (.rs 5 (.int .u8)) false]
abbrev r_s_DrawKept_r99_0 : List RK := [.val false (.sl 4 .bool)]
noncomputable def D_s_DrawKept_r99_0 (f : Y_s_DrawKept_r99_0) : Nat × Fn := (47, ⟨p_s_DrawKept_r99_0, r_s_DrawKept_r99_0, fun x => f x.1⟩)
noncomputable def F_s_DrawKept_r99_0 : Fn := (D_s_DrawKept_r99_0 P_s_DrawKept_r99_0).2
theorem E_s_DrawKept_r99_0 (f_s_l1New : Y_s_l1New) (f_s_l1Once : Y_s_l1Once) : ∀ x, (mkFn cfg [D_s_l1New_r99_0 f_s_l1New, D_s_l1Once_r0_0 f_s_l1Once] A_s_DrawKept_r99_0 19 [.tmp 2] (Try.f47.body.getD .skip) p_s_DrawKept_r99_0 r_s_DrawKept_r99_0).fn x = B_s_DrawKept_r99_0 f_s_l1New f_s_l1Once x.1 := by intro x; kernel_rfl
theorem S_s_DrawKept_r99_0 : Sound Try.prog 47 F_s_DrawKept_r99_0 := sm MO cfg_ok (tc Try.call72 S_s_l1New_r99_0 (tc Try.call75 S_s_l1Once_r0_0 tab_nil)) Try.func47 (by kernel_rfl) (by decide) (E_s_DrawKept_r99_0 P_s_l1New P_s_l1Once)
def A_w_FnDurable : Nat → Option Jn := lookN [(127, ⟨[], lt 39 25 [], false⟩), (255, ⟨[], lt 64 54 (lt 8 3 [.b 9, .r 327682, .x 76, .x 90, .x 101, .x 112]), false⟩), (2042, ⟨[.t 8 false [.int .i64]], lt 64 54 [.b 9, .r 327682, .t 9, .t 10, .x 76, .x 90, .x 101, .x 112], false⟩)]
abbrev p_w_FnDurable : List PK := [.val false (.rs 5 (.int .u8)) false]
abbrev r_w_FnDurable : List RK := [.val false .bool]
noncomputable def D_w_FnDurable (f : Y_w_FnDurable) : Nat × Fn := (10, ⟨p_w_FnDurable, r_w_FnDurable, fun x => f x.1⟩)
noncomputable def F_w_FnDurable : Fn := (D_w_FnDurable P_w_FnDurable).2
theorem E_w_FnDurable (f_i_MakeUp : Y_i_MakeUp) (f_w_big : Y_w_big) (f_i_UpAt : Y_i_UpAt) (f_i_StoreOk : Y_i_StoreOk) (f_i_OpenStore : Y_i_OpenStore) (f_i_FallDisk : Y_i_FallDisk) (f_i_SyncStore : Y_i_SyncStore) (f_i_PutUp : Y_i_PutUp) (f_w_sameBytes : Y_w_sameBytes) (f_s_DrawStore_r99_0 : Y_s_DrawStore_r99_0) (f_s_DrawKept_r99_0 : Y_s_DrawKept_r99_0) : ∀ x, (mkFn cfg [D_i_MakeUp f_i_MakeUp, D_w_big f_w_big, D_i_UpAt f_i_UpAt, D_i_StoreOk f_i_StoreOk, D_i_OpenStore f_i_OpenStore, D_i_FallDisk f_i_FallDisk, D_i_SyncStore f_i_SyncStore, D_i_PutUp f_i_PutUp, D_w_sameBytes f_w_sameBytes, D_s_DrawStore_r99_0 f_s_DrawStore_r99_0, D_s_DrawKept_r99_0 f_s_DrawKept_r99_0] A_w_FnDurable 143 [.tmp 2] (Try.f10.body.getD .skip) p_w_FnDurable r_w_FnDurable).fn x = B_w_FnDurable f_i_MakeUp f_w_big f_i_UpAt f_i_StoreOk f_i_OpenStore f_i_FallDisk f_i_SyncStore f_i_PutUp f_w_sameBytes f_s_DrawStore_r99_0 f_s_DrawKept_r99_0 x.1 := by intro x; kernel_rfl
theorem S_w_FnDurable : Sound Try.prog 10 F_w_FnDurable := sm MO cfg_ok (tc Try.call19 S_i_MakeUp (tc Try.call23 S_w_big (tc Try.call26 S_i_UpAt (tc Try.call28 S_i_StoreOk (tc Try.call32 S_i_OpenStore (tc Try.call34 S_i_FallDisk (tc Try.call35 S_i_SyncStore (tc Try.call39 S_i_PutUp (tc Try.call41 S_w_sameBytes (tc Try.call46 S_s_DrawStore_r99_0 (tc Try.call47 S_s_DrawKept_r99_0 tab_nil))))))))))) Try.func10 (by kernel_rfl) (by decide) (E_w_FnDurable P_i_MakeUp P_w_big P_i_UpAt P_i_StoreOk P_i_OpenStore P_i_FallDisk P_i_SyncStore P_i_PutUp P_w_sameBytes P_s_DrawStore_r99_0 P_s_DrawKept_r99_0)
end Go.Proofs.Ytehbegmomfcmhaa.Ev
