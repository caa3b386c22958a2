/- Each function of the program does what its plain function says. -/
import Derived.Test.YtpdcljonclhhpaaGreatG2
set_option linter.unusedVariables false
set_option maxRecDepth 100000
namespace Go.Proofs.YtpdcljonclhhpaaGreat.Ev
abbrev p_s_DrawWorld_r99_0 : List PK := [.val false (.rs 5 (.int .u8)) false]
abbrev r_s_DrawWorld_r99_0 : List RK := [.val true (.pair (.pair (.pair (.pair (.rs 9 .str) (.rs 9 .str)) (.pair (.int .i64) (.pair (.int .i64) (.rs 109 kUp)))) (.sl 130 kHeld)) (.pair (.sl 79 (.pair .str (.pair (.rs 5 (.int .u8)) kResp))) (.pair (.sl 4 .bool) (.pair (.sl 113 (.pair (.int .i64) (.pair kReq (.rs 5 (.int .u8))))) (.pair (.sl 130 kHeld) (.sl 3 (.int .i64)))))))]
noncomputable def D_s_DrawWorld_r99_0 (f : Y_s_DrawWorld_r99_0) : Nat × Fn := (16, ⟨p_s_DrawWorld_r99_0, r_s_DrawWorld_r99_0, fun x => f x.1⟩)
noncomputable def F_s_DrawWorld_r99_0 : Fn := (D_s_DrawWorld_r99_0 P_s_DrawWorld_r99_0).2
theorem E_s_DrawWorld_r99_0 (f_s_l1New : Y_s_l1New) (f_s_l18Draw_r0_0_r99_0 : Y_s_l18Draw_r0_0_r99_0) (f_s_l1Size : Y_s_l1Size) : ∀ x, (mkFn cfg [D_s_l1New_r99_0 f_s_l1New, D_s_l18Draw_r0_0_r99_0 f_s_l18Draw_r0_0_r99_0, D_s_l1Size f_s_l1Size] (lookN []) 11 [.cell 2 38] (Tryz.f16.body.getD .skip) p_s_DrawWorld_r99_0 r_s_DrawWorld_r99_0).fn x = B_s_DrawWorld_r99_0 f_s_l1New f_s_l18Draw_r0_0_r99_0 f_s_l1Size x.1 := by intro x; kernel_rfl
theorem S_s_DrawWorld_r99_0 : Sound Tryz.prog 16 F_s_DrawWorld_r99_0 := sm MO cfg_ok (tc Tryz.call67 S_s_l1New_r99_0 (tc Tryz.call68 S_s_l18Draw_r0_0_r99_0 (tc Tryz.call69 S_s_l1Size tab_nil))) Tryz.func16 (by kernel_rfl) (by decide) (E_s_DrawWorld_r99_0 P_s_l1New P_s_l18Draw_r0_0_r99_0 P_s_l1Size)
abbrev p_w_FnTop : List PK := [.val false (.rs 5 (.int .u8)) false]
abbrev r_w_FnTop : List RK := [.val false .bool]
noncomputable def D_w_FnTop (f : Y_w_FnTop) : Nat × Fn := (3, ⟨p_w_FnTop, r_w_FnTop, fun x => f x.1⟩)
noncomputable def F_w_FnTop : Fn := (D_w_FnTop P_w_FnTop).2
theorem E_w_FnTop (f_w_big : Y_w_big) (f_s_DrawWorld_r99_0 : Y_s_DrawWorld_r99_0) (f_i_Safe : Y_i_Safe) (f_s_Safe : Y_s_Safe) (f_i_Begins : Y_i_Begins) (f_i_NotLost : Y_i_NotLost) (f_i_Ends : Y_i_Ends) (f_i_NoneFails : Y_i_NoneFails) (f_i_WorldOk : Y_i_WorldOk) : ∀ x, (mkFn cfg [D_w_big f_w_big, D_s_DrawWorld_r99_0 f_s_DrawWorld_r99_0, D_i_Safe f_i_Safe, D_s_Safe f_s_Safe, D_i_Begins f_i_Begins, D_i_NotLost f_i_NotLost, D_i_Ends f_i_Ends, D_i_NoneFails f_i_NoneFails, D_i_WorldOk f_i_WorldOk] (lookN []) 36 [.tmp 2] (Tryz.f3.body.getD .skip) p_w_FnTop r_w_FnTop).fn x = B_w_FnTop f_w_big f_s_DrawWorld_r99_0 f_i_Safe f_s_Safe f_i_Begins f_i_NotLost f_i_Ends f_i_NoneFails f_i_WorldOk x.1 := by intro x; kernel_rfl
theorem S_w_FnTop : Sound Tryz.prog 3 F_w_FnTop := sm MO cfg_ok (tc Tryz.call15 S_w_big (tc Tryz.call16 S_s_DrawWorld_r99_0 (tc Tryz.call17 S_i_Safe (tc Tryz.call18 S_s_Safe (tc Tryz.call19 S_i_Begins (tc Tryz.call20 S_i_NotLost (tc Tryz.call21 S_i_Ends (tc Tryz.call22 S_i_NoneFails (tc Tryz.call23 S_i_WorldOk tab_nil))))))))) Tryz.func3 (by kernel_rfl) (by decide) (E_w_FnTop P_w_big P_s_DrawWorld_r99_0 P_i_Safe P_s_Safe P_i_Begins P_i_NotLost P_i_Ends P_i_NoneFails P_i_WorldOk)
end Go.Proofs.YtpdcljonclhhpaaGreat.Ev
