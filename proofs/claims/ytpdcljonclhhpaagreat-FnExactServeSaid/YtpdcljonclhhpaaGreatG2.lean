/- Each function of the program does what its plain function says. -/
import Derived.Test.YtpdcljonclhhpaaGreatG1
import Derived.Test.YtpdcljonclhhpaaGreatFind
set_option linter.unusedVariables false
set_option maxRecDepth 100000
namespace Go.Proofs.YtpdcljonclhhpaaGreat.Ev
def A_i_Store_makeUp : Nat → Option Jn := lookN [(3, ⟨[], lt 9 8 [], false⟩)]
abbrev p_i_Store_makeUp : List PK := [.ptr kStore, .val false .str false, .val false (.int .i64) false]
abbrev r_i_Store_makeUp : List RK := [.val false (.int .i64)]
noncomputable def D_i_Store_makeUp (f : Y_i_Store_makeUp) : Nat × Fn := (222, ⟨p_i_Store_makeUp, r_i_Store_makeUp, fun x => f x.1 x.2.1 x.2.2.1⟩)
noncomputable def F_i_Store_makeUp : Fn := (D_i_Store_makeUp P_i_Store_makeUp).2
theorem E_i_Store_makeUp (f_i_inRange : Y_i_inRange) (f_i_idOk : Y_i_idOk) (f_i_Store_left : Y_i_Store_left) (f_i_Store_write_r97_0 : Y_i_Store_write_r97_0) (f_i_Store_find : Y_i_Store_find) : ∀ x, (mkFn (cfg.withPk 276 ⟨kUp, 4, f_i_Store_find⟩) [D_i_inRange f_i_inRange, D_i_idOk f_i_idOk, D_i_Store_left f_i_Store_left, D_i_Store_write_r97_0 f_i_Store_write_r97_0] A_i_Store_makeUp 39 [.tmp 6] (Tryz.f222.body.getD .skip) p_i_Store_makeUp r_i_Store_makeUp).fn x = B_i_Store_makeUp f_i_inRange f_i_idOk f_i_Store_left f_i_Store_write_r97_0 f_i_Store_find x.1 x.2.1 x.2.2.1 := by intro x; kernel_rfl
theorem S_i_Store_makeUp : Sound Tryz.prog 222 F_i_Store_makeUp := sm MO (withPk_ok cfg_ok (fun args w => Tryz.call276 args w) S_i_Store_find) (tc Tryz.call80 S_i_inRange (tc Tryz.call147 S_i_idOk (tc Tryz.call277 S_i_Store_left (tc Tryz.call278 S_i_Store_write_r97_0 tab_nil)))) Tryz.func222 (by kernel_rfl) (by decide) (E_i_Store_makeUp P_i_inRange P_i_idOk P_i_Store_left P_i_Store_write_r97_0 P_i_Store_find)
def A_i_Store_putUp : Nat → Option Jn := lookN [(3, ⟨[], lt 12 9 [], false⟩), (15, ⟨[.b 1000 [.own 215040, .own 215041, .int .i64, .int .i64, .own 215044], .r 215040 9 .str, .r 215041 9 .str, .r 215044 109 kUp], lt 27 31 [.r 1000, .r 1001, .r 1004], false⟩), (243, ⟨[.t 30 false [.bool]], lt 31 18 [], true⟩), (250, ⟨[.b 6 [.int .i64], .b 1000 [.own 100003000, .own 100003001, .int .i64, .int .i64, .own 100003002], .r 100003000 9 .str, .r 100003001 9 .str, .r 100003002 109 kUp], lt 60 10 [.r 215040, .r 215041, .r 215044, .r 272384, .r 272385, .r 272388, .t 11], false⟩)]
abbrev p_i_Store_putUp : List PK := [.ptr kStore, .val false .str false, .val false (.int .i64) false, .val false (.rs 5 (.int .u8)) false]
abbrev r_i_Store_putUp : List RK := [.val false (.int .i64)]
noncomputable def D_i_Store_putUp (f : Y_i_Store_putUp) : Nat × Fn := (223, ⟨p_i_Store_putUp, r_i_Store_putUp, fun x => f x.1 x.2.1 x.2.2.1 x.2.2.2.1⟩)
noncomputable def F_i_Store_putUp : Fn := (D_i_Store_putUp P_i_Store_putUp).2
theorem E_i_Store_putUp (f_i_inRange : Y_i_inRange) (f_i_idOk : Y_i_idOk) (f_i_Store_left : Y_i_Store_left) (f_i_Store_write_r97_0 : Y_i_Store_write_r97_0) (f_i_Store_find : Y_i_Store_find) : ∀ x, (mkFn (((cfg.withPk 276 ⟨kUp, 4, f_i_Store_find⟩).withCk 279 304).withPt [244]) [D_i_inRange f_i_inRange, D_i_idOk f_i_idOk, D_i_Store_left f_i_Store_left, D_i_Store_write_r97_0 f_i_Store_write_r97_0] A_i_Store_putUp 70 [.tmp 8] (Tryz.f223.body.getD .skip) p_i_Store_putUp r_i_Store_putUp).fn x = B_i_Store_putUp f_i_inRange f_i_idOk f_i_Store_left f_i_Store_write_r97_0 f_i_Store_find x.1 x.2.1 x.2.2.1 x.2.2.2.1 := by intro x; kernel_rfl
theorem S_i_Store_putUp : Sound Tryz.prog 223 F_i_Store_putUp := sm MO (withPt_ok (l := [244]) (withCk_ok (withPk_ok cfg_ok (fun args w => Tryz.call276 args w) S_i_Store_find) (fun args w => Tryz.call279 args w) S_Chunk) ⟨⟨_, Tryz.underlying244, rfl⟩, trivial⟩) (tc Tryz.call80 S_i_inRange (tc Tryz.call147 S_i_idOk (tc Tryz.call277 S_i_Store_left (tc Tryz.call278 S_i_Store_write_r97_0 tab_nil)))) Tryz.func223 (by kernel_rfl) (by decide) (E_i_Store_putUp P_i_inRange P_i_idOk P_i_Store_left P_i_Store_write_r97_0 P_i_Store_find)
abbrev p_i_Server_told : List PK := [.ptr kServer, .val false (.int .i64) false, .val false .str false]
abbrev r_i_Server_told : List RK := [.val true kResp]
noncomputable def D_i_Server_told (f : Y_i_Server_told) : Nat × Fn := (224, ⟨p_i_Server_told, r_i_Server_told, fun x => f x.1 x.2.1 x.2.2.1⟩)
noncomputable def F_i_Server_told : Fn := (D_i_Server_told P_i_Server_told).2
theorem E_i_Server_told (f_i_Store_find : Y_i_Store_find) : ∀ x, (mkFn (cfg.withPk 276 ⟨kUp, 4, f_i_Store_find⟩) [] (lookN []) 22 [.cell 6 126] (Tryz.f224.body.getD .skip) p_i_Server_told r_i_Server_told).fn x = B_i_Server_told f_i_Store_find x.1 x.2.1 x.2.2.1 := by intro x; kernel_rfl
theorem S_i_Server_told : Sound Tryz.prog 224 F_i_Server_told := sm MO (withPk_ok cfg_ok (fun args w => Tryz.call276 args w) S_i_Store_find) tab_nil Tryz.func224 (by kernel_rfl) (by decide) (E_i_Server_told P_i_Store_find)
def A_i_Store_doneUp : Nat → Option Jn := lookN [(15, ⟨[.b 7 [.str, .int .i64, .any, .bool], .b 1000 [.own 100000000, .own 100000001, .int .i64, .int .i64, .own 100000002], .r 100000000 9 .str, .r 100000001 9 .str, .r 100000002 109 kUp], lt 18 25 [.r 1000, .r 1001, .r 1004, .r 169984, .r 169985, .r 169988], false⟩)]
abbrev p_i_Store_doneUp : List PK := [.ptr kStore, .val false .str false, .val false (.int .i64) false]
abbrev r_i_Store_doneUp : List RK := [.val false (.int .i64)]
noncomputable def D_i_Store_doneUp (f : Y_i_Store_doneUp) : Nat × Fn := (225, ⟨p_i_Store_doneUp, r_i_Store_doneUp, fun x => f x.1 x.2.1 x.2.2.1⟩)
noncomputable def F_i_Store_doneUp : Fn := (D_i_Store_doneUp P_i_Store_doneUp).2
theorem E_i_Store_doneUp (f_i_idOk : Y_i_idOk) (f_i_Store_left : Y_i_Store_left) (f_i_Store_write_r97_0 : Y_i_Store_write_r97_0) (f_i_Crc : Y_i_Crc) (f_i_Store_find : Y_i_Store_find) : ∀ x, (mkFn (cfg.withPk 276 ⟨kUp, 4, f_i_Store_find⟩) [D_i_idOk f_i_idOk, D_i_Store_left f_i_Store_left, D_i_Store_write_r97_0 f_i_Store_write_r97_0, D_i_Crc f_i_Crc] A_i_Store_doneUp 49 [.tmp 6] (Tryz.f225.body.getD .skip) p_i_Store_doneUp r_i_Store_doneUp).fn x = B_i_Store_doneUp f_i_idOk f_i_Store_left f_i_Store_write_r97_0 f_i_Crc f_i_Store_find x.1 x.2.1 x.2.2.1 := by intro x; kernel_rfl
theorem S_i_Store_doneUp : Sound Tryz.prog 225 F_i_Store_doneUp := sm MO (withPk_ok cfg_ok (fun args w => Tryz.call276 args w) S_i_Store_find) (tc Tryz.call147 S_i_idOk (tc Tryz.call277 S_i_Store_left (tc Tryz.call278 S_i_Store_write_r97_0 (tc Tryz.call280 S_i_Crc tab_nil)))) Tryz.func225 (by kernel_rfl) (by decide) (E_i_Store_doneUp P_i_idOk P_i_Store_left P_i_Store_write_r97_0 P_i_Crc P_i_Store_find)
abbrev p_i_Store_dropUp : List PK := [.ptr kStore, .val false .str false]
abbrev r_i_Store_dropUp : List RK := [.val false (.int .i64)]
noncomputable def D_i_Store_dropUp (f : Y_i_Store_dropUp) : Nat × Fn := (226, ⟨p_i_Store_dropUp, r_i_Store_dropUp, fun x => f x.1 x.2.1⟩)
noncomputable def F_i_Store_dropUp : Fn := (D_i_Store_dropUp P_i_Store_dropUp).2
theorem E_i_Store_dropUp (f_i_idOk : Y_i_idOk) (f_i_Store_left : Y_i_Store_left) (f_i_Store_write_r97_0 : Y_i_Store_write_r97_0) (f_i_Store_find : Y_i_Store_find) : ∀ x, (mkFn (cfg.withPk 276 ⟨kUp, 4, f_i_Store_find⟩) [D_i_idOk f_i_idOk, D_i_Store_left f_i_Store_left, D_i_Store_write_r97_0 f_i_Store_write_r97_0] (lookN []) 24 [.tmp 4] (Tryz.f226.body.getD .skip) p_i_Store_dropUp r_i_Store_dropUp).fn x = B_i_Store_dropUp f_i_idOk f_i_Store_left f_i_Store_write_r97_0 f_i_Store_find x.1 x.2.1 := by intro x; kernel_rfl
theorem S_i_Store_dropUp : Sound Tryz.prog 226 F_i_Store_dropUp := sm MO (withPk_ok cfg_ok (fun args w => Tryz.call276 args w) S_i_Store_find) (tc Tryz.call147 S_i_idOk (tc Tryz.call277 S_i_Store_left (tc Tryz.call278 S_i_Store_write_r97_0 tab_nil))) Tryz.func226 (by kernel_rfl) (by decide) (E_i_Store_dropUp P_i_idOk P_i_Store_left P_i_Store_write_r97_0 P_i_Store_find)
def A_i_Server_look : Nat → Option Jn := lookN [(115, ⟨[.t 20 false [.bool]], lt 21 8 [], true⟩)]
abbrev p_i_Server_look : List PK := [.ptr kServer, .val true kReq false]
abbrev r_i_Server_look : List RK := [.val true kResp]
noncomputable def D_i_Server_look (f : Y_i_Server_look) : Nat × Fn := (227, ⟨p_i_Server_look, r_i_Server_look, fun x => f x.1 x.2.1⟩)
noncomputable def F_i_Server_look : Fn := (D_i_Server_look P_i_Server_look).2
theorem E_i_Server_look (f_i_Server_told : Y_i_Server_told) (f_i_Store_find : Y_i_Store_find) : ∀ x, (mkFn (cfg.withPk 276 ⟨kUp, 4, f_i_Store_find⟩) [D_i_Server_told f_i_Server_told] A_i_Server_look 37 [.cell 4 126] (Tryz.f227.body.getD .skip) p_i_Server_look r_i_Server_look).fn x = B_i_Server_look f_i_Server_told f_i_Store_find x.1 x.2.1 := by intro x; kernel_rfl
theorem S_i_Server_look : Sound Tryz.prog 227 F_i_Server_look := sm MO (withPk_ok cfg_ok (fun args w => Tryz.call276 args w) S_i_Store_find) (tc Tryz.call224 S_i_Server_told tab_nil) Tryz.func227 (by kernel_rfl) (by decide) (E_i_Server_look P_i_Server_told P_i_Store_find)
def A_i_Server_refused : Nat → Option Jn := lookN [(107, ⟨[.t 11 false [.bool]], [.t 12, .t 13], true⟩)]
abbrev p_i_Server_refused : List PK := [.ptr kServer, .val false (.int .i64) false, .val false .str false]
abbrev r_i_Server_refused : List RK := [.val true kResp]
noncomputable def D_i_Server_refused (f : Y_i_Server_refused) : Nat × Fn := (228, ⟨p_i_Server_refused, r_i_Server_refused, fun x => f x.1 x.2.1 x.2.2.1⟩)
noncomputable def F_i_Server_refused : Fn := (D_i_Server_refused P_i_Server_refused).2
theorem E_i_Server_refused (f_i_Server_told : Y_i_Server_told) : ∀ x, (mkFn cfg [D_i_Server_told f_i_Server_told] A_i_Server_refused 24 [.cell 6 126] (Tryz.f228.body.getD .skip) p_i_Server_refused r_i_Server_refused).fn x = B_i_Server_refused f_i_Server_told x.1 x.2.1 x.2.2.1 := by intro x; kernel_rfl
theorem S_i_Server_refused : Sound Tryz.prog 228 F_i_Server_refused := sm MO cfg_ok (tc Tryz.call224 S_i_Server_told tab_nil) Tryz.func228 (by kernel_rfl) (by decide) (E_i_Server_refused P_i_Server_told)
def A_i_Server_answer : Nat → Option Jn := lookN [(15, ⟨[.t 7 false [.int .i64], .b 8 [.int .i64, .int .i64], .b 1000 [.own 100000000, .own 100000001, .int .i64, .int .i64, .own 100000002, .own 100000003], .r 100000000 9 .str, .r 100000001 9 .str, .r 100000002 109 kUp, .r 100000003 130 kHeld], lt 15 46 [.r 1000, .r 1001, .r 1004, .r 1005, .r 104448, .r 104449, .r 104452, .r 153600, .r 153601, .r 153604, .r 169984, .r 169985, .r 169988, .r 169989, .r 210944, .r 210945, .r 210948, .r 247808, .r 247809, .r 247812, .t 10, .t 11], false⟩)]
abbrev p_i_Server_answer : List PK := [.ptr kServer, .val true kReq false, .val false (.rs 5 (.int .u8)) false]
abbrev r_i_Server_answer : List RK := [.val true kResp]
noncomputable def D_i_Server_answer (f : Y_i_Server_answer) : Nat × Fn := (156, ⟨p_i_Server_answer, r_i_Server_answer, fun x => f x.1 x.2.1 x.2.2.1⟩)
noncomputable def F_i_Server_answer : Fn := (D_i_Server_answer P_i_Server_answer).2
theorem E_i_Server_answer (f_i_Store_makeUp : Y_i_Store_makeUp) (f_i_Store_putUp : Y_i_Store_putUp) (f_i_Server_told : Y_i_Server_told) (f_i_Store_doneUp : Y_i_Store_doneUp) (f_i_Store_dropUp : Y_i_Store_dropUp) (f_i_Server_look : Y_i_Server_look) (f_i_Server_refused : Y_i_Server_refused) : ∀ x, (mkFn cfg [D_i_Store_makeUp f_i_Store_makeUp, D_i_Store_putUp f_i_Store_putUp, D_i_Server_told f_i_Server_told, D_i_Store_doneUp f_i_Store_doneUp, D_i_Store_dropUp f_i_Store_dropUp, D_i_Server_look f_i_Server_look, D_i_Server_refused f_i_Server_refused] A_i_Server_answer 69 [.cell 6 126] (Tryz.f156.body.getD .skip) p_i_Server_answer r_i_Server_answer).fn x = B_i_Server_answer f_i_Store_makeUp f_i_Store_putUp f_i_Server_told f_i_Store_doneUp f_i_Store_dropUp f_i_Server_look f_i_Server_refused x.1 x.2.1 x.2.2.1 := by intro x; kernel_rfl
theorem S_i_Server_answer : Sound Tryz.prog 156 F_i_Server_answer := sm MO cfg_ok (tc Tryz.call222 S_i_Store_makeUp (tc Tryz.call223 S_i_Store_putUp (tc Tryz.call224 S_i_Server_told (tc Tryz.call225 S_i_Store_doneUp (tc Tryz.call226 S_i_Store_dropUp (tc Tryz.call227 S_i_Server_look (tc Tryz.call228 S_i_Server_refused tab_nil))))))) Tryz.func156 (by kernel_rfl) (by decide) (E_i_Server_answer P_i_Store_makeUp P_i_Store_putUp P_i_Server_told P_i_Store_doneUp P_i_Store_dropUp P_i_Server_look P_i_Server_refused)
def A_i_Server_serve : Nat → Option Jn := lookN [(3, ⟨[], lt 10 11 [], false⟩)]
abbrev p_i_Server_serve : List PK := [.ptr kServer, .val false (.int .i64) false, .val true kReq false, .val false (.rs 5 (.int .u8)) false]
abbrev r_i_Server_serve : List RK := [.val false .bool]
noncomputable def D_i_Server_serve (f : Y_i_Server_serve) : Nat × Fn := (88, ⟨p_i_Server_serve, r_i_Server_serve, fun x => f x.1 x.2.1 x.2.2.1 x.2.2.2.1⟩)
noncomputable def F_i_Server_serve : Fn := (D_i_Server_serve P_i_Server_serve).2
theorem E_i_Server_serve (f_i_ReqOk : Y_i_ReqOk) (f_i_Server_answer : Y_i_Server_answer) : ∀ x, (mkFn cfg [D_i_ReqOk f_i_ReqOk, D_i_Server_answer f_i_Server_answer] A_i_Server_serve 37 [.tmp 8] (Tryz.f88.body.getD .skip) p_i_Server_serve r_i_Server_serve).fn x = B_i_Server_serve f_i_ReqOk f_i_Server_answer x.1 x.2.1 x.2.2.1 x.2.2.2.1 := by intro x; kernel_rfl
theorem S_i_Server_serve : Sound Tryz.prog 88 F_i_Server_serve := sm MO cfg_ok (tc Tryz.call79 S_i_ReqOk (tc Tryz.call156 S_i_Server_answer tab_nil)) Tryz.func88 (by kernel_rfl) (by decide) (E_i_Server_serve P_i_ReqOk P_i_Server_answer)
abbrev p_i_Serve : List PK := [.val true (.pair (.pair (.pair (.rs 9 .str) (.rs 9 .str)) (.pair (.int .i64) (.pair (.int .i64) (.rs 109 kUp)))) (.rs 130 kHeld)) false, .val false (.int .i64) false, .val true kReq false, .val false (.rs 5 (.int .u8)) false]
abbrev r_i_Serve : List RK := [.val true kServer, .val false .bool]
noncomputable def D_i_Serve (f : Y_i_Serve) : Nat × Fn := (25, ⟨p_i_Serve, r_i_Serve, fun x => f x.1 x.2.1 x.2.2.1 x.2.2.2.1⟩)
noncomputable def F_i_Serve : Fn := (D_i_Serve P_i_Serve).2
theorem E_i_Serve (f_i_ServerOk : Y_i_ServerOk) (f_i_copyServer : Y_i_copyServer) (f_i_Server_serve : Y_i_Server_serve) : ∀ x, (mkFn cfg [D_i_ServerOk f_i_ServerOk, D_i_copyServer f_i_copyServer, D_i_Server_serve f_i_Server_serve] (lookN []) 24 [.cell 8 32, .tmp 9] (Tryz.f25.body.getD .skip) p_i_Serve r_i_Serve).fn x = B_i_Serve f_i_ServerOk f_i_copyServer f_i_Server_serve x.1 x.2.1 x.2.2.1 x.2.2.2.1 := by intro x; kernel_rfl
theorem S_i_Serve : Sound Tryz.prog 25 F_i_Serve := sm MO cfg_ok (tc Tryz.call28 S_i_ServerOk (tc Tryz.call87 S_i_copyServer (tc Tryz.call88 S_i_Server_serve tab_nil))) Tryz.func25 (by kernel_rfl) (by decide) (E_i_Serve P_i_ServerOk P_i_copyServer P_i_Server_serve)
abbrev p_s_l12Copy : List PK := [.val true (.pair (.rs 9 .str) (.rs 9 .str)) false]
abbrev r_s_l12Copy : List RK := [.val true kDisk]
noncomputable def D_s_l12Copy (f : Y_s_l12Copy) : Nat × Fn := (229, ⟨p_s_l12Copy, r_s_l12Copy, fun x => f x.1⟩)
noncomputable def F_s_l12Copy : Fn := (D_s_l12Copy P_s_l12Copy).2
theorem E_s_l12Copy : ∀ x, (mkFn cfg [] (lookN []) 12 [.cell 2 26] (Tryz.f229.body.getD .skip) p_s_l12Copy r_s_l12Copy).fn x = B_s_l12Copy x.1 := by intro x; kernel_rfl
theorem S_s_l12Copy : Sound Tryz.prog 229 F_s_l12Copy := sm MO cfg_ok tab_nil Tryz.func229 (by kernel_rfl) (by decide) (E_s_l12Copy)
def A_s_l14CopyUps : Nat → Option Jn := lookN [(58, ⟨[.t 3 false [.own 100000000], .t 4 false [.int .i64], .r 100000000 109 kUp], lt 7 19 [.b 5, .r 6, .r 17, .r 20, .r 24, .r 25, .t 5], false⟩)]
abbrev p_s_l14CopyUps : List PK := [.val false (.rs 109 kUp) false]
abbrev r_s_l14CopyUps : List RK := [.val false (.sl 109 kUp)]
noncomputable def D_s_l14CopyUps (f : Y_s_l14CopyUps) : Nat × Fn := (230, ⟨p_s_l14CopyUps, r_s_l14CopyUps, fun x => f x.1⟩)
noncomputable def F_s_l14CopyUps : Fn := (D_s_l14CopyUps P_s_l14CopyUps).2
theorem E_s_l14CopyUps : ∀ x, (mkFn cfg [] A_s_l14CopyUps 27 [.tmp 2] (Tryz.f230.body.getD .skip) p_s_l14CopyUps r_s_l14CopyUps).fn x = B_s_l14CopyUps x.1 := by intro x; kernel_rfl
theorem S_s_l14CopyUps : Sound Tryz.prog 230 F_s_l14CopyUps := sm MO cfg_ok tab_nil Tryz.func230 (by kernel_rfl) (by decide) (E_s_l14CopyUps)
abbrev p_s_l14Copy : List PK := [.val true (.pair (.pair (.rs 9 .str) (.rs 9 .str)) (.pair (.int .i64) (.pair (.int .i64) (.rs 109 kUp)))) false]
abbrev r_s_l14Copy : List RK := [.val true kStore]
noncomputable def D_s_l14Copy (f : Y_s_l14Copy) : Nat × Fn := (157, ⟨p_s_l14Copy, r_s_l14Copy, fun x => f x.1⟩)
noncomputable def F_s_l14Copy : Fn := (D_s_l14Copy P_s_l14Copy).2
theorem E_s_l14Copy (f_s_l12Copy : Y_s_l12Copy) (f_s_l14CopyUps : Y_s_l14CopyUps) : ∀ x, (mkFn cfg [D_s_l12Copy f_s_l12Copy, D_s_l14CopyUps f_s_l14CopyUps] (lookN []) 14 [.cell 2 29] (Tryz.f157.body.getD .skip) p_s_l14Copy r_s_l14Copy).fn x = B_s_l14Copy f_s_l12Copy f_s_l14CopyUps x.1 := by intro x; kernel_rfl
theorem S_s_l14Copy : Sound Tryz.prog 157 F_s_l14Copy := sm MO cfg_ok (tc Tryz.call229 S_s_l12Copy (tc Tryz.call230 S_s_l14CopyUps tab_nil)) Tryz.func157 (by kernel_rfl) (by decide) (E_s_l14Copy P_s_l12Copy P_s_l14CopyUps)
abbrev p_s_l15Copy : List PK := [.val true (.pair (.pair (.pair (.rs 9 .str) (.rs 9 .str)) (.pair (.int .i64) (.pair (.int .i64) (.rs 109 kUp)))) (.rs 130 kHeld)) false]
abbrev r_s_l15Copy : List RK := [.val true kServer]
noncomputable def D_s_l15Copy (f : Y_s_l15Copy) : Nat × Fn := (89, ⟨p_s_l15Copy, r_s_l15Copy, fun x => f x.1⟩)
noncomputable def F_s_l15Copy : Fn := (D_s_l15Copy P_s_l15Copy).2
theorem E_s_l15Copy (f_s_l14Copy : Y_s_l14Copy) : ∀ x, (mkFn cfg [D_s_l14Copy f_s_l14Copy] (lookN []) 11 [.cell 2 32] (Tryz.f89.body.getD .skip) p_s_l15Copy r_s_l15Copy).fn x = B_s_l15Copy f_s_l14Copy x.1 := by intro x; kernel_rfl
theorem S_s_l15Copy : Sound Tryz.prog 89 F_s_l15Copy := sm MO cfg_ok (tc Tryz.call157 S_s_l14Copy tab_nil) Tryz.func89 (by kernel_rfl) (by decide) (E_s_l15Copy P_s_l14Copy)
abbrev p_s_l1In : List PK := [.val false (.int .i64) false, .val false (.int .i64) false, .val false (.int .i64) false]
abbrev r_s_l1In : List RK := [.val false .bool]
noncomputable def D_s_l1In (f : Y_s_l1In) : Nat × Fn := (120, ⟨p_s_l1In, r_s_l1In, fun x => f x.1 x.2.1 x.2.2.1⟩)
noncomputable def F_s_l1In : Fn := (D_s_l1In P_s_l1In).2
theorem E_s_l1In : ∀ x, (mkFn cfg [] (lookN []) 15 [.tmp 6] (Tryz.f120.body.getD .skip) p_s_l1In r_s_l1In).fn x = B_s_l1In x.1 x.2.1 x.2.2.1 := by intro x; kernel_rfl
theorem S_s_l1In : Sound Tryz.prog 120 F_s_l1In := sm MO cfg_ok tab_nil Tryz.func120 (by kernel_rfl) (by decide) (E_s_l1In)
abbrev p_s_RespOk : List PK := [.val true kResp false]
abbrev r_s_RespOk : List RK := [.val false .bool]
noncomputable def D_s_RespOk (f : Y_s_RespOk) : Nat × Fn := (158, ⟨p_s_RespOk, r_s_RespOk, fun x => f x.1⟩)
noncomputable def F_s_RespOk : Fn := (D_s_RespOk P_s_RespOk).2
theorem E_s_RespOk (f_s_l1In : Y_s_l1In) : ∀ x, (mkFn cfg [D_s_l1In f_s_l1In] (lookN []) 11 [.tmp 2] (Tryz.f158.body.getD .skip) p_s_RespOk r_s_RespOk).fn x = B_s_RespOk f_s_l1In x.1 := by intro x; kernel_rfl
theorem S_s_RespOk : Sound Tryz.prog 158 F_s_RespOk := sm MO cfg_ok (tc Tryz.call120 S_s_l1In tab_nil) Tryz.func158 (by kernel_rfl) (by decide) (E_s_RespOk P_s_l1In)
def A_s_DiskOk : Nat → Option Jn := lookN [(3, ⟨[], lt 4 13 [], false⟩), (58, ⟨[.t 3 false [.int .i64]], lt 17 23 [], false⟩)]
abbrev p_s_DiskOk : List PK := [.val true (.pair (.rs 9 .str) (.rs 9 .str)) false]
abbrev r_s_DiskOk : List RK := [.val false .bool]
noncomputable def D_s_DiskOk (f : Y_s_DiskOk) : Nat × Fn := (231, ⟨p_s_DiskOk, r_s_DiskOk, fun x => f x.1⟩)
noncomputable def F_s_DiskOk : Fn := (D_s_DiskOk P_s_DiskOk).2
theorem E_s_DiskOk : ∀ x, (mkFn cfg [] A_s_DiskOk 40 [.tmp 2] (Tryz.f231.body.getD .skip) p_s_DiskOk r_s_DiskOk).fn x = B_s_DiskOk x.1 := by intro x; kernel_rfl
theorem S_s_DiskOk : Sound Tryz.prog 231 F_s_DiskOk := sm MO cfg_ok tab_nil Tryz.func231 (by kernel_rfl) (by decide) (E_s_DiskOk)
def A_s_GetBig : Nat → Option Jn := lookN [(3, ⟨[], lt 10 15 [], false⟩), (15, ⟨[.t 8 false [.int .i64]], lt 25 15 [.t 9], true⟩), (122, ⟨[.t 8 false [.int .i64], .t 9 false [.int .i64]], lt 25 15 [], false⟩)]
abbrev p_s_GetBig : List PK := [.val false (.rs 5 (.int .u8)) false, .val false (.int .i64) false, .val false (.int .i64) false]
abbrev r_s_GetBig : List RK := [.val false (.int .i64), .val false .bool]
noncomputable def D_s_GetBig (f : Y_s_GetBig) : Nat × Fn := (282, ⟨p_s_GetBig, r_s_GetBig, fun x => f x.1 x.2.1 x.2.2.1⟩)
noncomputable def F_s_GetBig : Fn := (D_s_GetBig P_s_GetBig).2
theorem E_s_GetBig (f_s_l1In : Y_s_l1In) : ∀ x, (mkFn cfg [D_s_l1In f_s_l1In] A_s_GetBig 41 [.tmp 6, .tmp 7] (Tryz.f282.body.getD .skip) p_s_GetBig r_s_GetBig).fn x = B_s_GetBig f_s_l1In x.1 x.2.1 x.2.2.1 := by intro x; kernel_rfl
theorem S_s_GetBig : Sound Tryz.prog 282 F_s_GetBig := sm MO cfg_ok (tc Tryz.call120 S_s_l1In tab_nil) Tryz.func282 (by kernel_rfl) (by decide) (E_s_GetBig P_s_l1In)
def A_s_l11Id : Nat → Option Jn := lookN [(3, ⟨[], lt 3 21 [], false⟩), (26, ⟨[.t 3 false [.int .i64]], lt 4 20 [], false⟩)]
abbrev p_s_l11Id : List PK := [.val false .str false]
abbrev r_s_l11Id : List RK := [.val false .bool]
noncomputable def D_s_l11Id (f : Y_s_l11Id) : Nat × Fn := (160, ⟨p_s_l11Id, r_s_l11Id, fun x => f x.1⟩)
noncomputable def F_s_l11Id : Fn := (D_s_l11Id P_s_l11Id).2
theorem E_s_l11Id (f_s_l1In : Y_s_l1In) : ∀ x, (mkFn cfg [D_s_l1In f_s_l1In] A_s_l11Id 27 [.tmp 2] (Tryz.f160.body.getD .skip) p_s_l11Id r_s_l11Id).fn x = B_s_l11Id f_s_l1In x.1 := by intro x; kernel_rfl
theorem S_s_l11Id : Sound Tryz.prog 160 F_s_l11Id := sm MO cfg_ok (tc Tryz.call120 S_s_l1In tab_nil) Tryz.func160 (by kernel_rfl) (by decide) (E_s_l11Id P_s_l1In)
def A_s_RecOk : Nat → Option Jn := lookN [(3, ⟨[], lt 3 16 [], false⟩), (943, ⟨[.t 43 false [.bool]], [.t 44, .t 45], true⟩)]
abbrev p_s_RecOk : List PK := [.val true (.pair (.int .i64) (.pair (.int .i64) (.pair (.int .i64) (.pair .str (.pair (.int .i64) (.rs 5 (.int .u8))))))) false]
abbrev r_s_RecOk : List RK := [.val false .bool]
noncomputable def D_s_RecOk (f : Y_s_RecOk) : Nat × Fn := (283, ⟨p_s_RecOk, r_s_RecOk, fun x => f x.1⟩)
noncomputable def F_s_RecOk : Fn := (D_s_RecOk P_s_RecOk).2
theorem E_s_RecOk (f_s_l1In : Y_s_l1In) (f_s_l11Id : Y_s_l11Id) : ∀ x, (mkFn cfg [D_s_l1In f_s_l1In, D_s_l11Id f_s_l11Id] A_s_RecOk 55 [.tmp 2] (Tryz.f283.body.getD .skip) p_s_RecOk r_s_RecOk).fn x = B_s_RecOk f_s_l1In f_s_l11Id x.1 := by intro x; kernel_rfl
theorem S_s_RecOk : Sound Tryz.prog 283 F_s_RecOk := sm MO cfg_ok (tc Tryz.call120 S_s_l1In (tc Tryz.call160 S_s_l11Id tab_nil)) Tryz.func283 (by kernel_rfl) (by decide) (E_s_RecOk P_s_l1In P_s_l11Id)
def A_s_Crc : Nat → Option Jn := lookN [(7, ⟨[.t 3 false [.int .i64]], lt 4 28 [], true⟩), (58, ⟨[.t 3 false [.int .i64], .t 4 false [.int .i64]], lt 5 27 [], false⟩), (7462, ⟨[.t 3 false [.int .i64], .t 5 false [.int .i64]], lt 20 12 [.t 6], false⟩)]
abbrev p_s_Crc : List PK := [.val false (.rs 5 (.int .u8)) false]
abbrev r_s_Crc : List RK := [.val false (.int .i64)]
noncomputable def D_s_Crc (f : Y_s_Crc) : Nat × Fn := (152, ⟨p_s_Crc, r_s_Crc, fun x => f x.1⟩)
noncomputable def F_s_Crc : Fn := (D_s_Crc P_s_Crc).2
theorem E_s_Crc : ∀ x, (mkFn cfg [] A_s_Crc 34 [.tmp 2] (Tryz.f152.body.getD .skip) p_s_Crc r_s_Crc).fn x = B_s_Crc x.1 := by intro x; kernel_rfl
theorem S_s_Crc : Sound Tryz.prog 152 F_s_Crc := sm MO cfg_ok tab_nil Tryz.func152 (by kernel_rfl) (by decide) (E_s_Crc)
def A_s_PutBig : Nat → Option Jn := lookN [(7, ⟨[.t 1 false [.int .i64]], [.t 12, .t 13], true⟩), (250, ⟨[.t 7 false [.own 100001000], .t 8 false [.int .i64], .r 100001000 5 (.int .u8)], lt 20 13 [.r 11, .r 31, .r 32], false⟩)]
abbrev p_s_PutBig : List PK := [.val false (.rs 5 (.int .u8)) false, .val false (.int .i64) false, .val false (.int .i64) false]
abbrev r_s_PutBig : List RK := [.val false (.sl 5 (.int .u8))]
noncomputable def D_s_PutBig (f : Y_s_PutBig) : Nat × Fn := (306, ⟨p_s_PutBig, r_s_PutBig, fun x => f x.1 x.2.1 x.2.2.1⟩)
noncomputable def F_s_PutBig : Fn := (D_s_PutBig P_s_PutBig).2
theorem E_s_PutBig (f_s_l1In : Y_s_l1In) : ∀ x, (mkFn cfg [D_s_l1In f_s_l1In] A_s_PutBig 34 [.tmp 6] (Tryz.f306.body.getD .skip) p_s_PutBig r_s_PutBig).fn x = B_s_PutBig f_s_l1In x.1 x.2.1 x.2.2.1 := by intro x; kernel_rfl
theorem S_s_PutBig : Sound Tryz.prog 306 F_s_PutBig := sm MO cfg_ok (tc Tryz.call120 S_s_l1In tab_nil) Tryz.func306 (by kernel_rfl) (by decide) (E_s_PutBig P_s_l1In)
abbrev p_s_l13Put : List PK := [.val true (.pair (.int .i64) (.pair (.int .i64) (.pair (.int .i64) (.pair .str (.pair (.int .i64) (.rs 5 (.int .u8))))))) false]
abbrev r_s_l13Put : List RK := [.val false .str]
noncomputable def D_s_l13Put (f : Y_s_l13Put) : Nat × Fn := (284, ⟨p_s_l13Put, r_s_l13Put, fun x => f x.1⟩)
noncomputable def F_s_l13Put : Fn := (D_s_l13Put P_s_l13Put).2
theorem E_s_l13Put (f_s_Crc : Y_s_Crc) (f_s_PutBig : Y_s_PutBig) : ∀ x, (mkFn cfg [D_s_Crc f_s_Crc, D_s_PutBig f_s_PutBig] (lookN []) 38 [.tmp 2] (Tryz.f284.body.getD .skip) p_s_l13Put r_s_l13Put).fn x = B_s_l13Put f_s_Crc f_s_PutBig x.1 := by intro x; kernel_rfl
theorem S_s_l13Put : Sound Tryz.prog 284 F_s_l13Put := sm MO cfg_ok (tc Tryz.call152 S_s_Crc (tc Tryz.call306 S_s_PutBig tab_nil)) Tryz.func284 (by kernel_rfl) (by decide) (E_s_l13Put P_s_Crc P_s_PutBig)
def A_s_GetRec : Nat → Option Jn := lookN [(255, ⟨[], lt 42 21 [], false⟩), (4095, ⟨[], lt 87 15 [], false⟩)]
abbrev p_s_GetRec : List PK := [.val false .str false]
abbrev r_s_GetRec : List RK := [.val true kRec, .val false .bool]
noncomputable def D_s_GetRec (f : Y_s_GetRec) : Nat × Fn := (235, ⟨p_s_GetRec, r_s_GetRec, fun x => f x.1⟩)
noncomputable def F_s_GetRec : Fn := (D_s_GetRec P_s_GetRec).2
theorem E_s_GetRec (f_s_GetBig : Y_s_GetBig) (f_s_RecOk : Y_s_RecOk) (f_s_l13Put : Y_s_l13Put) : ∀ x, (mkFn cfg [D_s_GetBig f_s_GetBig, D_s_RecOk f_s_RecOk, D_s_l13Put f_s_l13Put] A_s_GetRec 127 [.cell 2 194, .tmp 3] (Tryz.f235.body.getD .skip) p_s_GetRec r_s_GetRec).fn x = B_s_GetRec f_s_GetBig f_s_RecOk f_s_l13Put x.1 := by intro x; kernel_rfl
theorem S_s_GetRec : Sound Tryz.prog 235 F_s_GetRec := sm MO cfg_ok (tc Tryz.call282 S_s_GetBig (tc Tryz.call283 S_s_RecOk (tc Tryz.call284 S_s_l13Put tab_nil))) Tryz.func235 (by kernel_rfl) (by decide) (E_s_GetRec P_s_GetBig P_s_RecOk P_s_l13Put)
def A_s_ScanRecs : Nat → Option Jn := lookN [(122, ⟨[.t 3 false [.own 100000000], .t 4 false [.int .i64], .t 5 false [.int .i64], .r 100000000 194 kRec], lt 40 6 (lt 9 30 [.b 6, .r 8, .r 42, .r 43, .r 94213, .t 6, .t 7]), false⟩)]
abbrev p_s_ScanRecs : List PK := [.val true (.pair (.rs 9 .str) (.rs 9 .str)) false]
abbrev r_s_ScanRecs : List RK := [.val false (.sl 194 kRec)]
noncomputable def D_s_ScanRecs (f : Y_s_ScanRecs) : Nat × Fn := (232, ⟨p_s_ScanRecs, r_s_ScanRecs, fun x => f x.1⟩)
noncomputable def F_s_ScanRecs : Fn := (D_s_ScanRecs P_s_ScanRecs).2
theorem E_s_ScanRecs (f_s_GetRec : Y_s_GetRec) : ∀ x, (mkFn cfg [D_s_GetRec f_s_GetRec] A_s_ScanRecs 47 [.tmp 2] (Tryz.f232.body.getD .skip) p_s_ScanRecs r_s_ScanRecs).fn x = B_s_ScanRecs f_s_GetRec x.1 := by intro x; kernel_rfl
theorem S_s_ScanRecs : Sound Tryz.prog 232 F_s_ScanRecs := sm MO cfg_ok (tc Tryz.call235 S_s_GetRec tab_nil) Tryz.func232 (by kernel_rfl) (by decide) (E_s_ScanRecs P_s_GetRec)
def A_s_l14At : Nat → Option Jn := lookN [(26, ⟨[.t 5 false [.int .i64]], lt 6 13 [], false⟩)]
abbrev p_s_l14At : List PK := [.val false (.rs 109 kUp) false, .val false .str false]
abbrev r_s_l14At : List RK := [.val false (.int .i64)]
noncomputable def D_s_l14At (f : Y_s_l14At) : Nat × Fn := (206, ⟨p_s_l14At, r_s_l14At, fun x => f x.1 x.2.1⟩)
noncomputable def F_s_l14At : Fn := (D_s_l14At P_s_l14At).2
theorem E_s_l14At : ∀ x, (mkFn cfg [] A_s_l14At 20 [.tmp 4] (Tryz.f206.body.getD .skip) p_s_l14At r_s_l14At).fn x = B_s_l14At x.1 x.2.1 := by intro x; kernel_rfl
theorem S_s_l14At : Sound Tryz.prog 206 F_s_l14At := sm MO cfg_ok tab_nil Tryz.func206 (by kernel_rfl) (by decide) (E_s_l14At)
def A_s_l14CopyUps_r98_0_r99_0 : Nat → Option Jn := lookN [(58, ⟨[.t 3 false [.own 100000000], .t 4 false [.int .i64], .r 100000000 109 (.pair .str (.pair (.int .i64) (.pair (.rs 5 (.int .u8)) .bool)))], lt 7 19 [.b 5, .r 6, .r 17, .r 20, .r 24, .r 25, .t 5], false⟩)]
abbrev p_s_l14CopyUps_r98_0_r99_0 : List PK := [.val false (.rs 109 kUp) false]
abbrev r_s_l14CopyUps_r98_0_r99_0 : List RK := [.val false (.sl 109 (.pair .str (.pair (.int .i64) (.pair (.rs 5 (.int .u8)) .bool))))]
noncomputable def D_s_l14CopyUps_r98_0_r99_0 (f : Y_s_l14CopyUps) : Nat × Fn := (230, ⟨p_s_l14CopyUps_r98_0_r99_0, r_s_l14CopyUps_r98_0_r99_0, fun x => f x.1⟩)
noncomputable def F_s_l14CopyUps_r98_0_r99_0 : Fn := (D_s_l14CopyUps_r98_0_r99_0 P_s_l14CopyUps).2
theorem E_s_l14CopyUps_r98_0_r99_0 : ∀ x, (mkFn cfgR [] A_s_l14CopyUps_r98_0_r99_0 27 [.tmp 2] (Tryz.f230.body.getD .skip) p_s_l14CopyUps_r98_0_r99_0 r_s_l14CopyUps_r98_0_r99_0).fn x = B_s_l14CopyUps x.1 := by intro x; kernel_rfl
theorem S_s_l14CopyUps_r98_0_r99_0 : Sound Tryz.prog 230 F_s_l14CopyUps_r98_0_r99_0 := sm MO cfgR_ok tab_nil Tryz.func230 (by kernel_rfl) (by decide) (E_s_l14CopyUps_r98_0_r99_0)
def A_s_l14Make_r98_0_r99_0 : Nat → Option Jn := lookN [(15, ⟨[.t 5 false [.own 11], .t 6 false [.int .i64], .r 11 109 (.pair .str (.pair (.int .i64) (.pair (.rs 5 (.int .u8)) .bool)))], lt 15 23 [.x 21, .x 33, .x 35], true⟩), (60, ⟨[.t 5 false [.own 11], .t 6 false [.int .i64], .r 11 109 (.pair .str (.pair (.int .i64) (.pair (.rs 5 (.int .u8)) .bool)))], lt 15 23 [.x 21, .x 33, .x 35], false⟩), (120, ⟨[], lt 15 13 [.x 21], false⟩)]
abbrev p_s_l14Make_r98_0_r99_0 : List PK := [.val false (.rs 109 kUp) false, .val true (.pair .str (.pair (.int .i64) (.pair (.rs 5 (.int .u8)) .bool))) false]
abbrev r_s_l14Make_r98_0_r99_0 : List RK := [.val false (.sl 109 (.pair .str (.pair (.int .i64) (.pair (.rs 5 (.int .u8)) .bool))))]
noncomputable def D_s_l14Make_r98_0_r99_0 (f : Y_s_l14Make_r98_0_r99_0) : Nat × Fn := (305, ⟨p_s_l14Make_r98_0_r99_0, r_s_l14Make_r98_0_r99_0, fun x => f x.1 x.2.1⟩)
noncomputable def F_s_l14Make_r98_0_r99_0 : Fn := (D_s_l14Make_r98_0_r99_0 P_s_l14Make_r98_0_r99_0).2
theorem E_s_l14Make_r98_0_r99_0 (f_s_l14CopyUps : Y_s_l14CopyUps) : ∀ x, (mkFn cfgR [D_s_l14CopyUps_r98_0_r99_0 f_s_l14CopyUps] A_s_l14Make_r98_0_r99_0 43 [.tmp 4] (Tryz.f305.body.getD .skip) p_s_l14Make_r98_0_r99_0 r_s_l14Make_r98_0_r99_0).fn x = B_s_l14Make_r98_0_r99_0 f_s_l14CopyUps x.1 x.2.1 := by intro x; kernel_rfl
theorem S_s_l14Make_r98_0_r99_0 : Sound Tryz.prog 305 F_s_l14Make_r98_0_r99_0 := sm MO cfgR_ok (tc Tryz.call230 S_s_l14CopyUps_r98_0_r99_0 tab_nil) Tryz.func305 (by kernel_rfl) (by decide) (E_s_l14Make_r98_0_r99_0 P_s_l14CopyUps)
def A_s_l14One_r99_0 : Nat → Option Jn := lookN [(4074, ⟨[], lt 43 27 [], false⟩)]
abbrev p_s_l14One_r99_0 : List PK := [.val false (.rs 109 kUp) false, .val true (.pair (.int .i64) (.pair (.int .i64) (.pair (.int .i64) (.pair .str (.pair (.int .i64) (.rs 5 (.int .u8))))))) false]
abbrev r_s_l14One_r99_0 : List RK := [.val false (.rs 109 (.pair .str (.pair (.int .i64) (.pair (.rs 5 (.int .u8)) .bool)))), .val false .bool]
noncomputable def D_s_l14One_r99_0 (f : Y_s_l14One_r99_0) : Nat × Fn := (281, ⟨p_s_l14One_r99_0, r_s_l14One_r99_0, fun x => f x.1 x.2.1⟩)
noncomputable def F_s_l14One_r99_0 : Fn := (D_s_l14One_r99_0 P_s_l14One_r99_0).2
theorem E_s_l14One_r99_0 (f_s_l14At : Y_s_l14At) (f_s_l14CopyUps : Y_s_l14CopyUps) (f_s_l14Make_r98_0_r99_0 : Y_s_l14Make_r98_0_r99_0) : ∀ x, (mkFn cfg [D_s_l14At f_s_l14At, D_s_l14CopyUps f_s_l14CopyUps, D_s_l14Make_r98_0_r99_0 f_s_l14Make_r98_0_r99_0] A_s_l14One_r99_0 114 [.tmp 4, .tmp 5] (Tryz.f281.body.getD .skip) p_s_l14One_r99_0 r_s_l14One_r99_0).fn x = B_s_l14One_r99_0 f_s_l14At f_s_l14CopyUps f_s_l14Make_r98_0_r99_0 x.1 x.2.1 := by intro x; kernel_rfl
theorem S_s_l14One_r99_0 : Sound Tryz.prog 281 F_s_l14One_r99_0 := sm MO cfg_ok (tc Tryz.call206 S_s_l14At (tc Tryz.call230 S_s_l14CopyUps (tc Tryz.call305 S_s_l14Make_r98_0_r99_0 tab_nil))) Tryz.func281 (by kernel_rfl) (by decide) (E_s_l14One_r99_0 P_s_l14At P_s_l14CopyUps P_s_l14Make_r98_0_r99_0)
def A_s_l14SameUps : Nat → Option Jn := lookN [(58, ⟨[.t 5 false [.int .i64]], lt 11 58 [], false⟩)]
abbrev p_s_l14SameUps : List PK := [.val false (.rs 109 kUp) false, .val false (.rs 109 kUp) false]
abbrev r_s_l14SameUps : List RK := [.val false .bool]
noncomputable def D_s_l14SameUps (f : Y_s_l14SameUps) : Nat × Fn := (234, ⟨p_s_l14SameUps, r_s_l14SameUps, fun x => f x.1 x.2.1⟩)
noncomputable def F_s_l14SameUps : Fn := (D_s_l14SameUps P_s_l14SameUps).2
theorem E_s_l14SameUps : ∀ x, (mkFn cfg [] A_s_l14SameUps 69 [.tmp 4] (Tryz.f234.body.getD .skip) p_s_l14SameUps r_s_l14SameUps).fn x = B_s_l14SameUps x.1 x.2.1 := by intro x; kernel_rfl
theorem S_s_l14SameUps : Sound Tryz.prog 234 F_s_l14SameUps := sm MO cfg_ok tab_nil Tryz.func234 (by kernel_rfl) (by decide) (E_s_l14SameUps)
def A_s_FoldRecs_r99_0 : Nat → Option Jn := lookN [(7, ⟨[.t 4 false [.ro 109 (.pair .str (.pair (.int .i64) (.pair (.rs 5 (.int .u8)) .bool)))]], lt 5 21 [.r 8, .t 27], false⟩), (58, ⟨[.t 4 false [.ro 109 (.pair .str (.pair (.int .i64) (.pair (.rs 5 (.int .u8)) .bool)))], .t 5 false [.int .i64]], lt 6 20 [.r 8, .t 27], false⟩)]
abbrev p_s_FoldRecs_r99_0 : List PK := [.val false (.rs 194 kRec) false]
abbrev r_s_FoldRecs_r99_0 : List RK := [.val false (.rs 109 kUp), .val false .bool]
noncomputable def D_s_FoldRecs_r99_0 (f : Y_s_FoldRecs_r99_0) : Nat × Fn := (233, ⟨p_s_FoldRecs_r99_0, r_s_FoldRecs_r99_0, fun x => f x.1⟩)
noncomputable def F_s_FoldRecs_r99_0 : Fn := (D_s_FoldRecs_r99_0 P_s_FoldRecs_r99_0).2
theorem E_s_FoldRecs_r99_0 (f_s_l14One_r99_0 : Y_s_l14One_r99_0) : ∀ x, (mkFn cfg [D_s_l14One_r99_0 f_s_l14One_r99_0] A_s_FoldRecs_r99_0 29 [.tmp 2, .tmp 3] (Tryz.f233.body.getD .skip) p_s_FoldRecs_r99_0 r_s_FoldRecs_r99_0).fn x = B_s_FoldRecs_r99_0 f_s_l14One_r99_0 x.1 := by intro x; kernel_rfl
theorem S_s_FoldRecs_r99_0 : Sound Tryz.prog 233 F_s_FoldRecs_r99_0 := sm MO cfg_ok (tc Tryz.call281 S_s_l14One_r99_0 tab_nil) Tryz.func233 (by kernel_rfl) (by decide) (E_s_FoldRecs_r99_0 P_s_l14One_r99_0)
def A_s_StoreOk : Nat → Option Jn := lookN [(3, ⟨[], lt 9 10 [], false⟩), (31, ⟨[], lt 27 33 [], false⟩), (506, ⟨[.t 6 false [.int .i64]], lt 62 26 [.b 7, .r 319493, .t 7, .t 8], false⟩)]
abbrev p_s_StoreOk : List PK := [.val true (.pair (.pair (.rs 9 .str) (.rs 9 .str)) (.pair (.int .i64) (.pair (.int .i64) (.rs 109 kUp)))) false]
abbrev r_s_StoreOk : List RK := [.val false .bool]
noncomputable def D_s_StoreOk (f : Y_s_StoreOk) : Nat × Fn := (159, ⟨p_s_StoreOk, r_s_StoreOk, fun x => f x.1⟩)
noncomputable def F_s_StoreOk : Fn := (D_s_StoreOk P_s_StoreOk).2
theorem E_s_StoreOk (f_s_l1In : Y_s_l1In) (f_s_DiskOk : Y_s_DiskOk) (f_s_ScanRecs : Y_s_ScanRecs) (f_s_FoldRecs_r99_0 : Y_s_FoldRecs_r99_0) (f_s_l14SameUps : Y_s_l14SameUps) (f_s_GetRec : Y_s_GetRec) : ∀ x, (mkFn cfg [D_s_l1In f_s_l1In, D_s_DiskOk f_s_DiskOk, D_s_ScanRecs f_s_ScanRecs, D_s_FoldRecs_r99_0 f_s_FoldRecs_r99_0, D_s_l14SameUps f_s_l14SameUps, D_s_GetRec f_s_GetRec] A_s_StoreOk 88 [.tmp 2] (Tryz.f159.body.getD .skip) p_s_StoreOk r_s_StoreOk).fn x = B_s_StoreOk f_s_l1In f_s_DiskOk f_s_ScanRecs f_s_FoldRecs_r99_0 f_s_l14SameUps f_s_GetRec x.1 := by intro x; kernel_rfl
theorem S_s_StoreOk : Sound Tryz.prog 159 F_s_StoreOk := sm MO cfg_ok (tc Tryz.call120 S_s_l1In (tc Tryz.call231 S_s_DiskOk (tc Tryz.call232 S_s_ScanRecs (tc Tryz.call233 S_s_FoldRecs_r99_0 (tc Tryz.call234 S_s_l14SameUps (tc Tryz.call235 S_s_GetRec tab_nil)))))) Tryz.func159 (by kernel_rfl) (by decide) (E_s_StoreOk P_s_l1In P_s_DiskOk P_s_ScanRecs P_s_FoldRecs_r99_0 P_s_l14SameUps P_s_GetRec)
def A_s_ServerOk : Nat → Option Jn := lookN [(3, ⟨[], lt 3 16 [], false⟩), (26, ⟨[.t 3 false [.int .i64]], lt 4 15 [], false⟩)]
abbrev p_s_ServerOk : List PK := [.val true (.pair (.pair (.pair (.rs 9 .str) (.rs 9 .str)) (.pair (.int .i64) (.pair (.int .i64) (.rs 109 kUp)))) (.rs 130 kHeld)) false]
abbrev r_s_ServerOk : List RK := [.val false .bool]
noncomputable def D_s_ServerOk (f : Y_s_ServerOk) : Nat × Fn := (90, ⟨p_s_ServerOk, r_s_ServerOk, fun x => f x.1⟩)
noncomputable def F_s_ServerOk : Fn := (D_s_ServerOk P_s_ServerOk).2
theorem E_s_ServerOk (f_s_RespOk : Y_s_RespOk) (f_s_StoreOk : Y_s_StoreOk) : ∀ x, (mkFn cfg [D_s_RespOk f_s_RespOk, D_s_StoreOk f_s_StoreOk] A_s_ServerOk 28 [.tmp 2] (Tryz.f90.body.getD .skip) p_s_ServerOk r_s_ServerOk).fn x = B_s_ServerOk f_s_RespOk f_s_StoreOk x.1 := by intro x; kernel_rfl
theorem S_s_ServerOk : Sound Tryz.prog 90 F_s_ServerOk := sm MO cfg_ok (tc Tryz.call158 S_s_RespOk (tc Tryz.call159 S_s_StoreOk tab_nil)) Tryz.func90 (by kernel_rfl) (by decide) (E_s_ServerOk P_s_RespOk P_s_StoreOk)
abbrev p_s_l11Most : List PK := [.val false (.int .i64) false]
abbrev r_s_l11Most : List RK := [.val false (.int .i64)]
noncomputable def D_s_l11Most (f : Y_s_l11Most) : Nat × Fn := (161, ⟨p_s_l11Most, r_s_l11Most, fun x => f x.1⟩)
noncomputable def F_s_l11Most : Fn := (D_s_l11Most P_s_l11Most).2
theorem E_s_l11Most : ∀ x, (mkFn cfg [] (lookN []) 9 [.tmp 2] (Tryz.f161.body.getD .skip) p_s_l11Most r_s_l11Most).fn x = B_s_l11Most x.1 := by intro x; kernel_rfl
theorem S_s_l11Most : Sound Tryz.prog 161 F_s_l11Most := sm MO cfg_ok tab_nil Tryz.func161 (by kernel_rfl) (by decide) (E_s_l11Most)
def A_s_ReqOk : Nat → Option Jn := lookN [(3, ⟨[], lt 4 10 [], false⟩)]
abbrev p_s_ReqOk : List PK := [.val true kReq false]
abbrev r_s_ReqOk : List RK := [.val false .bool]
noncomputable def D_s_ReqOk (f : Y_s_ReqOk) : Nat × Fn := (91, ⟨p_s_ReqOk, r_s_ReqOk, fun x => f x.1⟩)
noncomputable def F_s_ReqOk : Fn := (D_s_ReqOk P_s_ReqOk).2
theorem E_s_ReqOk (f_s_l1In : Y_s_l1In) (f_s_l11Id : Y_s_l11Id) (f_s_l11Most : Y_s_l11Most) : ∀ x, (mkFn cfg [D_s_l1In f_s_l1In, D_s_l11Id f_s_l11Id, D_s_l11Most f_s_l11Most] A_s_ReqOk 26 [.tmp 2] (Tryz.f91.body.getD .skip) p_s_ReqOk r_s_ReqOk).fn x = B_s_ReqOk f_s_l1In f_s_l11Id f_s_l11Most x.1 := by intro x; kernel_rfl
theorem S_s_ReqOk : Sound Tryz.prog 91 F_s_ReqOk := sm MO cfg_ok (tc Tryz.call120 S_s_l1In (tc Tryz.call160 S_s_l11Id (tc Tryz.call161 S_s_l11Most tab_nil))) Tryz.func91 (by kernel_rfl) (by decide) (E_s_ReqOk P_s_l1In P_s_l11Id P_s_l11Most)
abbrev p_s_l14Left : List PK := [.val true (.pair (.pair (.rs 9 .str) (.rs 9 .str)) (.pair (.int .i64) (.pair (.int .i64) (.rs 109 kUp)))) false]
abbrev r_s_l14Left : List RK := [.val false (.int .i64)]
noncomputable def D_s_l14Left (f : Y_s_l14Left) : Nat × Fn := (236, ⟨p_s_l14Left, r_s_l14Left, fun x => f x.1⟩)
noncomputable def F_s_l14Left : Fn := (D_s_l14Left P_s_l14Left).2
theorem E_s_l14Left : ∀ x, (mkFn cfg [] (lookN []) 10 [.tmp 2] (Tryz.f236.body.getD .skip) p_s_l14Left r_s_l14Left).fn x = B_s_l14Left x.1 := by intro x; kernel_rfl
theorem S_s_l14Left : Sound Tryz.prog 236 F_s_l14Left := sm MO cfg_ok tab_nil Tryz.func236 (by kernel_rfl) (by decide) (E_s_l14Left)
abbrev p_s_l14Write_r0_4 : List PK := [.ptr (.pair kDisk (.pair (.int .i64) (.pair (.int .i64) (.rs 109 kUp)))), .val true (.pair (.int .i64) (.pair (.int .i64) (.pair (.int .i64) (.pair .str (.pair (.int .i64) (.rs 5 (.int .u8))))))) false]
abbrev r_s_l14Write_r0_4 : List RK := []
noncomputable def D_s_l14Write_r0_4 (f : Y_s_l14Write_r0_4) : Nat × Fn := (237, ⟨p_s_l14Write_r0_4, r_s_l14Write_r0_4, fun x => f x.1 x.2.1⟩)
noncomputable def F_s_l14Write_r0_4 : Fn := (D_s_l14Write_r0_4 P_s_l14Write_r0_4).2
theorem E_s_l14Write_r0_4 (f_s_l14One_r99_0 : Y_s_l14One_r99_0) (f_s_l13Put : Y_s_l13Put) : ∀ x, (mkFn cfg [D_s_l14One_r99_0 f_s_l14One_r99_0, D_s_l13Put f_s_l13Put] (lookN []) 46 [] (Tryz.f237.body.getD .skip) p_s_l14Write_r0_4 r_s_l14Write_r0_4).fn x = B_s_l14Write_r0_4 f_s_l14One_r99_0 f_s_l13Put x.1 x.2.1 := by intro x; kernel_rfl
theorem S_s_l14Write_r0_4 : Sound Tryz.prog 237 F_s_l14Write_r0_4 := sm MO cfg_ok (tc Tryz.call281 S_s_l14One_r99_0 (tc Tryz.call284 S_s_l13Put tab_nil)) Tryz.func237 (by kernel_rfl) (by decide) (E_s_l14Write_r0_4 P_s_l14One_r99_0 P_s_l13Put)
abbrev p_s_UpAt : List PK := [.val true (.pair (.pair (.rs 9 .str) (.rs 9 .str)) (.pair (.int .i64) (.pair (.int .i64) (.rs 109 kUp)))) false, .val false .str false]
abbrev r_s_UpAt : List RK := [.val true kUp, .val false .bool]
noncomputable def D_s_UpAt (f : Y_s_UpAt) : Nat × Fn := (113, ⟨p_s_UpAt, r_s_UpAt, fun x => f x.1 x.2.1⟩)
noncomputable def F_s_UpAt : Fn := (D_s_UpAt P_s_UpAt).2
theorem E_s_UpAt (f_s_l14At : Y_s_l14At) : ∀ x, (mkFn cfg [D_s_l14At f_s_l14At] (lookN []) 26 [.cell 4 109, .tmp 5] (Tryz.f113.body.getD .skip) p_s_UpAt r_s_UpAt).fn x = B_s_UpAt f_s_l14At x.1 x.2.1 := by intro x; kernel_rfl
theorem S_s_UpAt : Sound Tryz.prog 113 F_s_UpAt := sm MO cfg_ok (tc Tryz.call206 S_s_l14At tab_nil) Tryz.func113 (by kernel_rfl) (by decide) (E_s_UpAt P_s_l14At)
abbrev p_s_l15Looks : List PK := [.val true (.pair (.pair (.rs 9 .str) (.rs 9 .str)) (.pair (.int .i64) (.pair (.int .i64) (.rs 109 kUp)))) false, .val true kReq false]
abbrev r_s_l15Looks : List RK := [.val true kResp]
noncomputable def D_s_l15Looks (f : Y_s_l15Looks) : Nat × Fn := (166, ⟨p_s_l15Looks, r_s_l15Looks, fun x => f x.1 x.2.1⟩)
noncomputable def F_s_l15Looks : Fn := (D_s_l15Looks P_s_l15Looks).2
theorem E_s_l15Looks (f_s_UpAt : Y_s_UpAt) : ∀ x, (mkFn cfg [D_s_UpAt f_s_UpAt] (lookN []) 35 [.cell 4 126] (Tryz.f166.body.getD .skip) p_s_l15Looks r_s_l15Looks).fn x = B_s_l15Looks f_s_UpAt x.1 x.2.1 := by intro x; kernel_rfl
theorem S_s_l15Looks : Sound Tryz.prog 166 F_s_l15Looks := sm MO cfg_ok (tc Tryz.call113 S_s_UpAt tab_nil) Tryz.func166 (by kernel_rfl) (by decide) (E_s_l15Looks P_s_UpAt)
def A_s_l15Bad : Nat → Option Jn := lookN [(235, ⟨[.t 19 false [.bool]], [.t 20, .t 21], true⟩)]
abbrev p_s_l15Bad : List PK := [.val true (.pair (.pair (.rs 9 .str) (.rs 9 .str)) (.pair (.int .i64) (.pair (.int .i64) (.rs 109 kUp)))) false, .val false .str false, .val false (.int .i64) false]
abbrev r_s_l15Bad : List RK := [.val true kResp]
noncomputable def D_s_l15Bad (f : Y_s_l15Bad) : Nat × Fn := (167, ⟨p_s_l15Bad, r_s_l15Bad, fun x => f x.1 x.2.1 x.2.2.1⟩)
noncomputable def F_s_l15Bad : Fn := (D_s_l15Bad P_s_l15Bad).2
theorem E_s_l15Bad (f_s_UpAt : Y_s_UpAt) : ∀ x, (mkFn cfg [D_s_UpAt f_s_UpAt] A_s_l15Bad 33 [.cell 6 126] (Tryz.f167.body.getD .skip) p_s_l15Bad r_s_l15Bad).fn x = B_s_l15Bad f_s_UpAt x.1 x.2.1 x.2.2.1 := by intro x; kernel_rfl
theorem S_s_l15Bad : Sound Tryz.prog 167 F_s_l15Bad := sm MO cfg_ok (tc Tryz.call113 S_s_UpAt tab_nil) Tryz.func167 (by kernel_rfl) (by decide) (E_s_l15Bad P_s_UpAt)
def A_s_MakeUp_r99_0 : Nat → Option Jn := lookN [(7, ⟨[], lt 33 10 (lt 26 6 (lt 11 14 [])), false⟩), (28, ⟨[.t 11 false [.bool]], lt 12 13 [], true⟩)]
abbrev p_s_MakeUp_r99_0 : List PK := [.val true (.pair (.pair (.rs 9 .str) (.rs 9 .str)) (.pair (.int .i64) (.pair (.int .i64) (.rs 109 kUp)))) false, .val false .str false, .val false (.int .i64) false]
abbrev r_s_MakeUp_r99_0 : List RK := [.val true (.pair kDisk (.pair (.int .i64) (.pair (.int .i64) (.rs 109 kUp)))), .val false (.int .i64)]
noncomputable def D_s_MakeUp_r99_0 (f : Y_s_MakeUp_r99_0) : Nat × Fn := (162, ⟨p_s_MakeUp_r99_0, r_s_MakeUp_r99_0, fun x => f x.1 x.2.1 x.2.2.1⟩)
noncomputable def F_s_MakeUp_r99_0 : Fn := (D_s_MakeUp_r99_0 P_s_MakeUp_r99_0).2
theorem E_s_MakeUp_r99_0 (f_s_l1In : Y_s_l1In) (f_s_l14Copy : Y_s_l14Copy) (f_s_StoreOk : Y_s_StoreOk) (f_s_l11Id : Y_s_l11Id) (f_s_l14At : Y_s_l14At) (f_s_l14Left : Y_s_l14Left) (f_s_l14Write_r0_4 : Y_s_l14Write_r0_4) : ∀ x, (mkFn cfg [D_s_l1In f_s_l1In, D_s_l14Copy f_s_l14Copy, D_s_StoreOk f_s_StoreOk, D_s_l11Id f_s_l11Id, D_s_l14At f_s_l14At, D_s_l14Left f_s_l14Left, D_s_l14Write_r0_4 f_s_l14Write_r0_4] A_s_MakeUp_r99_0 49 [.cell 6 29, .tmp 7] (Tryz.f162.body.getD .skip) p_s_MakeUp_r99_0 r_s_MakeUp_r99_0).fn x = B_s_MakeUp_r99_0 f_s_l1In f_s_l14Copy f_s_StoreOk f_s_l11Id f_s_l14At f_s_l14Left f_s_l14Write_r0_4 x.1 x.2.1 x.2.2.1 := by intro x; kernel_rfl
theorem S_s_MakeUp_r99_0 : Sound Tryz.prog 162 F_s_MakeUp_r99_0 := sm MO cfg_ok (tc Tryz.call120 S_s_l1In (tc Tryz.call157 S_s_l14Copy (tc Tryz.call159 S_s_StoreOk (tc Tryz.call160 S_s_l11Id (tc Tryz.call206 S_s_l14At (tc Tryz.call236 S_s_l14Left (tc Tryz.call237 S_s_l14Write_r0_4 tab_nil))))))) Tryz.func162 (by kernel_rfl) (by decide) (E_s_MakeUp_r99_0 P_s_l1In P_s_l14Copy P_s_StoreOk P_s_l11Id P_s_l14At P_s_l14Left P_s_l14Write_r0_4)
def A_s_PutUp_r99_0 : Nat → Option Jn := lookN [(7, ⟨[], lt 17 14 [], false⟩), (127, ⟨[], lt 64 9 (lt 44 19 []), false⟩), (255, ⟨[.b 10 [.own 100003000, .own 100003001, .int .i64, .int .i64, .ro 109 kUp], .r 100003000 9 .str, .r 100003001 9 .str], lt 74 26 [.r 92, .r 97, .r 69632, .r 69633, .r 69636, .r 411648, .r 411649, .t 13, .t 14, .t 16], true⟩), (508, ⟨[.t 44 false [.bool]], lt 45 18 [], true⟩), (2042, ⟨[.t 13 false [.int .i64], .b 10 [.own 100003000, .own 100003001, .int .i64, .int .i64, .ro 109 kUp], .r 100003000 9 .str, .r 100003001 9 .str], lt 74 26 [.r 92, .r 97, .r 69632, .r 69633, .r 69636, .r 411648, .r 411649, .t 14, .t 16], false⟩), (65353, ⟨[.t 14 false [.int .i64]], lt 82 6 [], true⟩)]
abbrev p_s_PutUp_r99_0 : List PK := [.val true (.pair (.pair (.rs 9 .str) (.rs 9 .str)) (.pair (.int .i64) (.pair (.int .i64) (.rs 109 kUp)))) false, .val false .str false, .val false (.int .i64) false, .val false (.rs 5 (.int .u8)) false]
abbrev r_s_PutUp_r99_0 : List RK := [.val true (.pair kDisk (.pair (.int .i64) (.pair (.int .i64) (.rs 109 kUp)))), .val false (.int .i64)]
noncomputable def D_s_PutUp_r99_0 (f : Y_s_PutUp_r99_0) : Nat × Fn := (163, ⟨p_s_PutUp_r99_0, r_s_PutUp_r99_0, fun x => f x.1 x.2.1 x.2.2.1 x.2.2.2.1⟩)
noncomputable def F_s_PutUp_r99_0 : Fn := (D_s_PutUp_r99_0 P_s_PutUp_r99_0).2
theorem E_s_PutUp_r99_0 (f_s_l1In : Y_s_l1In) (f_s_l14Copy : Y_s_l14Copy) (f_s_StoreOk : Y_s_StoreOk) (f_s_l11Id : Y_s_l11Id) (f_s_l14At : Y_s_l14At) (f_s_l14Left : Y_s_l14Left) (f_s_l14Write_r0_4 : Y_s_l14Write_r0_4) : ∀ x, (mkFn cfg [D_s_l1In f_s_l1In, D_s_l14Copy f_s_l14Copy, D_s_StoreOk f_s_StoreOk, D_s_l11Id f_s_l11Id, D_s_l14At f_s_l14At, D_s_l14Left f_s_l14Left, D_s_l14Write_r0_4 f_s_l14Write_r0_4] A_s_PutUp_r99_0 101 [.cell 8 29, .tmp 9] (Tryz.f163.body.getD .skip) p_s_PutUp_r99_0 r_s_PutUp_r99_0).fn x = B_s_PutUp_r99_0 f_s_l1In f_s_l14Copy f_s_StoreOk f_s_l11Id f_s_l14At f_s_l14Left f_s_l14Write_r0_4 x.1 x.2.1 x.2.2.1 x.2.2.2.1 := by intro x; kernel_rfl
theorem S_s_PutUp_r99_0 : Sound Tryz.prog 163 F_s_PutUp_r99_0 := sm MO cfg_ok (tc Tryz.call120 S_s_l1In (tc Tryz.call157 S_s_l14Copy (tc Tryz.call159 S_s_StoreOk (tc Tryz.call160 S_s_l11Id (tc Tryz.call206 S_s_l14At (tc Tryz.call236 S_s_l14Left (tc Tryz.call237 S_s_l14Write_r0_4 tab_nil))))))) Tryz.func163 (by kernel_rfl) (by decide) (E_s_PutUp_r99_0 P_s_l1In P_s_l14Copy P_s_StoreOk P_s_l11Id P_s_l14At P_s_l14Left P_s_l14Write_r0_4)
def A_s_DoneUp_r99_0 : Nat → Option Jn := lookN [(7, ⟨[], lt 13 8 [], false⟩)]
abbrev p_s_DoneUp_r99_0 : List PK := [.val true (.pair (.pair (.rs 9 .str) (.rs 9 .str)) (.pair (.int .i64) (.pair (.int .i64) (.rs 109 kUp)))) false, .val false .str false, .val false (.int .i64) false]
abbrev r_s_DoneUp_r99_0 : List RK := [.val true (.pair kDisk (.pair (.int .i64) (.pair (.int .i64) (.rs 109 kUp)))), .val false (.int .i64)]
noncomputable def D_s_DoneUp_r99_0 (f : Y_s_DoneUp_r99_0) : Nat × Fn := (164, ⟨p_s_DoneUp_r99_0, r_s_DoneUp_r99_0, fun x => f x.1 x.2.1 x.2.2.1⟩)
noncomputable def F_s_DoneUp_r99_0 : Fn := (D_s_DoneUp_r99_0 P_s_DoneUp_r99_0).2
theorem E_s_DoneUp_r99_0 (f_s_Crc : Y_s_Crc) (f_s_l14Copy : Y_s_l14Copy) (f_s_StoreOk : Y_s_StoreOk) (f_s_l11Id : Y_s_l11Id) (f_s_l14At : Y_s_l14At) (f_s_l14Left : Y_s_l14Left) (f_s_l14Write_r0_4 : Y_s_l14Write_r0_4) : ∀ x, (mkFn cfg [D_s_Crc f_s_Crc, D_s_l14Copy f_s_l14Copy, D_s_StoreOk f_s_StoreOk, D_s_l11Id f_s_l11Id, D_s_l14At f_s_l14At, D_s_l14Left f_s_l14Left, D_s_l14Write_r0_4 f_s_l14Write_r0_4] A_s_DoneUp_r99_0 62 [.cell 6 29, .tmp 7] (Tryz.f164.body.getD .skip) p_s_DoneUp_r99_0 r_s_DoneUp_r99_0).fn x = B_s_DoneUp_r99_0 f_s_Crc f_s_l14Copy f_s_StoreOk f_s_l11Id f_s_l14At f_s_l14Left f_s_l14Write_r0_4 x.1 x.2.1 x.2.2.1 := by intro x; kernel_rfl
theorem S_s_DoneUp_r99_0 : Sound Tryz.prog 164 F_s_DoneUp_r99_0 := sm MO cfg_ok (tc Tryz.call152 S_s_Crc (tc Tryz.call157 S_s_l14Copy (tc Tryz.call159 S_s_StoreOk (tc Tryz.call160 S_s_l11Id (tc Tryz.call206 S_s_l14At (tc Tryz.call236 S_s_l14Left (tc Tryz.call237 S_s_l14Write_r0_4 tab_nil))))))) Tryz.func164 (by kernel_rfl) (by decide) (E_s_DoneUp_r99_0 P_s_Crc P_s_l14Copy P_s_StoreOk P_s_l11Id P_s_l14At P_s_l14Left P_s_l14Write_r0_4)
def A_s_DropUp_r99_0 : Nat → Option Jn := lookN [(7, ⟨[], lt 26 4 (lt 19 6 (lt 9 9 [])), false⟩), (28, ⟨[.t 9 false [.bool]], lt 10 8 [], true⟩)]
abbrev p_s_DropUp_r99_0 : List PK := [.val true (.pair (.pair (.rs 9 .str) (.rs 9 .str)) (.pair (.int .i64) (.pair (.int .i64) (.rs 109 kUp)))) false, .val false .str false]
abbrev r_s_DropUp_r99_0 : List RK := [.val true (.pair kDisk (.pair (.int .i64) (.pair (.int .i64) (.rs 109 kUp)))), .val false (.int .i64)]
noncomputable def D_s_DropUp_r99_0 (f : Y_s_DropUp_r99_0) : Nat × Fn := (165, ⟨p_s_DropUp_r99_0, r_s_DropUp_r99_0, fun x => f x.1 x.2.1⟩)
noncomputable def F_s_DropUp_r99_0 : Fn := (D_s_DropUp_r99_0 P_s_DropUp_r99_0).2
theorem E_s_DropUp_r99_0 (f_s_l14Copy : Y_s_l14Copy) (f_s_StoreOk : Y_s_StoreOk) (f_s_l11Id : Y_s_l11Id) (f_s_l14At : Y_s_l14At) (f_s_l14Left : Y_s_l14Left) (f_s_l14Write_r0_4 : Y_s_l14Write_r0_4) : ∀ x, (mkFn cfg [D_s_l14Copy f_s_l14Copy, D_s_StoreOk f_s_StoreOk, D_s_l11Id f_s_l11Id, D_s_l14At f_s_l14At, D_s_l14Left f_s_l14Left, D_s_l14Write_r0_4 f_s_l14Write_r0_4] A_s_DropUp_r99_0 35 [.cell 4 29, .tmp 5] (Tryz.f165.body.getD .skip) p_s_DropUp_r99_0 r_s_DropUp_r99_0).fn x = B_s_DropUp_r99_0 f_s_l14Copy f_s_StoreOk f_s_l11Id f_s_l14At f_s_l14Left f_s_l14Write_r0_4 x.1 x.2.1 := by intro x; kernel_rfl
theorem S_s_DropUp_r99_0 : Sound Tryz.prog 165 F_s_DropUp_r99_0 := sm MO cfg_ok (tc Tryz.call157 S_s_l14Copy (tc Tryz.call159 S_s_StoreOk (tc Tryz.call160 S_s_l11Id (tc Tryz.call206 S_s_l14At (tc Tryz.call236 S_s_l14Left (tc Tryz.call237 S_s_l14Write_r0_4 tab_nil)))))) Tryz.func165 (by kernel_rfl) (by decide) (E_s_DropUp_r99_0 P_s_l14Copy P_s_StoreOk P_s_l11Id P_s_l14At P_s_l14Left P_s_l14Write_r0_4)
def A_s_l15Does_r99_0 : Nat → Option Jn := lookN [(31, ⟨[.t 9 false [.int .i64], .b 8 [.int .i64, .int .i64], .b 10 [.own 100000000, .own 100000001, .int .i64, .int .i64, .ro 109 kUp], .r 100000000 9 .str, .r 100000001 9 .str], lt 19 51 [.r 114688, .r 114689, .r 167936, .r 167937, .r 237568, .r 237569, .r 274432, .r 274433, .t 13, .t 14], false⟩)]
abbrev p_s_l15Does_r99_0 : List PK := [.val true (.pair (.pair (.rs 9 .str) (.rs 9 .str)) (.pair (.int .i64) (.pair (.int .i64) (.rs 109 kUp)))) false, .val true kReq false, .val false (.rs 5 (.int .u8)) false]
abbrev r_s_l15Does_r99_0 : List RK := [.val true (.pair (.pair (.rs 9 .str) (.rs 9 .str)) (.pair (.int .i64) (.pair (.int .i64) (.rs 109 kUp)))), .val true kResp]
noncomputable def D_s_l15Does_r99_0 (f : Y_s_l15Does_r99_0) : Nat × Fn := (92, ⟨p_s_l15Does_r99_0, r_s_l15Does_r99_0, fun x => f x.1 x.2.1 x.2.2.1⟩)
noncomputable def F_s_l15Does_r99_0 : Fn := (D_s_l15Does_r99_0 P_s_l15Does_r99_0).2
theorem E_s_l15Does_r99_0 (f_s_MakeUp_r99_0 : Y_s_MakeUp_r99_0) (f_s_PutUp_r99_0 : Y_s_PutUp_r99_0) (f_s_DoneUp_r99_0 : Y_s_DoneUp_r99_0) (f_s_DropUp_r99_0 : Y_s_DropUp_r99_0) (f_s_l15Looks : Y_s_l15Looks) (f_s_l15Bad : Y_s_l15Bad) : ∀ x, (mkFn cfg [D_s_MakeUp_r99_0 f_s_MakeUp_r99_0, D_s_PutUp_r99_0 f_s_PutUp_r99_0, D_s_DoneUp_r99_0 f_s_DoneUp_r99_0, D_s_DropUp_r99_0 f_s_DropUp_r99_0, D_s_l15Looks f_s_l15Looks, D_s_l15Bad f_s_l15Bad] A_s_l15Does_r99_0 80 [.cell 6 29, .cell 7 126] (Tryz.f92.body.getD .skip) p_s_l15Does_r99_0 r_s_l15Does_r99_0).fn x = B_s_l15Does_r99_0 f_s_MakeUp_r99_0 f_s_PutUp_r99_0 f_s_DoneUp_r99_0 f_s_DropUp_r99_0 f_s_l15Looks f_s_l15Bad x.1 x.2.1 x.2.2.1 := by intro x; kernel_rfl
theorem S_s_l15Does_r99_0 : Sound Tryz.prog 92 F_s_l15Does_r99_0 := sm MO cfg_ok (tc Tryz.call162 S_s_MakeUp_r99_0 (tc Tryz.call163 S_s_PutUp_r99_0 (tc Tryz.call164 S_s_DoneUp_r99_0 (tc Tryz.call165 S_s_DropUp_r99_0 (tc Tryz.call166 S_s_l15Looks (tc Tryz.call167 S_s_l15Bad tab_nil)))))) Tryz.func92 (by kernel_rfl) (by decide) (E_s_l15Does_r99_0 P_s_MakeUp_r99_0 P_s_PutUp_r99_0 P_s_DoneUp_r99_0 P_s_DropUp_r99_0 P_s_l15Looks P_s_l15Bad)
def A_w_szStringS : Nat → Option Jn := lookN [(122, ⟨[.t 1 false [.int .i64], .t 5 false [.int .i64]], lt 12 15 [], false⟩)]
abbrev p_w_szStringS : List PK := [.val false (.rs 9 .str) false, .val false (.int .i64) false]
abbrev r_w_szStringS : List RK := [.val false (.int .i64)]
noncomputable def D_w_szStringS (f : Y_w_szStringS) : Nat × Fn := (240, ⟨p_w_szStringS, r_w_szStringS, fun x => f x.1 x.2.1⟩)
noncomputable def F_w_szStringS : Fn := (D_w_szStringS P_w_szStringS).2
theorem E_w_szStringS : ∀ x, (mkFn cfg [] A_w_szStringS 28 [.tmp 4] (Tryz.f240.body.getD .skip) p_w_szStringS r_w_szStringS).fn x = B_w_szStringS x.1 x.2.1 := by intro x; kernel_rfl
theorem S_w_szStringS : Sound Tryz.prog 240 F_w_szStringS := sm MO cfg_ok tab_nil Tryz.func240 (by kernel_rfl) (by decide) (E_w_szStringS)
abbrev p_w_szDisk : List PK := [.val true (.pair (.rs 9 .str) (.rs 9 .str)) false, .val false (.int .i64) false]
abbrev r_w_szDisk : List RK := [.val false (.int .i64)]
noncomputable def D_w_szDisk (f : Y_w_szDisk) : Nat × Fn := (175, ⟨p_w_szDisk, r_w_szDisk, fun x => f x.1 x.2.1⟩)
noncomputable def F_w_szDisk : Fn := (D_w_szDisk P_w_szDisk).2
theorem E_w_szDisk (f_w_szStringS : Y_w_szStringS) : ∀ x, (mkFn cfg [D_w_szStringS f_w_szStringS] (lookN []) 18 [.tmp 4] (Tryz.f175.body.getD .skip) p_w_szDisk r_w_szDisk).fn x = B_w_szDisk f_w_szStringS x.1 x.2.1 := by intro x; kernel_rfl
theorem S_w_szDisk : Sound Tryz.prog 175 F_w_szDisk := sm MO cfg_ok (tc Tryz.call240 S_w_szStringS tab_nil) Tryz.func175 (by kernel_rfl) (by decide) (E_w_szDisk P_w_szStringS)
abbrev p_w_szByteS : List PK := [.val false (.rs 5 (.int .u8)) false, .val false (.int .i64) false]
abbrev r_w_szByteS : List RK := [.val false (.int .i64)]
noncomputable def D_w_szByteS (f : Y_w_szByteS) : Nat × Fn := (270, ⟨p_w_szByteS, r_w_szByteS, fun x => f x.1 x.2.1⟩)
noncomputable def F_w_szByteS : Fn := (D_w_szByteS P_w_szByteS).2
theorem E_w_szByteS : ∀ x, (mkFn cfg [] (lookN []) 12 [.tmp 4] (Tryz.f270.body.getD .skip) p_w_szByteS r_w_szByteS).fn x = B_w_szByteS x.1 x.2.1 := by intro x; kernel_rfl
theorem S_w_szByteS : Sound Tryz.prog 270 F_w_szByteS := sm MO cfg_ok tab_nil Tryz.func270 (by kernel_rfl) (by decide) (E_w_szByteS)
abbrev p_w_szUp : List PK := [.val true (.pair .str (.pair (.int .i64) (.pair (.rs 5 (.int .u8)) .bool))) false, .val false (.int .i64) false]
abbrev r_w_szUp : List RK := [.val false (.int .i64)]
noncomputable def D_w_szUp (f : Y_w_szUp) : Nat × Fn := (241, ⟨p_w_szUp, r_w_szUp, fun x => f x.1 x.2.1⟩)
noncomputable def F_w_szUp : Fn := (D_w_szUp P_w_szUp).2
theorem E_w_szUp (f_w_szByteS : Y_w_szByteS) : ∀ x, (mkFn cfg [D_w_szByteS f_w_szByteS] (lookN []) 19 [.tmp 4] (Tryz.f241.body.getD .skip) p_w_szUp r_w_szUp).fn x = B_w_szUp f_w_szByteS x.1 x.2.1 := by intro x; kernel_rfl
theorem S_w_szUp : Sound Tryz.prog 241 F_w_szUp := sm MO cfg_ok (tc Tryz.call270 S_w_szByteS tab_nil) Tryz.func241 (by kernel_rfl) (by decide) (E_w_szUp P_w_szByteS)
def A_w_szUpS : Nat → Option Jn := lookN [(122, ⟨[.t 1 false [.int .i64], .t 5 false [.int .i64]], lt 12 14 [], false⟩)]
abbrev p_w_szUpS : List PK := [.val false (.rs 248 kUp) false, .val false (.int .i64) false]
abbrev r_w_szUpS : List RK := [.val false (.int .i64)]
noncomputable def D_w_szUpS (f : Y_w_szUpS) : Nat × Fn := (176, ⟨p_w_szUpS, r_w_szUpS, fun x => f x.1 x.2.1⟩)
noncomputable def F_w_szUpS : Fn := (D_w_szUpS P_w_szUpS).2
theorem E_w_szUpS (f_w_szUp : Y_w_szUp) : ∀ x, (mkFn cfg [D_w_szUp f_w_szUp] A_w_szUpS 27 [.tmp 4] (Tryz.f176.body.getD .skip) p_w_szUpS r_w_szUpS).fn x = B_w_szUpS f_w_szUp x.1 x.2.1 := by intro x; kernel_rfl
theorem S_w_szUpS : Sound Tryz.prog 176 F_w_szUpS := sm MO cfg_ok (tc Tryz.call241 S_w_szUp tab_nil) Tryz.func176 (by kernel_rfl) (by decide) (E_w_szUpS P_w_szUp)
abbrev p_w_szStore : List PK := [.val true (.pair (.pair (.rs 9 .str) (.rs 9 .str)) (.pair (.int .i64) (.pair (.int .i64) (.rs 248 kUp)))) false, .val false (.int .i64) false]
abbrev r_w_szStore : List RK := [.val false (.int .i64)]
noncomputable def D_w_szStore (f : Y_w_szStore) : Nat × Fn := (96, ⟨p_w_szStore, r_w_szStore, fun x => f x.1 x.2.1⟩)
noncomputable def F_w_szStore : Fn := (D_w_szStore P_w_szStore).2
theorem E_w_szStore (f_w_szDisk : Y_w_szDisk) (f_w_szUpS : Y_w_szUpS) : ∀ x, (mkFn cfg [D_w_szDisk f_w_szDisk, D_w_szUpS f_w_szUpS] (lookN []) 18 [.tmp 4] (Tryz.f96.body.getD .skip) p_w_szStore r_w_szStore).fn x = B_w_szStore f_w_szDisk f_w_szUpS x.1 x.2.1 := by intro x; kernel_rfl
theorem S_w_szStore : Sound Tryz.prog 96 F_w_szStore := sm MO cfg_ok (tc Tryz.call175 S_w_szDisk (tc Tryz.call176 S_w_szUpS tab_nil)) Tryz.func96 (by kernel_rfl) (by decide) (E_w_szStore P_w_szDisk P_w_szUpS)
abbrev p_w_szHeldS : List PK := [.val false (.rs 203 kHeld) false, .val false (.int .i64) false]
abbrev r_w_szHeldS : List RK := [.val false (.int .i64)]
noncomputable def D_w_szHeldS (f : Y_w_szHeldS) : Nat × Fn := (97, ⟨p_w_szHeldS, r_w_szHeldS, fun x => f x.1 x.2.1⟩)
noncomputable def F_w_szHeldS : Fn := (D_w_szHeldS P_w_szHeldS).2
theorem E_w_szHeldS : ∀ x, (mkFn cfg [] (lookN []) 12 [.tmp 4] (Tryz.f97.body.getD .skip) p_w_szHeldS r_w_szHeldS).fn x = B_w_szHeldS x.1 x.2.1 := by intro x; kernel_rfl
theorem S_w_szHeldS : Sound Tryz.prog 97 F_w_szHeldS := sm MO cfg_ok tab_nil Tryz.func97 (by kernel_rfl) (by decide) (E_w_szHeldS)
abbrev p_w_szServer : List PK := [.val true (.pair (.pair (.pair (.rs 9 .str) (.rs 9 .str)) (.pair (.int .i64) (.pair (.int .i64) (.rs 248 kUp)))) (.rs 203 kHeld)) false, .val false (.int .i64) false]
abbrev r_w_szServer : List RK := [.val false (.int .i64)]
noncomputable def D_w_szServer (f : Y_w_szServer) : Nat × Fn := (30, ⟨p_w_szServer, r_w_szServer, fun x => f x.1 x.2.1⟩)
noncomputable def F_w_szServer : Fn := (D_w_szServer P_w_szServer).2
theorem E_w_szServer (f_w_szStore : Y_w_szStore) (f_w_szHeldS : Y_w_szHeldS) : ∀ x, (mkFn cfg [D_w_szStore f_w_szStore, D_w_szHeldS f_w_szHeldS] (lookN []) 18 [.tmp 4] (Tryz.f30.body.getD .skip) p_w_szServer r_w_szServer).fn x = B_w_szServer f_w_szStore f_w_szHeldS x.1 x.2.1 := by intro x; kernel_rfl
theorem S_w_szServer : Sound Tryz.prog 30 F_w_szServer := sm MO cfg_ok (tc Tryz.call96 S_w_szStore (tc Tryz.call97 S_w_szHeldS tab_nil)) Tryz.func30 (by kernel_rfl) (by decide) (E_w_szServer P_w_szStore P_w_szHeldS)
abbrev p_w_szReq : List PK := [.val true kReq false, .val false (.int .i64) false]
abbrev r_w_szReq : List RK := [.val false (.int .i64)]
noncomputable def D_w_szReq (f : Y_w_szReq) : Nat × Fn := (31, ⟨p_w_szReq, r_w_szReq, fun x => f x.1 x.2.1⟩)
noncomputable def F_w_szReq : Fn := (D_w_szReq P_w_szReq).2
theorem E_w_szReq : ∀ x, (mkFn cfg [] (lookN []) 13 [.tmp 4] (Tryz.f31.body.getD .skip) p_w_szReq r_w_szReq).fn x = B_w_szReq x.1 x.2.1 := by intro x; kernel_rfl
theorem S_w_szReq : Sound Tryz.prog 31 F_w_szReq := sm MO cfg_ok tab_nil Tryz.func31 (by kernel_rfl) (by decide) (E_w_szReq)
def A_w_toStringS : Nat → Option Jn := lookN [(58, ⟨[.t 3 false [.own 7], .t 4 false [.int .i64], .r 7 9 .str], lt 8 13 [.x 20], false⟩)]
abbrev p_w_toStringS : List PK := [.val false (.rs 9 .str) false]
abbrev r_w_toStringS : List RK := [.val false (.sl 9 .str)]
noncomputable def D_w_toStringS (f : Y_w_toStringS) : Nat × Fn := (242, ⟨p_w_toStringS, r_w_toStringS, fun x => f x.1⟩)
noncomputable def F_w_toStringS : Fn := (D_w_toStringS P_w_toStringS).2
theorem E_w_toStringS : ∀ x, (mkFn cfg [] A_w_toStringS 22 [.tmp 2] (Tryz.f242.body.getD .skip) p_w_toStringS r_w_toStringS).fn x = B_w_toStringS x.1 := by intro x; kernel_rfl
theorem S_w_toStringS : Sound Tryz.prog 242 F_w_toStringS := sm MO cfg_ok tab_nil Tryz.func242 (by kernel_rfl) (by decide) (E_w_toStringS)
abbrev p_w_toDisk : List PK := [.val true (.pair (.rs 9 .str) (.rs 9 .str)) false]
abbrev r_w_toDisk : List RK := [.val true kDisk]
noncomputable def D_w_toDisk (f : Y_w_toDisk) : Nat × Fn := (177, ⟨p_w_toDisk, r_w_toDisk, fun x => f x.1⟩)
noncomputable def F_w_toDisk : Fn := (D_w_toDisk P_w_toDisk).2
theorem E_w_toDisk (f_w_toStringS : Y_w_toStringS) : ∀ x, (mkFn cfg [D_w_toStringS f_w_toStringS] (lookN []) 13 [.cell 2 26] (Tryz.f177.body.getD .skip) p_w_toDisk r_w_toDisk).fn x = B_w_toDisk f_w_toStringS x.1 := by intro x; kernel_rfl
theorem S_w_toDisk : Sound Tryz.prog 177 F_w_toDisk := sm MO cfg_ok (tc Tryz.call242 S_w_toStringS tab_nil) Tryz.func177 (by kernel_rfl) (by decide) (E_w_toDisk P_w_toStringS)
def A_w_toByteS : Nat → Option Jn := lookN [(58, ⟨[.t 3 false [.own 7], .t 4 false [.int .i64], .r 7 5 (.int .u8)], lt 8 13 [.x 20], false⟩)]
abbrev p_w_toByteS : List PK := [.val false (.rs 5 (.int .u8)) false]
abbrev r_w_toByteS : List RK := [.val false (.sl 5 (.int .u8))]
noncomputable def D_w_toByteS (f : Y_w_toByteS) : Nat × Fn := (34, ⟨p_w_toByteS, r_w_toByteS, fun x => f x.1⟩)
noncomputable def F_w_toByteS : Fn := (D_w_toByteS P_w_toByteS).2
theorem E_w_toByteS : ∀ x, (mkFn cfg [] A_w_toByteS 22 [.tmp 2] (Tryz.f34.body.getD .skip) p_w_toByteS r_w_toByteS).fn x = B_w_toByteS x.1 := by intro x; kernel_rfl
theorem S_w_toByteS : Sound Tryz.prog 34 F_w_toByteS := sm MO cfg_ok tab_nil Tryz.func34 (by kernel_rfl) (by decide) (E_w_toByteS)
end Go.Proofs.YtpdcljonclhhpaaGreat.Ev
