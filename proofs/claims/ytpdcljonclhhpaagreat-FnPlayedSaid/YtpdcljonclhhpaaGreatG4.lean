/- Each function of the program does what its plain function says. -/
import Derived.Test.YtpdcljonclhhpaaGreatG3
import Derived.Test.YtpdcljonclhhpaaGreatFind
set_option linter.unusedVariables false
set_option maxRecDepth 100000
namespace Go.Proofs.YtpdcljonclhhpaaGreat.Ev
noncomputable section
def C0u:Nat→Option Jn:=B5 [(3,⟨[],lt 9 8 [],false⟩)]
abbrev B19:List PK:= [.ptr A7k,.val false .str false,.val false (.int .i64) false]
abbrev B1A:List RK:= [.val false (.int .i64)]
def B1B(f:A2I):Nat×Fn:=(222,⟨B19,B1A,fun x=>f x.1 x.2.1 x.2.2.1⟩)
def C0v:Fn:=(B1B A0F).2
theorem C0w(f_i_inRange:C2)(f_i_idOk:U3)(f_i_Store_left:M7)(f_i_Store_write_r97_0:F2)(f_i_Store_find:I3):∀ x,(C5 (cfg.withPk 276 ⟨kUp,4,f_i_Store_find⟩) [I9 f_i_inRange,A6c f_i_idOk,A25 f_i_Store_left,Q9 f_i_Store_write_r97_0] C0u 39 [.tmp 6] (Tryz.f222.body.getD .skip) B19 B1A).fn x=A5V f_i_inRange f_i_idOk f_i_Store_left f_i_Store_write_r97_0 f_i_Store_find x.1 x.2.1 x.2.2.1:=by intro x;kernel_rfl
theorem C0x:B3 Tryz.prog 222 C0v:=sm MO (A7V B1 (fun args w=>Tryz.call276 args w) A0Q) (tc Tryz.call80 J7 (tc Tryz.call147 A8H (tc Tryz.call277 A4v (tc Tryz.call278 X4 A6)))) Tryz.func222 (by kernel_rfl) (by decide) (C0w C6 S4 L3 C8 G1)
def C2g:Nat→Option Jn:=B5 [(3,⟨[],lt 12 9 [],false⟩),(15,⟨[.b 1000 [.own 215040,.own 215041,.int .i64,.int .i64,.own 215044],.r 215040 9 .str,.r 215041 9 .str,.r 215044 109 kUp],lt 27 31 [.r 1000,.r 1001,.r 1004],false⟩),(243,⟨[.t 30 false [.bool]],lt 31 18 [],true⟩),(250,⟨[.b 6 [.int .i64],.b 1000 [.own 100003000,.own 100003001,.int .i64,.int .i64,.own 100003002],.r 100003000 9 .str,.r 100003001 9 .str,.r 100003002 109 kUp],lt 60 10 [.r 215040,.r 215041,.r 215044,.r 272384,.r 272385,.r 272388,.t 11],false⟩)]
abbrev B2x:List PK:= [.ptr A7k,.val false .str false,.val false (.int .i64) false,.val false (.rs 5 (.int .u8)) false]
abbrev B2y:List RK:= [.val false (.int .i64)]
def B2z(f:A3P):Nat×Fn:=(223,⟨B2x,B2y,fun x=>f x.1 x.2.1 x.2.2.1 x.2.2.2.1⟩)
def C2h:Fn:=(B2z A0v).2
theorem C2i(f_i_inRange:C2)(f_i_idOk:U3)(f_i_Store_left:M7)(f_i_Store_write_r97_0:F2)(f_i_Store_find:I3):∀ x,(C5 (((cfg.withPk 276 ⟨kUp,4,f_i_Store_find⟩).withCk 279 304).withPt [244]) [I9 f_i_inRange,A6c f_i_idOk,A25 f_i_Store_left,Q9 f_i_Store_write_r97_0] C2g 70 [.tmp 8] (Tryz.f223.body.getD .skip) B2x B2y).fn x=A6l f_i_inRange f_i_idOk f_i_Store_left f_i_Store_write_r97_0 f_i_Store_find x.1 x.2.1 x.2.2.1 x.2.2.2.1:=by intro x;kernel_rfl
theorem C2j:B3 Tryz.prog 223 C2h:=sm MO (D6s (l:= [244]) (D6r (A7V B1 (fun args w=>Tryz.call276 args w) A0Q) (fun args w=>Tryz.call279 args w) E1C) ⟨⟨_,Tryz.underlying244,rfl⟩,trivial⟩) (tc Tryz.call80 J7 (tc Tryz.call147 A8H (tc Tryz.call277 A4v (tc Tryz.call278 X4 A6)))) Tryz.func223 (by kernel_rfl) (by decide) (C2i C6 S4 L3 C8 G1)
abbrev B30:List PK:= [.ptr A5o,.val false (.int .i64) false,.val false .str false]
abbrev B31:List RK:= [.val true E5]
def A3V(f:Q0):Nat×Fn:=(224,⟨B30,B31,fun x=>f x.1 x.2.1 x.2.2.1⟩)
def C2k:Fn:=(A3V N1).2
theorem C2l(f_i_Store_find:I3):∀ x,(C5 (cfg.withPk 276 ⟨kUp,4,f_i_Store_find⟩) [] (B5 []) 22 [.cell 6 126] (Tryz.f224.body.getD .skip) B30 B31).fn x=A6m f_i_Store_find x.1 x.2.1 x.2.2.1:=by intro x;kernel_rfl
theorem A6v:B3 Tryz.prog 224 C2k:=sm MO (A7V B1 (fun args w=>Tryz.call276 args w) A0Q) A6 Tryz.func224 (by kernel_rfl) (by decide) (C2l G1)
def C0y:Nat→Option Jn:=B5 [(15,⟨[.b 7 [.str,.int .i64,.any,.bool],.b 1000 [.own 100000000,.own 100000001,.int .i64,.int .i64,.own 100000002],.r 100000000 9 .str,.r 100000001 9 .str,.r 100000002 109 kUp],lt 18 25 [.r 1000,.r 1001,.r 1004,.r 169984,.r 169985,.r 169988],false⟩)]
abbrev B1C:List PK:= [.ptr A7k,.val false .str false,.val false (.int .i64) false]
abbrev B1D:List RK:= [.val false (.int .i64)]
def B1E(f:A2J):Nat×Fn:=(225,⟨B1C,B1D,fun x=>f x.1 x.2.1 x.2.2.1⟩)
def C0z:Fn:=(B1E A0G).2
theorem C10(f_i_idOk:U3)(f_i_Store_left:M7)(f_i_Store_write_r97_0:F2)(f_i_Crc:A8n)(f_i_Store_find:I3):∀ x,(C5 (cfg.withPk 276 ⟨kUp,4,f_i_Store_find⟩) [A6c f_i_idOk,A25 f_i_Store_left,Q9 f_i_Store_write_r97_0,C3T f_i_Crc] C0y 49 [.tmp 6] (Tryz.f225.body.getD .skip) B1C B1D).fn x=A5W f_i_idOk f_i_Store_left f_i_Store_write_r97_0 f_i_Crc f_i_Store_find x.1 x.2.1 x.2.2.1:=by intro x;kernel_rfl
theorem C11:B3 Tryz.prog 225 C0z:=sm MO (A7V B1 (fun args w=>Tryz.call276 args w) A0Q) (tc Tryz.call147 A8H (tc Tryz.call277 A4v (tc Tryz.call278 X4 (tc Tryz.call280 C9Y A6)))) Tryz.func225 (by kernel_rfl) (by decide) (C10 S4 L3 C8 A78 G1)
abbrev B1F:List PK:= [.ptr A7k,.val false .str false]
abbrev B1G:List RK:= [.val false (.int .i64)]
def B1H(f:A2K):Nat×Fn:=(226,⟨B1F,B1G,fun x=>f x.1 x.2.1⟩)
def C12:Fn:=(B1H A0H).2
theorem C13(f_i_idOk:U3)(f_i_Store_left:M7)(f_i_Store_write_r97_0:F2)(f_i_Store_find:I3):∀ x,(C5 (cfg.withPk 276 ⟨kUp,4,f_i_Store_find⟩) [A6c f_i_idOk,A25 f_i_Store_left,Q9 f_i_Store_write_r97_0] (B5 []) 24 [.tmp 4] (Tryz.f226.body.getD .skip) B1F B1G).fn x=A5X f_i_idOk f_i_Store_left f_i_Store_write_r97_0 f_i_Store_find x.1 x.2.1:=by intro x;kernel_rfl
theorem C14:B3 Tryz.prog 226 C12:=sm MO (A7V B1 (fun args w=>Tryz.call276 args w) A0Q) (tc Tryz.call147 A8H (tc Tryz.call277 A4v (tc Tryz.call278 X4 A6))) Tryz.func226 (by kernel_rfl) (by decide) (C13 S4 L3 C8 G1)
def C2m:Nat→Option Jn:=B5 [(115,⟨[.t 20 false [.bool]],lt 21 8 [],true⟩)]
abbrev B32:List PK:= [.ptr A5o,.val true U1 false]
abbrev B33:List RK:= [.val true E5]
def B34(f:A3Q):Nat×Fn:=(227,⟨B32,B33,fun x=>f x.1 x.2.1⟩)
def C2n:Fn:=(B34 A0w).2
theorem C2o(f_i_Server_told:Q0)(f_i_Store_find:I3):∀ x,(C5 (cfg.withPk 276 ⟨kUp,4,f_i_Store_find⟩) [A3V f_i_Server_told] C2m 37 [.cell 4 126] (Tryz.f227.body.getD .skip) B32 B33).fn x=A6n f_i_Server_told f_i_Store_find x.1 x.2.1:=by intro x;kernel_rfl
theorem C2p:B3 Tryz.prog 227 C2n:=sm MO (A7V B1 (fun args w=>Tryz.call276 args w) A0Q) (tc Tryz.call224 A6v A6) Tryz.func227 (by kernel_rfl) (by decide) (C2o N1 G1)
def B7s:Nat→Option Jn:=B5 [(107,⟨[.t 11 false [.bool]],[.t 12,.t 13],true⟩)]
abbrev A8Q:List PK:= [.ptr A5o,.val false (.int .i64) false,.val false .str false]
abbrev A8R:List RK:= [.val true E5]
def A8S(f:A0m):Nat×Fn:=(228,⟨A8Q,A8R,fun x=>f x.1 x.2.1 x.2.2.1⟩)
def B7t:Fn:=(A8S J1).2
theorem B7u(f_i_Server_told:Q0):∀ x,(C5 cfg [A3V f_i_Server_told] B7s 24 [.cell 6 126] (Tryz.f228.body.getD .skip) A8Q A8R).fn x=A3b f_i_Server_told x.1 x.2.1 x.2.2.1:=by intro x;kernel_rfl
theorem B7v:B3 Tryz.prog 228 B7t:=sm MO B1 (tc Tryz.call224 A6v A6) Tryz.func228 (by kernel_rfl) (by decide) (B7u N1)
def B9a:Nat→Option Jn:=B5 [(15,⟨[.t 7 false [.int .i64],.b 8 [.int .i64,.int .i64],.b 1000 [.own 100000000,.own 100000001,.int .i64,.int .i64,.own 100000002,.own 100000003],.r 100000000 9 .str,.r 100000001 9 .str,.r 100000002 109 kUp,.r 100000003 130 A9],lt 15 46 [.r 1000,.r 1001,.r 1004,.r 1005,.r 104448,.r 104449,.r 104452,.r 153600,.r 153601,.r 153604,.r 169984,.r 169985,.r 169988,.r 169989,.r 210944,.r 210945,.r 210948,.r 247808,.r 247809,.r 247812,.t 10,.t 11],false⟩)]
abbrev A9c:List PK:= [.ptr A5o,.val true U1 false,.val false (.rs 5 (.int .u8)) false]
abbrev A9d:List RK:= [.val true E5]
def A9e(f:A1K):Nat×Fn:=(156,⟨A9c,A9d,fun x=>f x.1 x.2.1 x.2.2.1⟩)
def B9b:Fn:=(A9e Y6).2
theorem B9c(f_i_Store_makeUp:A2I)(f_i_Store_putUp:A3P)(f_i_Server_told:Q0)(f_i_Store_doneUp:A2J)(f_i_Store_dropUp:A2K)(f_i_Server_look:A3Q)(f_i_Server_refused:A0m):∀ x,(C5 cfg [B1B f_i_Store_makeUp,B2z f_i_Store_putUp,A3V f_i_Server_told,B1E f_i_Store_doneUp,B1H f_i_Store_dropUp,B34 f_i_Server_look,A8S f_i_Server_refused] B9a 69 [.cell 6 126] (Tryz.f156.body.getD .skip) A9c A9d).fn x=A4b f_i_Store_makeUp f_i_Store_putUp f_i_Server_told f_i_Store_doneUp f_i_Store_dropUp f_i_Server_look f_i_Server_refused x.1 x.2.1 x.2.2.1:=by intro x;kernel_rfl
theorem B9d:B3 Tryz.prog 156 B9b:=sm MO B1 (tc Tryz.call222 C0x (tc Tryz.call223 C2j (tc Tryz.call224 A6v (tc Tryz.call225 C11 (tc Tryz.call226 C14 (tc Tryz.call227 C2p (tc Tryz.call228 B7v A6))))))) Tryz.func156 (by kernel_rfl) (by decide) (B9c A0F A0v N1 A0G A0H A0w J1)
def C15:Nat→Option Jn:=B5 [(3,⟨[],lt 10 11 [],false⟩)]
abbrev B1I:List PK:= [.ptr A5o,.val false (.int .i64) false,.val true U1 false,.val false (.rs 5 (.int .u8)) false]
abbrev B1J:List RK:= [.val false .bool]
def B1K(f:A2L):Nat×Fn:=(88,⟨B1I,B1J,fun x=>f x.1 x.2.1 x.2.2.1 x.2.2.2.1⟩)
def C16:Fn:=(B1K A2M).2
theorem C17(f_i_ReqOk:A5K)(f_i_Server_answer:A1K):∀ x,(C5 cfg [C0b f_i_ReqOk,A9e f_i_Server_answer] C15 37 [.tmp 8] (Tryz.f88.body.getD .skip) B1I B1J).fn x=A5Y f_i_ReqOk f_i_Server_answer x.1 x.2.1 x.2.2.1 x.2.2.2.1:=by intro x;kernel_rfl
theorem C18:B3 Tryz.prog 88 C16:=sm MO B1 (tc Tryz.call79 C8U (tc Tryz.call156 B9d A6)) Tryz.func88 (by kernel_rfl) (by decide) (C17 A3n Y6)
abbrev B35:List PK:= [.ptr A0b,.val false (.int .i64) false]
abbrev B36:List RK:= [.val false .bool]
def B37(f:A3R):Nat×Fn:=(201,⟨B35,B36,fun x=>f x.1 x.2.1⟩)
def C2q:Fn:=(B37 A0x).2
theorem C2r(f_i_inRange:C2)(f_i_Server_serve:A2L)(f_slices_Delete_impl_Want_impl_Want:I4):∀ x,(C5 cfg [I9 f_i_inRange,B1K f_i_Server_serve,V3 f_slices_Delete_impl_Want_impl_Want] (B5 []) 44 [.tmp 4] (Tryz.f201.body.getD .skip) B35 B36).fn x=A6o f_i_inRange f_i_Server_serve f_slices_Delete_impl_Want_impl_Want x.1 x.2.1:=by intro x;kernel_rfl
theorem C2s:B3 Tryz.prog 201 C2q:=sm MO B1 (tc Tryz.call80 J7 (tc Tryz.call88 C18 (tc Tryz.call260 A2u A6))) Tryz.func201 (by kernel_rfl) (by decide) (C2r C6 A2M I5)
abbrev B6n:List PK:= [.val true (.pair (.rs 9 .str) (.rs 9 .str)) false]
abbrev B6o:List RK:= [.val true A2X]
def B6p(f:A64):Nat×Fn:=(296,⟨B6n,B6o,fun x=>f x.1⟩)
def C7W:Fn:=(B6p A2j).2
theorem C7X(f_slices_Clone_string_string:G9):∀ x,(C5 cfg [U0 f_slices_Clone_string_string] (B5 []) 10 [.cell 2 26] (Tryz.f296.body.getD .skip) B6n B6o).fn x=A9w f_slices_Clone_string_string x.1:=by intro x;kernel_rfl
theorem C7Y:B3 Tryz.prog 296 C7W:=sm MO B1 (tc Tryz.call275 A16 A6) Tryz.func296 (by kernel_rfl) (by decide) (C7X F9)
abbrev A8T:List PK:= [.ptr A5o]
abbrev A8U:List RK:= [.val false (.sl 130 A9)]
def A8V(f:A0n):Nat×Fn:=(261,⟨A8T,A8U,fun x=>f x.1⟩)
def B7w:Fn:=(A8V A0o).2
theorem B7x(f_i_FlushDisk:A64):∀ x,(C5 cfg [B6p f_i_FlushDisk] (B5 []) 22 [.tmp 2] (Tryz.f261.body.getD .skip) A8T A8U).fn x=A3c f_i_FlushDisk x.1:=by intro x;kernel_rfl
theorem B7y:B3 Tryz.prog 261 B7w:=sm MO B1 (tc Tryz.call296 C7Y A6) Tryz.func261 (by kernel_rfl) (by decide) (B7x A2j)
abbrev B54:List PK:= [.ptr A0b]
abbrev B55:List RK:= [.val false .bool]
def B56(f:A4c):Nat×Fn:=(202,⟨B54,B55,fun x=>f x.1⟩)
def C6R:Fn:=(B56 A1s).2
theorem C6S(f_i_Server_syncAll:A0n):∀ x,(C5 cfg [A8V f_i_Server_syncAll] (B5 []) 30 [.tmp 2] (Tryz.f202.body.getD .skip) B54 B55).fn x=A86 f_i_Server_syncAll x.1:=by intro x;kernel_rfl
theorem C6T:B3 Tryz.prog 202 C6R:=sm MO B1 (tc Tryz.call261 B7y A6) Tryz.func202 (by kernel_rfl) (by decide) (C6S A0o)
abbrev A9f:List PK:= [.ptr B2,.val false (.int .i64) false]
abbrev A9g:List RK:= []
def A9h(f:A1L):Nat×Fn:=(311,⟨A9f,A9g,fun x=>f x.1 x.2.1⟩)
def B9e:Fn:=(A9h Y7).2
theorem B9f(f_i_inRange:C2):∀ x,(C5 cfg [I9 f_i_inRange] (B5 []) 32 [] (Tryz.f311.body.getD .skip) A9f A9g).fn x=A4d f_i_inRange x.1 x.2.1:=by intro x;kernel_rfl
theorem B9g:B3 Tryz.prog 311 B9e:=sm MO B1 (tc Tryz.call80 J7 A6) Tryz.func311 (by kernel_rfl) (by decide) (B9f C6)
def C2t:Nat→Option Jn:=B5 [(14,⟨[.t 15 false [.bool]],lt 16 12 [],true⟩),(59,⟨[.t 32 false [.bool]],lt 33 10 [],true⟩),(239,⟨[.t 47 false [.bool]],lt 48 6 [],true⟩),(959,⟨[.t 57 false [.bool]],lt 58 10 [],true⟩),(3839,⟨[.t 71 false [.bool]],lt 72 6 [],true⟩)]
abbrev B38:List PK:= [.ptr B2,.val true E5 false]
abbrev B39:List RK:= []
def B3A(f:A3S):Nat×Fn:=(297,⟨B38,B39,fun x=>f x.1 x.2.1⟩)
def C2u:Fn:=(B3A A0y).2
theorem C2v(f_i_Client_howFar:A1L):∀ x,(C5 cfg [A9h f_i_Client_howFar] C2t 88 [] (Tryz.f297.body.getD .skip) B38 B39).fn x=A6p f_i_Client_howFar x.1 x.2.1:=by intro x;kernel_rfl
theorem C2w:B3 Tryz.prog 297 C2u:=sm MO B1 (tc Tryz.call311 B9g A6) Tryz.func297 (by kernel_rfl) (by decide) (C2v Y7)
abbrev B9h:List PK:= [.val true (.pair .str (.pair (.rs 5 (.int .u8)) E5)) false,.val true E5 false]
abbrev B9i:List RK:= [.val true B2]
def B9j(f:A7M):Nat×Fn:=(263,⟨B9h,B9i,fun x=>f x.1 x.2.1⟩)
def D0D:Fn:=(B9j A4e).2
theorem D0E(f_i_RespOk:Z2)(f_i_ClientOk:O6)(f_i_copyClient:O9)(f_i_Client_isOver:M1)(f_i_Client_hear:A3S):∀ x,(C5 cfg [B2V f_i_RespOk,A4n f_i_ClientOk,A4s f_i_copyClient,U8 f_i_Client_isOver,B3A f_i_Client_hear] (B5 []) 23 [.cell 4 79] (Tryz.f263.body.getD .skip) B9h B9i).fn x=B2A f_i_RespOk f_i_ClientOk f_i_copyClient f_i_Client_isOver f_i_Client_hear x.1 x.2.1:=by intro x;kernel_rfl
theorem D0F:B3 Tryz.prog 263 D0D:=sm MO B1 (tc Tryz.call93 B7g (tc Tryz.call145 A7Q (tc Tryz.call190 A8P (tc Tryz.call295 A0r (tc Tryz.call297 C2w A6))))) Tryz.func263 (by kernel_rfl) (by decide) (D0E V8 L5 L2 J9 A0y)
abbrev B57:List PK:= [.ptr A0b,.val false (.int .i64) false]
abbrev B58:List RK:= [.val false .bool]
def B59(f:A4f):Nat×Fn:=(203,⟨B57,B58,fun x=>f x.1 x.2.1⟩)
def C6U:Fn:=(B59 A1t).2
theorem C6V(f_i_inRange:C2)(f_slices_Delete_impl_Held_impl_Held:I6)(f_i_HearResp:A7M):∀ x,(C5 cfg [I9 f_i_inRange,V4 f_slices_Delete_impl_Held_impl_Held,B9j f_i_HearResp] (B5 []) 85 [.tmp 4] (Tryz.f203.body.getD .skip) B57 B58).fn x=A87 f_i_inRange f_slices_Delete_impl_Held_impl_Held f_i_HearResp x.1 x.2.1:=by intro x;kernel_rfl
theorem C6W:B3 Tryz.prog 203 C6U:=sm MO B1 (tc Tryz.call80 J7 (tc Tryz.call262 A2y (tc Tryz.call263 D0F A6))) Tryz.func203 (by kernel_rfl) (by decide) (C6V C6 I7 A4e)
abbrev C6X:List PK:= [.val true (.pair .str (.pair (.rs 5 (.int .u8)) E5)) false]
abbrev C6Y:List RK:= [.val true B2]
def C6Z(f:B2B):Nat×Fn:=(300,⟨C6X,C6Y,fun x=>f x.1⟩)
def D5N:Fn:=(C6Z A88).2
theorem D5O(f_i_ClientOk:O6)(f_i_copyClient:O9)(f_i_Client_isOver:M1):∀ x,(C5 cfg [A4n f_i_ClientOk,A4s f_i_copyClient,U8 f_i_Client_isOver] (B5 []) 14 [.cell 2 79] (Tryz.f300.body.getD .skip) C6X C6Y).fn x=B7T f_i_ClientOk f_i_copyClient f_i_Client_isOver x.1:=by intro x;kernel_rfl
theorem D5P:B3 Tryz.prog 300 D5N:=sm MO B1 (tc Tryz.call145 A7Q (tc Tryz.call190 A8P (tc Tryz.call295 A0r A6))) Tryz.func300 (by kernel_rfl) (by decide) (D5O L5 L2 J9)
abbrev B5A:List PK:= [.ptr A0b,.val false (.int .i64) false]
abbrev B5B:List RK:= []
def A8W(f:W6):Nat×Fn:=(268,⟨B5A,B5B,fun x=>f x.1 x.2.1⟩)
def C6a:Fn:=(A8W S8).2
theorem C6b(f_i_CutOff:B2B):∀ x,(C5 cfg [C6Z f_i_CutOff] (B5 []) 24 [] (Tryz.f268.body.getD .skip) B5A B5B).fn x=A89 f_i_CutOff x.1 x.2.1:=by intro x;kernel_rfl
theorem B5C:B3 Tryz.prog 268 C6a:=sm MO B1 (tc Tryz.call300 D5P A6) Tryz.func268 (by kernel_rfl) (by decide) (C6b A88)
abbrev B6q:List PK:= [.ptr A0b,.val false (.int .i64) false]
abbrev B6r:List RK:= [.val false .bool]
def B6s(f:A65):Nat×Fn:=(204,⟨B6q,B6r,fun x=>f x.1 x.2.1⟩)
def C7Z:Fn:=(B6s A2k).2
theorem C7a(f_i_inRange:C2)(f_slices_DeleteFunc_impl_Want_impl_Want:G4)(f_slices_DeleteFunc_impl_Held_impl_Held:G6)(f_i_World_rest:W6):∀ x,(C5 cfg [I9 f_i_inRange,R5 f_slices_DeleteFunc_impl_Want_impl_Want,R6 f_slices_DeleteFunc_impl_Held_impl_Held,A8W f_i_World_rest] (B5 []) 48 [.tmp 4] (Tryz.f204.body.getD .skip) B6q B6r).fn x=A9x f_i_inRange f_slices_DeleteFunc_impl_Want_impl_Want f_slices_DeleteFunc_impl_Held_impl_Held f_i_World_rest x.1 x.2.1:=by intro x;kernel_rfl
theorem C7b:B3 Tryz.prog 204 C7Z:=sm MO B1 (tc Tryz.call80 J7 (tcC Tryz.call265 A1R (tcC Tryz.call267 A1V (tc Tryz.call268 B5C A6)))) Tryz.func204 (by kernel_rfl) (by decide) (C7a C6 G5 G7 S8)
abbrev B9k:List PK:= [.val true (.pair (.rs 9 .str) (.rs 9 .str)) false]
abbrev B9l:List RK:= [.val false (.int .i64)]
def B9m(f:A7N):Nat×Fn:=(312,⟨B9k,B9l,fun x=>f x.1⟩)
def D0G:Fn:=(B9m A4g).2
theorem D0H(f_i_topFrom:A3m):∀ x,(C5 cfg [B4a f_i_topFrom] (B5 []) 6 [.tmp 2] (Tryz.f312.body.getD .skip) B9k B9l).fn x=B2C f_i_topFrom x.1:=by intro x;kernel_rfl
theorem D0I:B3 Tryz.prog 312 D0G:=sm MO B1 (tc Tryz.call174 C1l A6) Tryz.func312 (by kernel_rfl) (by decide) (D0H A1h)
def C7c:Nat→Option Jn:=B5 [(63,⟨[],lt 22 6 [],false⟩)]
abbrev B6t:List PK:= [.val true (.pair (.rs 9 .str) (.rs 9 .str)) false]
abbrev B6u:List RK:= [.val true A7k,.val false .bool]
def B6v(f:A66):Nat×Fn:=(301,⟨B6t,B6u,fun x=>f x.1⟩)
def C7d:Fn:=(B6v Z9).2
theorem C7e(f_i_DiskOk:A1d)(f_i_ScanRecs:A2B)(f_i_FoldRecs:A2C)(f_i_copyDisk:Y5)(f_i_TopEpoch:A7N):∀ x,(C5 cfg [B2W f_i_DiskOk,B2X f_i_ScanRecs,B2Y f_i_FoldRecs,A7S f_i_copyDisk,B9m f_i_TopEpoch] C7c 36 [.cell 2 29,.tmp 3] (Tryz.f301.body.getD .skip) B6t B6u).fn x=A9y f_i_DiskOk f_i_ScanRecs f_i_FoldRecs f_i_copyDisk f_i_TopEpoch x.1:=by intro x;kernel_rfl
theorem C7f:B3 Tryz.prog 301 C7d:=sm MO B1 (tc Tryz.call169 B7h (tc Tryz.call170 B8v (tc Tryz.call171 B8y (tc Tryz.call221 B2c (tc Tryz.call312 D0I A6))))) Tryz.func301 (by kernel_rfl) (by decide) (C7e A1e A0d A0e U5 A4g)
def D0J:Nat→Option Jn:=B5 [(122,⟨[.t 16 false [.int .i64],.b 5 [.own 36864,.own 36865],.r 36864 9 .str,.r 36865 9 .str],lt 17 31 [.t 6,.x 35,.x 37,.x 44,.x 46],false⟩),(7833,⟨[.t 28 false [.bool]],lt 19 9 [],true⟩)]
abbrev B9n:List PK:= [.val true (.pair (.rs 9 .str) (.rs 9 .str)) false,.val false (.rs 4 .bool) false]
abbrev B9o:List RK:= [.val true A2X]
def B9p(f:A7O):Nat×Fn:=(302,⟨B9n,B9o,fun x=>f x.1 x.2.1⟩)
def D0K:Fn:=(B9p A2N).2
theorem D0L(f_i_DiskOk:A1d)(f_i_copyDisk:Y5):∀ x,(C5 cfg [B2W f_i_DiskOk,A7S f_i_copyDisk] D0J 49 [.cell 4 26] (Tryz.f302.body.getD .skip) B9n B9o).fn x=B2D f_i_DiskOk f_i_copyDisk x.1 x.2.1:=by intro x;kernel_rfl
theorem D0M:B3 Tryz.prog 302 D0K:=sm MO B1 (tc Tryz.call169 B7h (tc Tryz.call221 B2c A6)) Tryz.func302 (by kernel_rfl) (by decide) (D0L A1e U5)
abbrev B1L:List PK:= [.ptr A5o,.val false (.rs 4 .bool) false]
abbrev B1M:List RK:= [.val false .bool]
def B1N(f:A2O):Nat×Fn:=(269,⟨B1L,B1M,fun x=>f x.1 x.2.1⟩)
def C19:Fn:=(B1N A2P).2
theorem C1A(f_i_OpenStore:A66)(f_i_FallDisk:A7O):∀ x,(C5 cfg [B6v f_i_OpenStore,B9p f_i_FallDisk] (B5 []) 24 [.tmp 4] (Tryz.f269.body.getD .skip) B1L B1M).fn x=A5Z f_i_OpenStore f_i_FallDisk x.1 x.2.1:=by intro x;kernel_rfl
theorem C1B:B3 Tryz.prog 269 C19:=sm MO B1 (tc Tryz.call301 C7f (tc Tryz.call302 D0M A6)) Tryz.func269 (by kernel_rfl) (by decide) (C1A Z9 A2N)
def C2x:Nat→Option Jn:=B5 [(122,⟨[.t 23 false [.int .i64],.b 1000 [.own 100000000,.own 100000001,.int .i64,.int .i64,.own 100000002,.own 100000003,.own 100000004,.own 100000005,.own 100000006,.own 100000007,.own 100000008],.r 100000000 9 .str,.r 100000001 9 .str,.r 100000002 109 kUp,.r 100000003 130 A9,.r 100000004 79 B2,.r 100000005 4 .bool,.r 100000006 113 F0,.r 100000007 130 A9,.r 100000008 3 (.int .i64)],lt 24 6 [.r 1006,.r 1007,.r 1010,.r 47104,.r 47105,.r 47108,.r 47109,.r 120832,.r 120833,.r 120836,.r 120837,.r 120838,.r 120839,.r 120840,.r 120841,.r 120842,.t 5],false⟩)]
abbrev B3B:List PK:= [.ptr A0b,.val false (.rs 4 .bool) false]
abbrev B3C:List RK:= [.val false .bool]
def B3D(f:A3T):Nat×Fn:=(205,⟨B3B,B3C,fun x=>f x.1 x.2.1⟩)
def C2y:Fn:=(B3D A0z).2
theorem C2z(f_i_World_rest:W6)(f_i_Server_crash:A2O):∀ x,(C5 cfg [A8W f_i_World_rest,B1N f_i_Server_crash] C2x 30 [.tmp 4] (Tryz.f205.body.getD .skip) B3B B3C).fn x=A6q f_i_World_rest f_i_Server_crash x.1 x.2.1:=by intro x;kernel_rfl
theorem C30:B3 Tryz.prog 205 C2y:=sm MO B1 (tc Tryz.call268 B5C (tc Tryz.call269 C1B A6)) Tryz.func205 (by kernel_rfl) (by decide) (C2z S8 A2P)
abbrev B9q:List PK:= [.ptr A0b,.val true (.pair (.int .i64) (.pair (.int .i64) (.rs 4 .bool))) false]
abbrev B9r:List RK:= [.val false .bool]
def B2i(f:A0p):Nat×Fn:=(112,⟨B9q,B9r,fun x=>f x.1 x.2.1⟩)
def D0N:Fn:=(B2i P0).2
theorem D0O(f_i_World_send:A4a)(f_i_World_serve:A3R)(f_i_World_sync:A4c)(f_i_World_tell:A4f)(f_i_World_cut:A65)(f_i_World_crash:A3T):∀ x,(C5 cfg [B51 f_i_World_send,B37 f_i_World_serve,B56 f_i_World_sync,B59 f_i_World_tell,B6s f_i_World_cut,B3D f_i_World_crash] (B5 []) 41 [.tmp 4] (Tryz.f112.body.getD .skip) B9q B9r).fn x=B2E f_i_World_send f_i_World_serve f_i_World_sync f_i_World_tell f_i_World_cut f_i_World_crash x.1 x.2.1:=by intro x;kernel_rfl
theorem B9s:B3 Tryz.prog 112 D0N:=sm MO B1 (tc Tryz.call200 C6M (tc Tryz.call201 C2s (tc Tryz.call202 C6T (tc Tryz.call203 C6W (tc Tryz.call204 C7b (tc Tryz.call205 C30 A6)))))) Tryz.func112 (by kernel_rfl) (by decide) (D0O A1r A0x A1s A1t A2k A0z)
def D9y:Nat→Option Jn:=B5 [(122,⟨[.t 20 false [.int .i64],.b 5 [.own 100000000,.own 100000001,.int .i64,.int .i64,.own 100000002,.own 100000003,.own 100000004,.own 100000005,.own 100000006,.own 100000007,.own 100000008],.r 100000000 9 .str,.r 100000001 9 .str,.r 100000002 109 kUp,.r 100000003 130 A9,.r 100000004 79 B2,.r 100000005 4 .bool,.r 100000006 113 F0,.r 100000007 130 A9,.r 100000008 3 (.int .i64)],lt 21 6 [.b 7,.r 40960,.r 40961,.r 40964,.r 40965,.r 40966,.r 40967,.r 40968,.r 40969,.r 40970,.r 108544,.r 108545,.r 108548,.r 108549,.r 108550,.r 108551,.r 108552,.r 108553,.r 108554,.t 7],false⟩)]
abbrev D3C:List PK:= [.val true (.pair (.pair (.pair (.pair (.rs 9 .str) (.rs 9 .str)) (.pair (.int .i64) (.pair (.int .i64) (.rs 109 kUp)))) (.rs 130 A9)) (.pair (.rs 79 B2) (.pair (.rs 4 .bool) (.pair (.rs 113 F0) (.pair (.rs 130 A9) (.rs 3 (.int .i64))))))) false,.val false (.rs 77 B3q) false]
abbrev D3D:List RK:= [.val true A0b]
def D3E(f:B8L):Nat×Fn:=(45,⟨D3C,D3D,fun x=>f x.1 x.2.1⟩)
def D9z:Fn:=(D3E B4B).2
theorem E00(f_i_WorldOk:A0U)(f_i_copyWorld:A1B)(f_i_World_do:A0p):∀ x,(C5 cfg [A9P f_i_WorldOk,B0F f_i_copyWorld,B2i f_i_World_do] D9y 28 [.cell 4 38] (Tryz.f45.body.getD .skip) D3C D3D).fn x=C4G f_i_WorldOk f_i_copyWorld f_i_World_do x.1 x.2.1:=by intro x;kernel_rfl
theorem E01:B3 Tryz.prog 45 D9z:=sm MO B1 (tc Tryz.call23 B4b (tc Tryz.call107 B6m (tc Tryz.call112 B9s A6))) Tryz.func45 (by kernel_rfl) (by decide) (E00 U9 Z8 P0)
abbrev E02:List PK:= [.val true (.pair (.pair (.pair (.pair (.rs 9 .str) (.rs 9 .str)) (.pair (.int .i64) (.pair (.int .i64) (.rs 109 kUp)))) (.rs 130 A9)) (.pair (.rs 79 B2) (.pair (.rs 4 .bool) (.pair (.rs 113 F0) (.pair (.rs 130 A9) (.rs 3 (.int .i64))))))) false,.val true (.pair (.int .i64) (.pair (.int .i64) (.rs 4 .bool))) false]
abbrev E03:List RK:= [.val true A0b,.val false .bool]
def E04(f:C4H):Nat×Fn:=(46,⟨E02,E03,fun x=>f x.1 x.2.1⟩)
def E2K:Fn:=(E04 B2F).2
theorem E2L(f_i_WorldOk:A0U)(f_i_copyWorld:A1B)(f_i_World_do:A0p):∀ x,(C5 cfg [A9P f_i_WorldOk,B0F f_i_copyWorld,B2i f_i_World_do] (B5 []) 18 [.cell 4 38,.tmp 5] (Tryz.f46.body.getD .skip) E02 E03).fn x=D3m f_i_WorldOk f_i_copyWorld f_i_World_do x.1 x.2.1:=by intro x;kernel_rfl
theorem E2M:B3 Tryz.prog 46 E2K:=sm MO B1 (tc Tryz.call23 B4b (tc Tryz.call107 B6m (tc Tryz.call112 B9s A6))) Tryz.func46 (by kernel_rfl) (by decide) (E2L U9 Z8 P0)
def C31:Nat→Option Jn:=B5 [(7,⟨[.t 3 false [.int .i64]],lt 8 20 [.t 4],true⟩),(58,⟨[.t 3 false [.int .i64],.t 4 false [.int .i64]],lt 8 20 [],false⟩),(116,⟨[],lt 8 8 [],false⟩)]
abbrev B3E:List PK:= [.val false (.rs 5 (.int .u8)) false]
abbrev B3F:List RK:= [.new (.pair (.rs 5 (.int .u8)) E5)]
def B3G(f:B5V):Nat×Fn:=(67,⟨B3E,B3F,fun x=>f x.1⟩)
def C32:Fn:=(B3G B0X).2
theorem C33:∀ x,(C5 cfg [] C31 32 [.tmp 2] (Tryz.f67.body.getD .skip) B3E B3F).fn x=C06 x.1:=by intro x;kernel_rfl
theorem C34:B3 Tryz.prog 67 C32:=sm MO B1 A6 Tryz.func67 (by kernel_rfl) (by decide) (C33)
abbrev B3H:List PK:= [.ptr (.pair (.rs 5 (.int .u8)) E5)]
abbrev B3I:List RK:= [.val false (.int .i64)]
def A6w(f:A3X):Nat×Fn:=(153,⟨B3H,B3I,fun x=>f x.1⟩)
def C35:Fn:=(A6w A1j).2
theorem C36:∀ x,(C5 cfg [] (B5 []) 58 [.tmp 2] (Tryz.f153.body.getD .skip) B3H B3I).fn x=B7H x.1:=by intro x;kernel_rfl
theorem B3J:B3 Tryz.prog 153 C35:=sm MO B1 A6 Tryz.func153 (by kernel_rfl) (by decide) (C36)
abbrev B1O:List PK:= [.ptr (.pair (.rs 5 (.int .u8)) E5),.val false (.int .i64) false]
abbrev B1P:List RK:= [.val false (.int .i64)]
def V6(f:P8):Nat×Fn:=(86,⟨B1O,B1P,fun x=>f x.1 x.2.1⟩)
def C1C:Fn:=(V6 J6).2
theorem C1D(f_s_l1Byte:A3X):∀ x,(C5 cfg [A6w f_s_l1Byte] (B5 []) 31 [.tmp 4] (Tryz.f86.body.getD .skip) B1O B1P).fn x=A8q f_s_l1Byte x.1 x.2.1:=by intro x;kernel_rfl
theorem A0R:B3 Tryz.prog 86 C1C:=sm MO B1 (tc Tryz.call153 B3J A6) Tryz.func86 (by kernel_rfl) (by decide) (C1D A1j)
abbrev B5D:List PK:= [.ptr (.pair (.rs 5 (.int .u8)) E5),.val false (.rs 3 (.int .i64)) false]
abbrev B5E:List RK:= [.val false (.int .i64)]
def B5F(f:B0b):Nat×Fn:=(115,⟨B5D,B5E,fun x=>f x.1 x.2.1⟩)
def C6c:Fn:=(B5F A5T).2
theorem C6d(f_s_l1Below:P8):∀ x,(C5 cfg [V6 f_s_l1Below] (B5 []) 12 [.tmp 4] (Tryz.f115.body.getD .skip) B5D B5E).fn x=C0A f_s_l1Below x.1 x.2.1:=by intro x;kernel_rfl
theorem C6e:B3 Tryz.prog 115 C6c:=sm MO B1 (tc Tryz.call86 A0R A6) Tryz.func115 (by kernel_rfl) (by decide) (C6d J6)
def C1E:Nat→Option Jn:=B5 [(58,⟨[.t 5 false [.own 100000000],.t 6 false [.int .i64],.b 1000 [.ro 5 (.int .u8),.int .i64,.int .i64],.r 100000000 5 (.int .u8)],lt 8 11 [.r 7,.r 17,.r 18],false⟩)]
abbrev B1Q:List PK:= [.ptr (.pair (.rs 5 (.int .u8)) E5),.val false (.int .i64) false]
abbrev B1R:List RK:= [.val false (.sl 5 (.int .u8))]
def B1S(f:A0I):Nat×Fn:=(139,⟨B1Q,B1R,fun x=>f x.1 x.2.1⟩)
def C1F:Fn:=(B1S R4).2
theorem C1G(f_s_l1Byte:A3X):∀ x,(C5 cfg [A6w f_s_l1Byte] C1E 20 [.tmp 4] (Tryz.f139.body.getD .skip) B1Q B1R).fn x=A5b f_s_l1Byte x.1 x.2.1:=by intro x;kernel_rfl
theorem C1H:B3 Tryz.prog 139 C1F:=sm MO B1 (tc Tryz.call153 B3J A6) Tryz.func139 (by kernel_rfl) (by decide) (C1G A1j)
abbrev B3K:List PK:= [.ptr (.pair (.rs 5 (.int .u8)) E5),.val false (.int .i64) false]
abbrev B3L:List RK:= [.val false .bool]
def B3M(f:A7u):Nat×Fn:=(84,⟨B3K,B3L,fun x=>f x.1 x.2.1⟩)
def C37:Fn:=(B3M A5L).2
theorem C38(f_s_l1Below:P8):∀ x,(C5 cfg [V6 f_s_l1Below] (B5 []) 9 [.tmp 4] (Tryz.f84.body.getD .skip) B3K B3L).fn x=B7I f_s_l1Below x.1 x.2.1:=by intro x;kernel_rfl
theorem C39:B3 Tryz.prog 84 C37:=sm MO B1 (tc Tryz.call86 A0R A6) Tryz.func84 (by kernel_rfl) (by decide) (C38 J6)
def B1T:Nat→Option Jn:=B5 [(3,⟨[.b 1000 [.ro 5 (.int .u8),.int .i64,.int .i64]],lt 34 3 (lt 30 3 (lt 19 4 (lt 7 6 [.t 44,.t 45]))),false⟩),(26,⟨[.t 9 false [.bool]],lt 10 3 [],true⟩),(107,⟨[.t 19 false [.bool]],lt 20 3 [],true⟩),(122,⟨[.t 6 false [.int .i64],.b 5 [.int .i64,.int .i64,.own 100005000],.b 1000 [.ro 5 (.int .u8),.int .i64,.int .i64],.r 100005000 4 .bool],lt 53 11 [.r 61,.r 62],false⟩),(431,⟨[.t 30 false [.bool]],[.t 31,.t 32],true⟩),(1727,⟨[.t 34 false [.bool]],[.t 35,.t 36],true⟩)]
abbrev A49:List PK:= [.ptr (.pair (.rs 5 (.int .u8)) E5),.val true (.pair (.pair (.pair (.pair (.rs 9 .str) (.rs 9 .str)) (.pair (.int .i64) (.pair (.int .i64) (.rs 109 (.pair .str (.pair (.int .i64) (.pair (.rs 5 (.int .u8)) .bool))))))) (.sl 130 A9)) (.pair (.sl 79 (.pair .str (.pair (.rs 5 (.int .u8)) E5))) (.pair (.sl 4 .bool) (.pair (.sl 113 (.pair (.int .i64) (.pair U1 (.rs 5 (.int .u8))))) (.pair (.sl 130 A9) (.sl 3 (.int .i64))))))) true]
abbrev A4A:List RK:= [.val true B3q]
def A0S(f:G2):Nat×Fn:=(110,⟨A49,A4A,fun x=>f x.1 x.2.1⟩)
def B1U:Fn:=(A0S F8).2
theorem B1V(f_s_l1Once:A7u)(f_s_l1Below:P8):∀ x,(C5 cfg [B3M f_s_l1Once,V6 f_s_l1Below] B1T 65 [.cell 4 77] (Tryz.f110.body.getD .skip) A49 A4A).fn x=A0J f_s_l1Once f_s_l1Below x.1 x.2.1:=by intro x;kernel_rfl
theorem A4B:B3 Tryz.prog 110 B1U:=sm MO B1 (tc Tryz.call84 C39 (tc Tryz.call86 A0R A6)) Tryz.func110 (by kernel_rfl) (by decide) (B1V A5L J6)
def B2j:Nat→Option Jn:=B5 [(15,⟨[.t 5 false [.own 100000000],.b 1000 [.ro 5 (.int .u8),.int .i64,.int .i64],.r 100000000 79 B2],lt 12 21 [.r 10,.r 13,.r 27,.r 31,.r 32,.r 122880,.r 126977,.t 7,.x 23],true⟩),(122,⟨[.t 5 false [.own 100000000],.t 7 false [.int .i64],.b 1000 [.ro 5 (.int .u8),.int .i64,.int .i64],.r 100000000 79 B2],lt 15 18 [.r 10,.r 27,.r 31,.r 32,.r 122880,.r 126977,.x 23],false⟩),(506,⟨[.t 9 false [.int .i64],.b 8 [.ro 9 .str,.ro 9 .str,.int .i64,.int .i64,.ro 109 (.pair .str (.pair (.int .i64) (.pair (.rs 5 (.int .u8)) .bool))),.own 100002001,.own 100002002,.own 100002003,.own 100002004,.own 100002005,.own 100002006],.b 1000 [.ro 5 (.int .u8),.int .i64,.int .i64],.r 100002001 130 A9,.r 100002002 79 (.pair .str (.pair (.rs 5 (.int .u8)) E5)),.r 100002003 4 .bool,.r 100002004 113 (.pair (.int .i64) (.pair U1 (.rs 5 (.int .u8)))),.r 100002005 130 A9,.r 100002006 3 (.int .i64)],lt 38 8 [.r 143360,.r 143361,.r 143364,.r 143365,.r 143366,.r 143367,.r 143368,.r 143369,.r 143370,.r 184322,.r 190469,.r 190470,.r 190471,.r 190472,.r 190473,.r 190474,.t 34],false⟩)]
abbrev A4w:List PK:= [.ptr (.pair (.rs 5 (.int .u8)) E5),.val false (.int .i64) false]
abbrev A4x:List RK:= [.val true (.pair (.pair (.pair (.pair (.rs 9 .str) (.rs 9 .str)) (.pair (.int .i64) (.pair (.int .i64) (.rs 109 kUp)))) (.sl 130 A9)) (.pair (.sl 79 (.pair .str (.pair (.rs 5 (.int .u8)) E5))) (.pair (.sl 4 .bool) (.pair (.sl 113 (.pair (.int .i64) (.pair U1 (.rs 5 (.int .u8))))) (.pair (.sl 130 A9) (.sl 3 (.int .i64)))))))]
def A4y(f:U7):Nat×Fn:=(68,⟨A4w,A4x,fun x=>f x.1 x.2.1⟩)
def B2k:Fn:=(A4y P1).2
theorem B2l(f_s_l1Below:P8)(f_s_l18Event_r0_0_r95_1:G2)(f_s_l18Do_W:A0V)(f_s_l1Int:B0b)(f_s_ClientNew:A2e)(f_s_l1Bytes_r0_0:A0I)(f_s_WorldNew:A7J):∀ x,(C5 cfg [V6 f_s_l1Below,A0S f_s_l18Event_r0_0_r95_1,B4t f_s_l18Do_W,B5F f_s_l1Int,B6a f_s_ClientNew,B1S f_s_l1Bytes_r0_0,A36 f_s_WorldNew] B2j 47 [.cell 4 38] (Tryz.f68.body.getD .skip) A4w A4x).fn x=A0q f_s_l1Below f_s_l18Event_r0_0_r95_1 f_s_l18Do_W f_s_l1Int f_s_ClientNew f_s_l1Bytes_r0_0 f_s_WorldNew x.1 x.2.1:=by intro x;kernel_rfl
theorem B2m:B3 Tryz.prog 68 B2k:=sm MO B1 (tc Tryz.call86 A0R (tc Tryz.call110 A4B (tc Tryz.call111 C2O (tc Tryz.call115 C6e (tc Tryz.call138 C7H (tc Tryz.call139 C1H (tc Tryz.call140 B0B A6))))))) Tryz.func68 (by kernel_rfl) (by decide) (B2l J6 F8 S7 A5T Z4 R4 A4S)
def B0G:Nat→Option Jn:=B5 [(63,⟨[.t 7 false [.own 100000006],.r 100000006 77 (.pair (.int .i64) (.pair (.int .i64) (.rs 4 .bool)))],lt 17 17 [.b 6,.b 9,.b 49152,.r 16,.r 32,.r 33,.r 65536,.r 65537,.r 65540,.r 65541,.r 65542,.r 65543,.r 65544,.r 65545,.r 65546,.r 114690,.r 124933,.r 124934,.r 124935,.r 124936,.r 124937,.r 124938,.r 100000000,.r 100000001,.r 100000002,.r 100000003,.r 100000004,.r 100000005,.t 8,.t 9,.t 15],true⟩),(506,⟨[.t 7 false [.own 100000006],.t 8 false [.int .i64],.b 6 [.ro 9 .str,.ro 9 .str,.int .i64,.int .i64,.ro 109 (.pair .str (.pair (.int .i64) (.pair (.rs 5 (.int .u8)) .bool))),.own 100000000,.own 100000001,.own 100000002,.own 100000003,.own 100000004,.own 100000005],.b 49152 [.ro 5 (.int .u8),.int .i64,.int .i64],.r 100000000 130 A9,.r 100000001 79 (.pair .str (.pair (.rs 5 (.int .u8)) E5)),.r 100000002 4 .bool,.r 100000003 113 (.pair (.int .i64) (.pair U1 (.rs 5 (.int .u8)))),.r 100000004 130 A9,.r 100000005 3 (.int .i64),.r 100000006 77 (.pair (.int .i64) (.pair (.int .i64) (.rs 4 .bool)))],lt 21 13 [.b 9,.r 16,.r 32,.r 33,.r 65536,.r 65537,.r 65540,.r 65541,.r 65542,.r 65543,.r 65544,.r 65545,.r 65546,.r 114690,.r 124933,.r 124934,.r 124935,.r 124936,.r 124937,.r 124938,.t 9,.t 15],false⟩)]
abbrev A3A:List PK:= [.val false (.rs 5 (.int .u8)) false]
abbrev A3B:List RK:= [.val true (.pair (.pair (.pair (.pair (.rs 9 .str) (.rs 9 .str)) (.pair (.int .i64) (.pair (.int .i64) (.rs 109 (.pair .str (.pair (.int .i64) (.pair (.rs 5 (.int .u8)) .bool))))))) (.rs 130 A9)) (.pair (.rs 79 (.pair .str (.pair (.rs 5 (.int .u8)) E5))) (.pair (.rs 4 .bool) (.pair (.rs 113 (.pair (.int .i64) (.pair U1 (.rs 5 (.int .u8))))) (.pair (.rs 130 A9) (.rs 3 (.int .i64))))))),.val false (.sl 77 (.pair (.int .i64) (.pair (.int .i64) (.rs 4 .bool))))]
def A3C(f:S1):Nat×Fn:=(44,⟨A3A,A3B,fun x=>f x.1⟩)
def B0H:Fn:=(A3C M8).2
theorem B0I(f_s_l1New:B5V)(f_s_l18Draw_r0_0_r99_0:U7)(f_s_l1Size:B28)(f_s_l1Below:P8)(f_s_l18Copy:A98)(f_s_l18Event_r0_0_r95_1:G2)(f_s_l18Do_W:A0V):∀ x,(C5 B4U [B3G f_s_l1New,A4y f_s_l18Draw_r0_0_r99_0,C6D f_s_l1Size,V6 f_s_l1Below,A48 f_s_l18Copy,A0S f_s_l18Event_r0_0_r95_1,B4t f_s_l18Do_W] B0G 36 [.cell 2 38,.tmp 3] (Tryz.f44.body.getD .skip) A3A A3B).fn x=A01 f_s_l1New f_s_l18Draw_r0_0_r99_0 f_s_l1Size f_s_l1Below f_s_l18Copy f_s_l18Event_r0_0_r95_1 f_s_l18Do_W x.1:=by intro x;kernel_rfl
theorem B0J:B3 Tryz.prog 44 B0H:=sm MO A09 (tc Tryz.call67 C34 (tc Tryz.call68 B2m (tc Tryz.call69 D5M (tc Tryz.call86 A0R (tc Tryz.call109 B18 (tc Tryz.call110 A4B (tc Tryz.call111 C2O A6))))))) Tryz.func44 (by kernel_rfl) (by decide) (B0I B0X P1 A81 J6 A6P F8 S7)
def D0P:Nat→Option Jn:=B5 [(63,⟨[.b 6 [.ro 9 .str,.ro 9 .str,.int .i64,.int .i64,.ro 109 (.pair .str (.pair (.int .i64) (.pair (.rs 5 (.int .u8)) .bool))),.ro 130 A9,.ro 79 (.pair .str (.pair (.rs 5 (.int .u8)) E5)),.ro 4 .bool,.ro 113 (.pair (.int .i64) (.pair U1 (.rs 5 (.int .u8)))),.ro 130 A9,.ro 3 (.int .i64)]],lt 20 15 [.r 135168,.r 135169,.r 135172,.r 135173,.r 135174,.r 135175,.r 135176,.r 135177,.r 135178,.t 7,.x 30],true⟩),(127,⟨[],lt 35 37 [],false⟩),(255,⟨[],lt 72 48 [.t 8,.x 82,.x 96,.x 111],false⟩),(506,⟨[.t 7 false [.int .i64],.b 6 [.ro 9 .str,.ro 9 .str,.int .i64,.int .i64,.ro 109 (.pair .str (.pair (.int .i64) (.pair (.rs 5 (.int .u8)) .bool))),.ro 130 A9,.ro 79 (.pair .str (.pair (.rs 5 (.int .u8)) E5)),.ro 4 .bool,.ro 113 (.pair (.int .i64) (.pair U1 (.rs 5 (.int .u8)))),.ro 130 A9,.ro 3 (.int .i64)]],lt 20 15 [.r 135168,.r 135169,.r 135172,.r 135173,.r 135174,.r 135175,.r 135176,.r 135177,.r 135178,.x 30],false⟩),(2042,⟨[.t 8 false [.int .i64]],lt 72 48 [.x 82,.x 96,.x 111],false⟩)]
abbrev A7T:List PK:= [.val false (.rs 5 (.int .u8)) false]
abbrev B9t:List RK:= [.val false .bool]
def D0Q(f:B8M):Nat×Fn:=(8,⟨A7T,B9t,fun x=>f x.1⟩)
def F_w_FnPlayed:Fn:=(D0Q B2H).2
theorem D0R(f_w_big:C3O)(f_i_Safe:B8J)(f_w_sameUps:A8p)(f_s_DrawPlay_r98_0_r99_0:S1)(f_i_Play:B8L)(f_i_Do:C4H):∀ x,(C5 cfg [D6F f_w_big,D2R f_i_Safe,C1t f_w_sameUps,A3C f_s_DrawPlay_r98_0_r99_0,D3E f_i_Play,E04 f_i_Do] D0P 123 [.tmp 2] (Tryz.f8.body.getD .skip) A7T B9t).fn x=B2G f_w_big f_i_Safe f_w_sameUps f_s_DrawPlay_r98_0_r99_0 f_i_Play f_i_Do x.1:=by intro x;kernel_rfl
theorem D0S:B3 Tryz.prog 8 F_w_FnPlayed:=sm MO B1 (tc Tryz.call15 E1F (tc Tryz.call17 D9s (tc Tryz.call29 D2V (tc Tryz.call44 B0J (tc Tryz.call45 E01 (tc Tryz.call46 E2M A6)))))) Tryz.func8 (by kernel_rfl) (by decide) (D0R C3P B3w A6J M8 B4B B2F)
end
end Go.Proofs.YtpdcljonclhhpaaGreat.Ev
