/- Each function of the program does what its plain function says. -/
import Derived.Test.YtpdcljonclhhpaaGreatG3
import Derived.Test.YtpdcljonclhhpaaGreatFind
set_option linter.unusedVariables false
set_option maxRecDepth 100000
namespace Go.Proofs.YtpdcljonclhhpaaGreat.Ev
noncomputable section
def C1J:Nat→Option Jn:=B5 [(3,⟨[],lt 9 8 [],false⟩)]
abbrev B1D:List PK:= [.ptr A7w,.val false .str false,.val false (.int .i64) false]
abbrev B1E:List RK:= [.val false (.int .i64)]
def B1F(f:A2L):Nat×Fn:=(222,⟨B1D,B1E,fun x=>f x.1 x.2.1 x.2.2.1⟩)
def C1K:Fn:=(B1F A0M).2
theorem C1L(f_i_inRange:C0)(f_i_idOk:U2)(f_i_Store_left:M7)(f_i_Store_write_r97_0:F2)(f_i_Store_find:I3):∀ x,(C7 (cfg.withPk 276 ⟨kUp,4,f_i_Store_find⟩) [I1 f_i_inRange,A6l f_i_idOk,A29 f_i_Store_left,R0 f_i_Store_write_r97_0] C1J 39 [.tmp 6] (Tryz.f222.body.getD .skip) B1D B1E).fn x=A5Y f_i_inRange f_i_idOk f_i_Store_left f_i_Store_write_r97_0 f_i_Store_find x.1 x.2.1 x.2.2.1:=by intro x;kernel_rfl
theorem C1M:B4 Tryz.prog 222 C1K:=sm MO (A7g B1 (fun args w=>Tryz.call276 args w) A0U) (tc Tryz.call80 I8 (tc Tryz.call147 A8d (tc Tryz.call277 A4w (tc Tryz.call278 X8 A8)))) Tryz.func222 (by kernel_rfl) (by decide) (C1L C2 S6 L2 C8 G4)
def C3D:Nat→Option Jn:=B5 [(3,⟨[],lt 12 9 [],false⟩),(15,⟨[.b 1000 [.own 215040,.own 215041,.int .i64,.int .i64,.own 215044],.r 215040 9 .str,.r 215041 9 .str,.r 215044 109 kUp],lt 27 31 [.r 1000,.r 1001,.r 1004],false⟩),(243,⟨[.t 30 false [.bool]],lt 31 18 [],true⟩),(250,⟨[.b 6 [.int .i64],.b 1000 [.own 100003000,.own 100003001,.int .i64,.int .i64,.own 100003002],.r 100003000 9 .str,.r 100003001 9 .str,.r 100003002 109 kUp],lt 60 10 [.r 215040,.r 215041,.r 215044,.r 272384,.r 272385,.r 272388,.t 11],false⟩)]
abbrev B36:List PK:= [.ptr A7w,.val false .str false,.val false (.int .i64) false,.val false (.rs 5 (.int .u8)) false]
abbrev B37:List RK:= [.val false (.int .i64)]
def B38(f:A3Q):Nat×Fn:=(223,⟨B36,B37,fun x=>f x.1 x.2.1 x.2.2.1 x.2.2.2.1⟩)
def C3E:Fn:=(B38 A0y).2
theorem C3F(f_i_inRange:C0)(f_i_idOk:U2)(f_i_Store_left:M7)(f_i_Store_write_r97_0:F2)(f_i_Store_find:I3):∀ x,(C7 (((cfg.withPk 276 ⟨kUp,4,f_i_Store_find⟩).withCk 279 304).withPt [244]) [I1 f_i_inRange,A6l f_i_idOk,A29 f_i_Store_left,R0 f_i_Store_write_r97_0] C3D 70 [.tmp 8] (Tryz.f223.body.getD .skip) B36 B37).fn x=A6q f_i_inRange f_i_idOk f_i_Store_left f_i_Store_write_r97_0 f_i_Store_find x.1 x.2.1 x.2.2.1 x.2.2.2.1:=by intro x;kernel_rfl
theorem C3G:B4 Tryz.prog 223 C3E:=sm MO (D8R (l:= [244]) (D8Q (A7g B1 (fun args w=>Tryz.call276 args w) A0U) (fun args w=>Tryz.call279 args w) E2s) ⟨⟨_,Tryz.underlying244,rfl⟩,trivial⟩) (tc Tryz.call80 I8 (tc Tryz.call147 A8d (tc Tryz.call277 A4w (tc Tryz.call278 X8 A8)))) Tryz.func223 (by kernel_rfl) (by decide) (C3F C2 S6 L2 C8 G4)
abbrev B39:List PK:= [.ptr A5r,.val false (.int .i64) false,.val false .str false]
abbrev B3A:List RK:= [.val true F8]
def A3Z(f:P8):Nat×Fn:=(224,⟨B39,B3A,fun x=>f x.1 x.2.1 x.2.2.1⟩)
def C3H:Fn:=(A3Z N0).2
theorem C3I(f_i_Store_find:I3):∀ x,(C7 (cfg.withPk 276 ⟨kUp,4,f_i_Store_find⟩) [] (B5 []) 22 [.cell 6 126] (Tryz.f224.body.getD .skip) B39 B3A).fn x=A6r f_i_Store_find x.1 x.2.1 x.2.2.1:=by intro x;kernel_rfl
theorem A71:B4 Tryz.prog 224 C3H:=sm MO (A7g B1 (fun args w=>Tryz.call276 args w) A0U) A8 Tryz.func224 (by kernel_rfl) (by decide) (C3I G4)
def C1N:Nat→Option Jn:=B5 [(15,⟨[.b 7 [.str,.int .i64,.any,.bool],.b 1000 [.own 100000000,.own 100000001,.int .i64,.int .i64,.own 100000002],.r 100000000 9 .str,.r 100000001 9 .str,.r 100000002 109 kUp],lt 18 25 [.r 1000,.r 1001,.r 1004,.r 169984,.r 169985,.r 169988],false⟩)]
abbrev B1G:List PK:= [.ptr A7w,.val false .str false,.val false (.int .i64) false]
abbrev B1H:List RK:= [.val false (.int .i64)]
def B1I(f:A2M):Nat×Fn:=(225,⟨B1G,B1H,fun x=>f x.1 x.2.1 x.2.2.1⟩)
def C1O:Fn:=(B1I A0N).2
theorem C1P(f_i_idOk:U2)(f_i_Store_left:M7)(f_i_Store_write_r97_0:F2)(f_i_Crc:A9I)(f_i_Store_find:I3):∀ x,(C7 (cfg.withPk 276 ⟨kUp,4,f_i_Store_find⟩) [A6l f_i_idOk,A29 f_i_Store_left,R0 f_i_Store_write_r97_0,C47 f_i_Crc] C1N 49 [.tmp 6] (Tryz.f225.body.getD .skip) B1G B1H).fn x=A5Z f_i_idOk f_i_Store_left f_i_Store_write_r97_0 f_i_Crc f_i_Store_find x.1 x.2.1 x.2.2.1:=by intro x;kernel_rfl
theorem C1Q:B4 Tryz.prog 225 C1O:=sm MO (A7g B1 (fun args w=>Tryz.call276 args w) A0U) (tc Tryz.call147 A8d (tc Tryz.call277 A4w (tc Tryz.call278 X8 (tc Tryz.call280 D13 A8)))) Tryz.func225 (by kernel_rfl) (by decide) (C1P S6 L2 C8 A7W G4)
abbrev B1J:List PK:= [.ptr A7w,.val false .str false]
abbrev B1K:List RK:= [.val false (.int .i64)]
def B1L(f:A2N):Nat×Fn:=(226,⟨B1J,B1K,fun x=>f x.1 x.2.1⟩)
def C1R:Fn:=(B1L A0O).2
theorem C1S(f_i_idOk:U2)(f_i_Store_left:M7)(f_i_Store_write_r97_0:F2)(f_i_Store_find:I3):∀ x,(C7 (cfg.withPk 276 ⟨kUp,4,f_i_Store_find⟩) [A6l f_i_idOk,A29 f_i_Store_left,R0 f_i_Store_write_r97_0] (B5 []) 24 [.tmp 4] (Tryz.f226.body.getD .skip) B1J B1K).fn x=A5a f_i_idOk f_i_Store_left f_i_Store_write_r97_0 f_i_Store_find x.1 x.2.1:=by intro x;kernel_rfl
theorem C1T:B4 Tryz.prog 226 C1R:=sm MO (A7g B1 (fun args w=>Tryz.call276 args w) A0U) (tc Tryz.call147 A8d (tc Tryz.call277 A4w (tc Tryz.call278 X8 A8))) Tryz.func226 (by kernel_rfl) (by decide) (C1S S6 L2 C8 G4)
def C3J:Nat→Option Jn:=B5 [(115,⟨[.t 20 false [.bool]],lt 21 8 [],true⟩)]
abbrev B3B:List PK:= [.ptr A5r,.val true Y1 false]
abbrev B3C:List RK:= [.val true F8]
def B3D(f:A3R):Nat×Fn:=(227,⟨B3B,B3C,fun x=>f x.1 x.2.1⟩)
def C3K:Fn:=(B3D A0z).2
theorem C3L(f_i_Server_told:P8)(f_i_Store_find:I3):∀ x,(C7 (cfg.withPk 276 ⟨kUp,4,f_i_Store_find⟩) [A3Z f_i_Server_told] C3J 37 [.cell 4 126] (Tryz.f227.body.getD .skip) B3B B3C).fn x=A6s f_i_Server_told f_i_Store_find x.1 x.2.1:=by intro x;kernel_rfl
theorem C3M:B4 Tryz.prog 227 C3K:=sm MO (A7g B1 (fun args w=>Tryz.call276 args w) A0U) (tc Tryz.call224 A71 A8) Tryz.func227 (by kernel_rfl) (by decide) (C3L N0 G4)
def B89:Nat→Option Jn:=B5 [(107,⟨[.t 11 false [.bool]],[.t 12,.t 13],true⟩)]
abbrev A8f:List PK:= [.ptr A5r,.val false (.int .i64) false,.val false .str false]
abbrev A8g:List RK:= [.val true F8]
def A8h(f:A0q):Nat×Fn:=(228,⟨A8f,A8g,fun x=>f x.1 x.2.1 x.2.2.1⟩)
def B8A:Fn:=(A8h I9).2
theorem B8B(f_i_Server_told:P8):∀ x,(C7 cfg [A3Z f_i_Server_told] B89 24 [.cell 6 126] (Tryz.f228.body.getD .skip) A8f A8g).fn x=A3f f_i_Server_told x.1 x.2.1 x.2.2.1:=by intro x;kernel_rfl
theorem B8C:B4 Tryz.prog 228 B8A:=sm MO B1 (tc Tryz.call224 A71 A8) Tryz.func228 (by kernel_rfl) (by decide) (B8B N0)
def B9u:Nat→Option Jn:=B5 [(15,⟨[.t 7 false [.int .i64],.b 8 [.int .i64,.int .i64],.b 1000 [.own 100000000,.own 100000001,.int .i64,.int .i64,.own 100000002,.own 100000003],.r 100000000 9 .str,.r 100000001 9 .str,.r 100000002 109 kUp,.r 100000003 130 B2],lt 15 46 [.r 1000,.r 1001,.r 1004,.r 1005,.r 104448,.r 104449,.r 104452,.r 153600,.r 153601,.r 153604,.r 169984,.r 169985,.r 169988,.r 169989,.r 210944,.r 210945,.r 210948,.r 247808,.r 247809,.r 247812,.t 10,.t 11],false⟩)]
abbrev A9n:List PK:= [.ptr A5r,.val true Y1 false,.val false (.rs 5 (.int .u8)) false]
abbrev A9o:List RK:= [.val true F8]
def A9p(f:A1N):Nat×Fn:=(156,⟨A9n,A9o,fun x=>f x.1 x.2.1 x.2.2.1⟩)
def B9v:Fn:=(A9p Z4).2
theorem B9w(f_i_Store_makeUp:A2L)(f_i_Store_putUp:A3Q)(f_i_Server_told:P8)(f_i_Store_doneUp:A2M)(f_i_Store_dropUp:A2N)(f_i_Server_look:A3R)(f_i_Server_refused:A0q):∀ x,(C7 cfg [B1F f_i_Store_makeUp,B38 f_i_Store_putUp,A3Z f_i_Server_told,B1I f_i_Store_doneUp,B1L f_i_Store_dropUp,B3D f_i_Server_look,A8h f_i_Server_refused] B9u 69 [.cell 6 126] (Tryz.f156.body.getD .skip) A9n A9o).fn x=A4b f_i_Store_makeUp f_i_Store_putUp f_i_Server_told f_i_Store_doneUp f_i_Store_dropUp f_i_Server_look f_i_Server_refused x.1 x.2.1 x.2.2.1:=by intro x;kernel_rfl
theorem B9x:B4 Tryz.prog 156 B9v:=sm MO B1 (tc Tryz.call222 C1M (tc Tryz.call223 C3G (tc Tryz.call224 A71 (tc Tryz.call225 C1Q (tc Tryz.call226 C1T (tc Tryz.call227 C3M (tc Tryz.call228 B8C A8))))))) Tryz.func156 (by kernel_rfl) (by decide) (B9w A0M A0y N0 A0N A0O A0z I9)
def C1U:Nat→Option Jn:=B5 [(3,⟨[],lt 10 11 [],false⟩)]
abbrev B1M:List PK:= [.ptr A5r,.val false (.int .i64) false,.val true Y1 false,.val false (.rs 5 (.int .u8)) false]
abbrev B1N:List RK:= [.val false .bool]
def B1O(f:A2O):Nat×Fn:=(88,⟨B1M,B1N,fun x=>f x.1 x.2.1 x.2.2.1 x.2.2.2.1⟩)
def C1V:Fn:=(B1O A2P).2
theorem C1W(f_i_ReqOk:A5X)(f_i_Server_answer:A1N):∀ x,(C7 cfg [C1I f_i_ReqOk,A9p f_i_Server_answer] C1U 37 [.tmp 8] (Tryz.f88.body.getD .skip) B1M B1N).fn x=A5b f_i_ReqOk f_i_Server_answer x.1 x.2.1 x.2.2.1 x.2.2.2.1:=by intro x;kernel_rfl
theorem C1X:B4 Tryz.prog 88 C1V:=sm MO B1 (tc Tryz.call79 C9g (tc Tryz.call156 B9x A8)) Tryz.func88 (by kernel_rfl) (by decide) (C1W A3u Z4)
abbrev B3E:List PK:= [.ptr A0G,.val false (.int .i64) false]
abbrev B3F:List RK:= [.val false .bool]
def B3G(f:A3S):Nat×Fn:=(201,⟨B3E,B3F,fun x=>f x.1 x.2.1⟩)
def C3N:Fn:=(B3G A10).2
theorem C3O(f_i_inRange:C0)(f_i_Server_serve:A2O)(f_slices_Delete_impl_Want_impl_Want:I4):∀ x,(C7 cfg [I1 f_i_inRange,B1O f_i_Server_serve,V6 f_slices_Delete_impl_Want_impl_Want] (B5 []) 44 [.tmp 4] (Tryz.f201.body.getD .skip) B3E B3F).fn x=A6t f_i_inRange f_i_Server_serve f_slices_Delete_impl_Want_impl_Want x.1 x.2.1:=by intro x;kernel_rfl
theorem C3P:B4 Tryz.prog 201 C3N:=sm MO B1 (tc Tryz.call80 I8 (tc Tryz.call88 C1X (tc Tryz.call260 A2z A8))) Tryz.func201 (by kernel_rfl) (by decide) (C3O C2 A2P I5)
abbrev B72:List PK:= [.val true (.pair (.rs 9 .str) (.rs 9 .str)) false]
abbrev B73:List RK:= [.val true A59]
def B74(f:A66):Nat×Fn:=(296,⟨B72,B73,fun x=>f x.1⟩)
def C8M:Fn:=(B74 A2p).2
theorem C8N(f_slices_Clone_string_string:H3):∀ x,(C7 cfg [U0 f_slices_Clone_string_string] (B5 []) 10 [.cell 2 26] (Tryz.f296.body.getD .skip) B72 B73).fn x=B06 f_slices_Clone_string_string x.1:=by intro x;kernel_rfl
theorem C8O:B4 Tryz.prog 296 C8M:=sm MO B1 (tc Tryz.call275 A19 A8) Tryz.func296 (by kernel_rfl) (by decide) (C8N F9)
abbrev A8i:List PK:= [.ptr A5r]
abbrev A8j:List RK:= [.val false (.sl 130 B2)]
def A8k(f:A0r):Nat×Fn:=(261,⟨A8i,A8j,fun x=>f x.1⟩)
def B8D:Fn:=(A8k A0s).2
theorem B8E(f_i_FlushDisk:A66):∀ x,(C7 cfg [B74 f_i_FlushDisk] (B5 []) 22 [.tmp 2] (Tryz.f261.body.getD .skip) A8i A8j).fn x=A3g f_i_FlushDisk x.1:=by intro x;kernel_rfl
theorem B8F:B4 Tryz.prog 261 B8D:=sm MO B1 (tc Tryz.call296 C8O A8) Tryz.func261 (by kernel_rfl) (by decide) (B8E A2p)
abbrev B5B:List PK:= [.ptr A0G]
abbrev B5C:List RK:= [.val false .bool]
def B5D(f:A4c):Nat×Fn:=(202,⟨B5B,B5C,fun x=>f x.1⟩)
def C7B:Fn:=(B5D A1x).2
theorem C7C(f_i_Server_syncAll:A0r):∀ x,(C7 cfg [A8k f_i_Server_syncAll] (B5 []) 30 [.tmp 2] (Tryz.f202.body.getD .skip) B5B B5C).fn x=A8I f_i_Server_syncAll x.1:=by intro x;kernel_rfl
theorem C7D:B4 Tryz.prog 202 C7B:=sm MO B1 (tc Tryz.call261 B8F A8) Tryz.func202 (by kernel_rfl) (by decide) (C7C A0s)
abbrev A9q:List PK:= [.ptr B3,.val false (.int .i64) false]
abbrev A9r:List RK:= []
def A9s(f:A1O):Nat×Fn:=(311,⟨A9q,A9r,fun x=>f x.1 x.2.1⟩)
def B9y:Fn:=(A9s Z5).2
theorem B9z(f_i_inRange:C0):∀ x,(C7 cfg [I1 f_i_inRange] (B5 []) 32 [] (Tryz.f311.body.getD .skip) A9q A9r).fn x=A4d f_i_inRange x.1 x.2.1:=by intro x;kernel_rfl
theorem C00:B4 Tryz.prog 311 B9y:=sm MO B1 (tc Tryz.call80 I8 A8) Tryz.func311 (by kernel_rfl) (by decide) (B9z C2)
def C3Q:Nat→Option Jn:=B5 [(14,⟨[.t 15 false [.bool]],lt 16 12 [],true⟩),(59,⟨[.t 32 false [.bool]],lt 33 10 [],true⟩),(239,⟨[.t 47 false [.bool]],lt 48 6 [],true⟩),(959,⟨[.t 57 false [.bool]],lt 58 10 [],true⟩),(3839,⟨[.t 71 false [.bool]],lt 72 6 [],true⟩)]
abbrev B3H:List PK:= [.ptr B3,.val true F8 false]
abbrev B3I:List RK:= []
def B3J(f:A3T):Nat×Fn:=(297,⟨B3H,B3I,fun x=>f x.1 x.2.1⟩)
def C3R:Fn:=(B3J A11).2
theorem C3S(f_i_Client_howFar:A1O):∀ x,(C7 cfg [A9s f_i_Client_howFar] C3Q 88 [] (Tryz.f297.body.getD .skip) B3H B3I).fn x=A6u f_i_Client_howFar x.1 x.2.1:=by intro x;kernel_rfl
theorem C3T:B4 Tryz.prog 297 C3R:=sm MO B1 (tc Tryz.call311 C00 A8) Tryz.func297 (by kernel_rfl) (by decide) (C3S Z5)
abbrev C01:List PK:= [.val true (.pair .str (.pair (.rs 5 (.int .u8)) F8)) false,.val true F8 false]
abbrev C02:List RK:= [.val true B3]
def C03(f:A7Y):Nat×Fn:=(263,⟨C01,C02,fun x=>f x.1 x.2.1⟩)
def D1J:Fn:=(C03 A4e).2
theorem D1K(f_i_RespOk:A04)(f_i_ClientOk:O6)(f_i_copyClient:O8)(f_i_Client_isOver:M0)(f_i_Client_hear:A3T):∀ x,(C7 cfg [B2h f_i_RespOk,A4p f_i_ClientOk,A4t f_i_copyClient,V1 f_i_Client_isOver,B3J f_i_Client_hear] (B5 []) 23 [.cell 4 79] (Tryz.f263.body.getD .skip) C01 C02).fn x=B2H f_i_RespOk f_i_ClientOk f_i_copyClient f_i_Client_isOver f_i_Client_hear x.1 x.2.1:=by intro x;kernel_rfl
theorem D1L:B4 Tryz.prog 263 D1J:=sm MO B1 (tc Tryz.call93 B85 (tc Tryz.call145 A7d (tc Tryz.call190 A8e (tc Tryz.call295 A0v (tc Tryz.call297 C3T A8))))) Tryz.func263 (by kernel_rfl) (by decide) (D1K W9 L6 L1 J8 A11)
abbrev B5E:List PK:= [.ptr A0G,.val false (.int .i64) false]
abbrev B5F:List RK:= [.val false .bool]
def B5G(f:A4f):Nat×Fn:=(203,⟨B5E,B5F,fun x=>f x.1 x.2.1⟩)
def C7E:Fn:=(B5G A1y).2
theorem C7F(f_i_inRange:C0)(f_slices_Delete_impl_Held_impl_Held:I6)(f_i_HearResp:A7Y):∀ x,(C7 cfg [I1 f_i_inRange,V7 f_slices_Delete_impl_Held_impl_Held,C03 f_i_HearResp] (B5 []) 85 [.tmp 4] (Tryz.f203.body.getD .skip) B5E B5F).fn x=A8J f_i_inRange f_slices_Delete_impl_Held_impl_Held f_i_HearResp x.1 x.2.1:=by intro x;kernel_rfl
theorem C7G:B4 Tryz.prog 203 C7E:=sm MO B1 (tc Tryz.call80 I8 (tc Tryz.call262 A33 (tc Tryz.call263 D1L A8))) Tryz.func203 (by kernel_rfl) (by decide) (C7F C2 I7 A4e)
abbrev C7H:List PK:= [.val true (.pair .str (.pair (.rs 5 (.int .u8)) F8)) false]
abbrev C7I:List RK:= [.val true B3]
def C7J(f:B2I):Nat×Fn:=(300,⟨C7H,C7I,fun x=>f x.1⟩)
def D6n:Fn:=(C7J A8K).2
theorem D6o(f_i_ClientOk:O6)(f_i_copyClient:O8)(f_i_Client_isOver:M0):∀ x,(C7 cfg [A4p f_i_ClientOk,A4t f_i_copyClient,V1 f_i_Client_isOver] (B5 []) 14 [.cell 2 79] (Tryz.f300.body.getD .skip) C7H C7I).fn x=B7h f_i_ClientOk f_i_copyClient f_i_Client_isOver x.1:=by intro x;kernel_rfl
theorem D6p:B4 Tryz.prog 300 D6n:=sm MO B1 (tc Tryz.call145 A7d (tc Tryz.call190 A8e (tc Tryz.call295 A0v A8))) Tryz.func300 (by kernel_rfl) (by decide) (D6o L6 L1 J8)
abbrev B5H:List PK:= [.ptr A0G,.val false (.int .i64) false]
abbrev B5I:List RK:= []
def A8l(f:X0):Nat×Fn:=(268,⟨B5H,B5I,fun x=>f x.1 x.2.1⟩)
def C7K:Fn:=(A8l S7).2
theorem C7L(f_i_CutOff:B2I):∀ x,(C7 cfg [C7J f_i_CutOff] (B5 []) 24 [] (Tryz.f268.body.getD .skip) B5H B5I).fn x=A8L f_i_CutOff x.1 x.2.1:=by intro x;kernel_rfl
theorem B5J:B4 Tryz.prog 268 C7K:=sm MO B1 (tc Tryz.call300 D6p A8) Tryz.func268 (by kernel_rfl) (by decide) (C7L A8K)
abbrev B75:List PK:= [.ptr A0G,.val false (.int .i64) false]
abbrev B76:List RK:= [.val false .bool]
def B77(f:A67):Nat×Fn:=(204,⟨B75,B76,fun x=>f x.1 x.2.1⟩)
def C8P:Fn:=(B77 A2q).2
theorem C8Q(f_i_inRange:C0)(f_slices_DeleteFunc_impl_Want_impl_Want:G8)(f_slices_DeleteFunc_impl_Held_impl_Held:H0)(f_i_World_rest:X0):∀ x,(C7 cfg [I1 f_i_inRange,R7 f_slices_DeleteFunc_impl_Want_impl_Want,R8 f_slices_DeleteFunc_impl_Held_impl_Held,A8l f_i_World_rest] (B5 []) 48 [.tmp 4] (Tryz.f204.body.getD .skip) B75 B76).fn x=B07 f_i_inRange f_slices_DeleteFunc_impl_Want_impl_Want f_slices_DeleteFunc_impl_Held_impl_Held f_i_World_rest x.1 x.2.1:=by intro x;kernel_rfl
theorem C8R:B4 Tryz.prog 204 C8P:=sm MO B1 (tc Tryz.call80 I8 (tcC Tryz.call265 A1W (tcC Tryz.call267 A1a (tc Tryz.call268 B5J A8)))) Tryz.func204 (by kernel_rfl) (by decide) (C8Q C2 G9 H1 S7)
abbrev C04:List PK:= [.val true (.pair (.rs 9 .str) (.rs 9 .str)) false]
abbrev C05:List RK:= [.val false (.int .i64)]
def C06(f:A7Z):Nat×Fn:=(312,⟨C04,C05,fun x=>f x.1⟩)
def D1M:Fn:=(C06 A4g).2
theorem D1N(f_i_topFrom:A3t):∀ x,(C7 cfg [B4z f_i_topFrom] (B5 []) 6 [.tmp 2] (Tryz.f312.body.getD .skip) C04 C05).fn x=B2J f_i_topFrom x.1:=by intro x;kernel_rfl
theorem D1O:B4 Tryz.prog 312 D1M:=sm MO B1 (tc Tryz.call174 C2k A8) Tryz.func312 (by kernel_rfl) (by decide) (D1N A1t)
def C8S:Nat→Option Jn:=B5 [(63,⟨[],lt 22 6 [],false⟩)]
abbrev B78:List PK:= [.val true (.pair (.rs 9 .str) (.rs 9 .str)) false]
abbrev B79:List RK:= [.val true A7w,.val false .bool]
def B7A(f:A68):Nat×Fn:=(301,⟨B78,B79,fun x=>f x.1⟩)
def C8T:Fn:=(B7A A06).2
theorem C8U(f_i_DiskOk:A1p)(f_i_ScanRecs:A2J)(f_i_FoldRecs:A2K)(f_i_copyDisk:Z3)(f_i_TopEpoch:A7Z):∀ x,(C7 cfg [B2i f_i_DiskOk,B2j f_i_ScanRecs,B2k f_i_FoldRecs,A7e f_i_copyDisk,C06 f_i_TopEpoch] C8S 36 [.cell 2 29,.tmp 3] (Tryz.f301.body.getD .skip) B78 B79).fn x=B08 f_i_DiskOk f_i_ScanRecs f_i_FoldRecs f_i_copyDisk f_i_TopEpoch x.1:=by intro x;kernel_rfl
theorem C8V:B4 Tryz.prog 301 C8T:=sm MO B1 (tc Tryz.call169 B86 (tc Tryz.call170 B9i (tc Tryz.call171 B9l (tc Tryz.call221 B2l (tc Tryz.call312 D1O A8))))) Tryz.func301 (by kernel_rfl) (by decide) (C8U A1q A0n A0o U7 A4g)
def D1P:Nat→Option Jn:=B5 [(122,⟨[.t 16 false [.int .i64],.b 5 [.own 36864,.own 36865],.r 36864 9 .str,.r 36865 9 .str],lt 17 31 [.t 6,.x 35,.x 37,.x 44,.x 46],false⟩),(7833,⟨[.t 28 false [.bool]],lt 19 9 [],true⟩)]
abbrev C07:List PK:= [.val true (.pair (.rs 9 .str) (.rs 9 .str)) false,.val false (.rs 4 .bool) false]
abbrev C08:List RK:= [.val true A59]
def C09(f:A7a):Nat×Fn:=(302,⟨C07,C08,fun x=>f x.1 x.2.1⟩)
def D1Q:Fn:=(C09 A2Q).2
theorem D1R(f_i_DiskOk:A1p)(f_i_copyDisk:Z3):∀ x,(C7 cfg [B2i f_i_DiskOk,A7e f_i_copyDisk] D1P 49 [.cell 4 26] (Tryz.f302.body.getD .skip) C07 C08).fn x=B2K f_i_DiskOk f_i_copyDisk x.1 x.2.1:=by intro x;kernel_rfl
theorem D1S:B4 Tryz.prog 302 D1Q:=sm MO B1 (tc Tryz.call169 B86 (tc Tryz.call221 B2l A8)) Tryz.func302 (by kernel_rfl) (by decide) (D1R A1q U7)
abbrev B1P:List PK:= [.ptr A5r,.val false (.rs 4 .bool) false]
abbrev B1Q:List RK:= [.val false .bool]
def B1R(f:A2R):Nat×Fn:=(269,⟨B1P,B1Q,fun x=>f x.1 x.2.1⟩)
def C1Y:Fn:=(B1R A2S).2
theorem C1Z(f_i_OpenStore:A68)(f_i_FallDisk:A7a):∀ x,(C7 cfg [B7A f_i_OpenStore,C09 f_i_FallDisk] (B5 []) 24 [.tmp 4] (Tryz.f269.body.getD .skip) B1P B1Q).fn x=A5c f_i_OpenStore f_i_FallDisk x.1 x.2.1:=by intro x;kernel_rfl
theorem C1a:B4 Tryz.prog 269 C1Y:=sm MO B1 (tc Tryz.call301 C8V (tc Tryz.call302 D1S A8)) Tryz.func269 (by kernel_rfl) (by decide) (C1Z A06 A2Q)
def C3U:Nat→Option Jn:=B5 [(122,⟨[.t 23 false [.int .i64],.b 1000 [.own 100000000,.own 100000001,.int .i64,.int .i64,.own 100000002,.own 100000003,.own 100000004,.own 100000005,.own 100000006,.own 100000007,.own 100000008],.r 100000000 9 .str,.r 100000001 9 .str,.r 100000002 109 kUp,.r 100000003 130 B2,.r 100000004 79 B3,.r 100000005 4 .bool,.r 100000006 113 G0,.r 100000007 130 B2,.r 100000008 3 (.int .i64)],lt 24 6 [.r 1006,.r 1007,.r 1010,.r 47104,.r 47105,.r 47108,.r 47109,.r 120832,.r 120833,.r 120836,.r 120837,.r 120838,.r 120839,.r 120840,.r 120841,.r 120842,.t 5],false⟩)]
abbrev B3K:List PK:= [.ptr A0G,.val false (.rs 4 .bool) false]
abbrev B3L:List RK:= [.val false .bool]
def B3M(f:A3U):Nat×Fn:=(205,⟨B3K,B3L,fun x=>f x.1 x.2.1⟩)
def C3V:Fn:=(B3M A12).2
theorem C3W(f_i_World_rest:X0)(f_i_Server_crash:A2R):∀ x,(C7 cfg [A8l f_i_World_rest,B1R f_i_Server_crash] C3U 30 [.tmp 4] (Tryz.f205.body.getD .skip) B3K B3L).fn x=A6v f_i_World_rest f_i_Server_crash x.1 x.2.1:=by intro x;kernel_rfl
theorem C3X:B4 Tryz.prog 205 C3V:=sm MO B1 (tc Tryz.call268 B5J (tc Tryz.call269 C1a A8)) Tryz.func205 (by kernel_rfl) (by decide) (C3W S7 A2S)
abbrev C0A:List PK:= [.ptr A0G,.val true (.pair (.int .i64) (.pair (.int .i64) (.rs 4 .bool))) false]
abbrev C0B:List RK:= [.val false .bool]
def B2r(f:Z6):Nat×Fn:=(112,⟨C0A,C0B,fun x=>f x.1 x.2.1⟩)
def D1T:Fn:=(B2r D5).2
theorem D1U(f_i_World_send:A4a)(f_i_World_serve:A3S)(f_i_World_sync:A4c)(f_i_World_tell:A4f)(f_i_World_cut:A67)(f_i_World_crash:A3U):∀ x,(C7 cfg [B58 f_i_World_send,B3G f_i_World_serve,B5D f_i_World_sync,B5G f_i_World_tell,B77 f_i_World_cut,B3M f_i_World_crash] (B5 []) 41 [.tmp 4] (Tryz.f112.body.getD .skip) C0A C0B).fn x=A0t f_i_World_send f_i_World_serve f_i_World_sync f_i_World_tell f_i_World_cut f_i_World_crash x.1 x.2.1:=by intro x;kernel_rfl
theorem C0C:B4 Tryz.prog 112 D1T:=sm MO B1 (tc Tryz.call200 C76 (tc Tryz.call201 C3P (tc Tryz.call202 C7D (tc Tryz.call203 C7G (tc Tryz.call204 C8R (tc Tryz.call205 C3X A8)))))) Tryz.func112 (by kernel_rfl) (by decide) (D1U A1w A10 A1x A1y A2q A12)
def C3Y:Nat→Option Jn:=B5 [(2,⟨[.b 1000 [.own 100000000,.own 100000001,.int .i64,.int .i64,.own 100000002,.own 100000003,.own 100000004,.own 100000005,.own 100000006,.own 100000007,.own 100000008],.r 100000000 9 .str,.r 100000001 9 .str,.r 100000002 109 kUp,.r 100000003 130 B2,.r 100000004 79 B3,.r 100000005 4 .bool,.r 100000006 113 G0,.r 100000007 130 B2,.r 100000008 3 (.int .i64)],lt 4 4 [.r 1000,.r 1001,.r 1004,.r 1005,.r 1006,.r 1007,.r 1008,.r 1009,.r 1010,.r 34816,.r 34817,.r 34820,.r 34821,.r 34822,.r 34823,.r 34824,.r 34825,.r 34826],false⟩)]
abbrev B3N:List PK:= [.ptr A0G,.val false (.int .i64) false]
abbrev B3O:List RK:= []
def B3P(f:A3V):Nat×Fn:=(192,⟨B3N,B3O,fun x=>f x.1 x.2.1⟩)
def C3Z:Fn:=(B3P A3W).2
theorem C3a(f_i_World_do:Z6):∀ x,(C7 cfg [B2r f_i_World_do] C3Y 8 [] (Tryz.f192.body.getD .skip) B3N B3O).fn x=A6w f_i_World_do x.1 x.2.1:=by intro x;kernel_rfl
theorem C3b:B4 Tryz.prog 192 C3Z:=sm MO B1 (tc Tryz.call112 C0C A8) Tryz.func192 (by kernel_rfl) (by decide) (C3a D5)
def C7M:Nat→Option Jn:=B5 [(62,⟨[.t 15 false [.int .i64],.b 1000 [.own 100000000,.own 100000001,.int .i64,.int .i64,.own 100000002,.own 100000003,.own 100000004,.own 100000005,.own 100000006,.own 100000007,.own 100000008],.r 100000000 9 .str,.r 100000001 9 .str,.r 100000002 109 kUp,.r 100000003 130 B2,.r 100000004 79 B3,.r 100000005 4 .bool,.r 100000006 113 G0,.r 100000007 130 B2,.r 100000008 3 (.int .i64)],lt 16 7 [.r 43008,.r 43009,.r 43012,.r 43013,.r 43014,.r 43015,.r 43016,.r 43017,.r 43018,.r 92160,.r 92161,.r 92164,.r 92165,.r 92166,.r 92167,.r 92168,.r 92169,.r 92170,.t 2],false⟩)]
abbrev B5K:List PK:= [.ptr A0G]
abbrev B5L:List RK:= []
def B5M(f:A1z):Nat×Fn:=(108,⟨B5K,B5L,fun x=>f x.1⟩)
def C7N:Fn:=(B5M O9).2
theorem C7O(f_i_World_do:Z6)(f_i_World_again:A3V):∀ x,(C7 cfg [B2r f_i_World_do,B3P f_i_World_again] C7M 23 [] (Tryz.f108.body.getD .skip) B5K B5L).fn x=A8M f_i_World_do f_i_World_again x.1:=by intro x;kernel_rfl
theorem C7P:B4 Tryz.prog 108 C7N:=sm MO B1 (tc Tryz.call112 C0C (tc Tryz.call192 C3b A8)) Tryz.func108 (by kernel_rfl) (by decide) (C7O D5 A3W)
def D6q:Nat→Option Jn:=B5 [(7,⟨[],lt 8 8 [],false⟩),(122,⟨[.t 18 false [.int .i64],.b 5 [.own 100001000,.own 100001001,.int .i64,.int .i64,.own 100001002,.own 100001003,.own 100001004,.own 100001005,.own 100001006,.own 100001007,.own 100001008],.r 100001000 9 .str,.r 100001001 9 .str,.r 100001002 109 kUp,.r 100001003 130 B2,.r 100001004 79 B3,.r 100001005 4 .bool,.r 100001006 113 G0,.r 100001007 130 B2,.r 100001008 3 (.int .i64)],lt 19 4 [.r 32768,.r 32769,.r 32772,.r 32773,.r 32774,.r 32775,.r 32776,.r 32777,.r 32778,.r 88064,.r 88065,.r 88068,.r 88069,.r 88070,.r 88071,.r 88072,.r 88073,.r 88074,.r 92160,.r 92161,.r 92164,.r 92165,.r 92166,.r 92167,.r 92168,.r 92169,.r 92170],false⟩)]
abbrev C7Q:List PK:= [.val true (.pair (.pair (.pair (.pair (.rs 9 .str) (.rs 9 .str)) (.pair (.int .i64) (.pair (.int .i64) (.rs 109 kUp)))) (.rs 130 B2)) (.pair (.rs 79 B3) (.pair (.rs 4 .bool) (.pair (.rs 113 G0) (.pair (.rs 130 B2) (.rs 3 (.int .i64))))))) false,.val false (.int .i64) false]
abbrev C7R:List RK:= [.val true A0G]
def C7S(f:B2L):Nat×Fn:=(41,⟨C7Q,C7R,fun x=>f x.1 x.2.1⟩)
def D6r:Fn:=(C7S A5d).2
theorem D6s(f_i_WorldOk:A3v)(f_i_inRange:C0)(f_i_copyWorld:A65)(f_i_World_half:A1z):∀ x,(C7 cfg [B50 f_i_WorldOk,I1 f_i_inRange,B71 f_i_copyWorld,B5M f_i_World_half] D6q 24 [.cell 4 38] (Tryz.f41.body.getD .skip) C7Q C7R).fn x=B7i f_i_WorldOk f_i_inRange f_i_copyWorld f_i_World_half x.1 x.2.1:=by intro x;kernel_rfl
theorem D6t:B4 Tryz.prog 41 D6r:=sm MO B1 (tc Tryz.call23 C2q (tc Tryz.call80 I8 (tc Tryz.call107 C8L (tc Tryz.call108 C7P A8)))) Tryz.func41 (by kernel_rfl) (by decide) (D6s A0Z C2 A2o O9)
def D4P:Nat→Option Jn:=B5 [(26,⟨[.t 8 false [.int .i64]],lt 9 7 [.b 4,.t 4],false⟩)]
abbrev C2u:List PK:= [.val true (.pair (.pair (.pair (.pair (.rs 9 .str) (.rs 9 .str)) (.pair (.int .i64) (.pair (.int .i64) (.rs 109 kUp)))) (.rs 130 B2)) (.pair (.rs 79 B3) (.pair (.rs 4 .bool) (.pair (.rs 113 G0) (.pair (.rs 130 B2) (.rs 3 (.int .i64))))))) false]
abbrev C2v:List RK:= [.val false .bool]
def C2w(f:A9L):Nat×Fn:=(42,⟨C2u,C2v,fun x=>f x.1⟩)
def D4Q:Fn:=(C2w A6V).2
theorem D4R:∀ x,(C7 cfg [] D4P 16 [.tmp 2] (Tryz.f42.body.getD .skip) C2u C2v).fn x=B4M x.1:=by intro x;kernel_rfl
theorem D4S:B4 Tryz.prog 42 D4Q:=sm MO B1 A8 Tryz.func42 (by kernel_rfl) (by decide) (D4R)
def D4T:Nat→Option Jn:=B5 [(58,⟨[.t 3 false [.int .i64],.t 11 false [.int .i64]],lt 12 23 (lt 5 3 [.b 5,.b 6,.r 90114]),false⟩)]
abbrev C2x:List PK:= [.val true (.pair (.pair (.pair (.pair (.rs 9 .str) (.rs 9 .str)) (.pair (.int .i64) (.pair (.int .i64) (.rs 109 kUp)))) (.rs 130 B2)) (.pair (.rs 79 B3) (.pair (.rs 4 .bool) (.pair (.rs 113 G0) (.pair (.rs 130 B2) (.rs 3 (.int .i64))))))) false]
abbrev C2y:List RK:= [.val false (.int .i64)]
def C2z(f:A9M):Nat×Fn:=(43,⟨C2x,C2y,fun x=>f x.1⟩)
def D4U:Fn:=(C2z A6W).2
theorem D4V(f_i_UpAt:Z1):∀ x,(C7 cfg [B4x f_i_UpAt] D4T 36 [.tmp 2] (Tryz.f43.body.getD .skip) C2x C2y).fn x=B4N f_i_UpAt x.1:=by intro x;kernel_rfl
theorem D4W:B4 Tryz.prog 43 D4U:=sm MO B1 (tc Tryz.call75 B9c A8) Tryz.func43 (by kernel_rfl) (by decide) (D4V W8)
def C3c:Nat→Option Jn:=B5 [(7,⟨[.t 3 false [.int .i64]],lt 8 20 [.t 4],true⟩),(58,⟨[.t 3 false [.int .i64],.t 4 false [.int .i64]],lt 8 20 [],false⟩),(116,⟨[],lt 8 8 [],false⟩)]
abbrev B3Q:List PK:= [.val false (.rs 5 (.int .u8)) false]
abbrev B3R:List RK:= [.new (.pair (.rs 5 (.int .u8)) F8)]
def B3S(f:B5e):Nat×Fn:=(67,⟨B3Q,B3R,fun x=>f x.1⟩)
def C3d:Fn:=(B3S B0d).2
theorem C3e:∀ x,(C7 cfg [] C3c 32 [.tmp 2] (Tryz.f67.body.getD .skip) B3Q B3R).fn x=C0N x.1:=by intro x;kernel_rfl
theorem C3f:B4 Tryz.prog 67 C3d:=sm MO B1 A8 Tryz.func67 (by kernel_rfl) (by decide) (C3e)
abbrev B3T:List PK:= [.ptr (.pair (.rs 5 (.int .u8)) F8)]
abbrev B3U:List RK:= [.val false (.int .i64)]
def A72(f:A3a):Nat×Fn:=(153,⟨B3T,B3U,fun x=>f x.1⟩)
def C3g:Fn:=(A72 A1f).2
theorem C3h:∀ x,(C7 cfg [] (B5 []) 58 [.tmp 2] (Tryz.f153.body.getD .skip) B3T B3U).fn x=B7O x.1:=by intro x;kernel_rfl
theorem B3V:B4 Tryz.prog 153 C3g:=sm MO B1 A8 Tryz.func153 (by kernel_rfl) (by decide) (C3h)
abbrev B1S:List PK:= [.ptr (.pair (.rs 5 (.int .u8)) F8),.val false (.int .i64) false]
abbrev B1T:List RK:= [.val false (.int .i64)]
def A0V(f:V2):Nat×Fn:=(86,⟨B1S,B1T,fun x=>f x.1 x.2.1⟩)
def C1b:Fn:=(A0V L9).2
theorem C1c(f_s_l1Byte:A3a):∀ x,(C7 cfg [A72 f_s_l1Byte] (B5 []) 31 [.tmp 4] (Tryz.f86.body.getD .skip) B1S B1T).fn x=A90 f_s_l1Byte x.1 x.2.1:=by intro x;kernel_rfl
theorem A2W:B4 Tryz.prog 86 C1b:=sm MO B1 (tc Tryz.call153 B3V A8) Tryz.func86 (by kernel_rfl) (by decide) (C1c A1f)
abbrev B5N:List PK:= [.ptr (.pair (.rs 5 (.int .u8)) F8),.val false (.rs 3 (.int .i64)) false]
abbrev B5O:List RK:= [.val false (.int .i64)]
def B5P(f:B0h):Nat×Fn:=(115,⟨B5N,B5O,fun x=>f x.1 x.2.1⟩)
def C7T:Fn:=(B5P A5T).2
theorem C7U(f_s_l1Below:V2):∀ x,(C7 cfg [A0V f_s_l1Below] (B5 []) 12 [.tmp 4] (Tryz.f115.body.getD .skip) B5N B5O).fn x=C0R f_s_l1Below x.1 x.2.1:=by intro x;kernel_rfl
theorem C7V:B4 Tryz.prog 115 C7T:=sm MO B1 (tc Tryz.call86 A2W A8) Tryz.func115 (by kernel_rfl) (by decide) (C7U L9)
def C1d:Nat→Option Jn:=B5 [(58,⟨[.t 5 false [.own 100000000],.t 6 false [.int .i64],.b 1000 [.ro 5 (.int .u8),.int .i64,.int .i64],.r 100000000 5 (.int .u8)],lt 8 11 [.r 7,.r 17,.r 18],false⟩)]
abbrev B1U:List PK:= [.ptr (.pair (.rs 5 (.int .u8)) F8),.val false (.int .i64) false]
abbrev B1V:List RK:= [.val false (.sl 5 (.int .u8))]
def B1W(f:A0P):Nat×Fn:=(139,⟨B1U,B1V,fun x=>f x.1 x.2.1⟩)
def C1e:Fn:=(B1W R5).2
theorem C1f(f_s_l1Byte:A3a):∀ x,(C7 cfg [A72 f_s_l1Byte] C1d 20 [.tmp 4] (Tryz.f139.body.getD .skip) B1U B1V).fn x=A5e f_s_l1Byte x.1 x.2.1:=by intro x;kernel_rfl
theorem C1g:B4 Tryz.prog 139 C1e:=sm MO B1 (tc Tryz.call153 B3V A8) Tryz.func139 (by kernel_rfl) (by decide) (C1f A1f)
abbrev B3W:List PK:= [.ptr (.pair (.rs 5 (.int .u8)) F8),.val false (.int .i64) false]
abbrev B3X:List RK:= [.val false .bool]
def B3Y(f:A7x):Nat×Fn:=(84,⟨B3W,B3X,fun x=>f x.1 x.2.1⟩)
def C3i:Fn:=(B3Y A5L).2
theorem C3j(f_s_l1Below:V2):∀ x,(C7 cfg [A0V f_s_l1Below] (B5 []) 9 [.tmp 4] (Tryz.f84.body.getD .skip) B3W B3X).fn x=B7P f_s_l1Below x.1 x.2.1:=by intro x;kernel_rfl
theorem C3k:B4 Tryz.prog 84 C3i:=sm MO B1 (tc Tryz.call86 A2W A8) Tryz.func84 (by kernel_rfl) (by decide) (C3j L9)
def B1X:Nat→Option Jn:=B5 [(3,⟨[.b 1000 [.ro 5 (.int .u8),.int .i64,.int .i64]],lt 34 3 (lt 30 3 (lt 19 4 (lt 7 6 [.t 44,.t 45]))),false⟩),(26,⟨[.t 9 false [.bool]],lt 10 3 [],true⟩),(107,⟨[.t 19 false [.bool]],lt 20 3 [],true⟩),(122,⟨[.t 6 false [.int .i64],.b 5 [.int .i64,.int .i64,.own 100005000],.b 1000 [.ro 5 (.int .u8),.int .i64,.int .i64],.r 100005000 4 .bool],lt 53 11 [.r 61,.r 62],false⟩),(431,⟨[.t 30 false [.bool]],[.t 31,.t 32],true⟩),(1727,⟨[.t 34 false [.bool]],[.t 35,.t 36],true⟩)]
abbrev A49:List PK:= [.ptr (.pair (.rs 5 (.int .u8)) F8),.val true (.pair (.pair (.pair (.pair (.rs 9 .str) (.rs 9 .str)) (.pair (.int .i64) (.pair (.int .i64) (.rs 109 (.pair .str (.pair (.int .i64) (.pair (.rs 5 (.int .u8)) .bool))))))) (.sl 130 B2)) (.pair (.sl 79 (.pair .str (.pair (.rs 5 (.int .u8)) F8))) (.pair (.sl 4 .bool) (.pair (.sl 113 (.pair (.int .i64) (.pair Y1 (.rs 5 (.int .u8))))) (.pair (.sl 130 B2) (.sl 3 (.int .i64))))))) true]
abbrev A4A:List RK:= [.val true D57]
def A4B(f:O2):Nat×Fn:=(110,⟨A49,A4A,fun x=>f x.1 x.2.1⟩)
def B1Y:Fn:=(A4B K3).2
theorem B1Z(f_s_l1Once:A7x)(f_s_l1Below:V2):∀ x,(C7 cfg [B3Y f_s_l1Once,A0V f_s_l1Below] B1X 65 [.cell 4 77] (Tryz.f110.body.getD .skip) A49 A4A).fn x=A0Q f_s_l1Once f_s_l1Below x.1 x.2.1:=by intro x;kernel_rfl
theorem B1a:B4 Tryz.prog 110 B1Y:=sm MO B1 (tc Tryz.call84 C3k (tc Tryz.call86 A2W A8)) Tryz.func110 (by kernel_rfl) (by decide) (B1Z A5L L9)
def B2s:Nat→Option Jn:=B5 [(15,⟨[.t 5 false [.own 100000000],.b 1000 [.ro 5 (.int .u8),.int .i64,.int .i64],.r 100000000 79 B3],lt 12 21 [.r 10,.r 13,.r 27,.r 31,.r 32,.r 122880,.r 126977,.t 7,.x 23],true⟩),(122,⟨[.t 5 false [.own 100000000],.t 7 false [.int .i64],.b 1000 [.ro 5 (.int .u8),.int .i64,.int .i64],.r 100000000 79 B3],lt 15 18 [.r 10,.r 27,.r 31,.r 32,.r 122880,.r 126977,.x 23],false⟩),(506,⟨[.t 9 false [.int .i64],.b 8 [.ro 9 .str,.ro 9 .str,.int .i64,.int .i64,.ro 109 (.pair .str (.pair (.int .i64) (.pair (.rs 5 (.int .u8)) .bool))),.own 100002001,.own 100002002,.own 100002003,.own 100002004,.own 100002005,.own 100002006],.b 1000 [.ro 5 (.int .u8),.int .i64,.int .i64],.r 100002001 130 B2,.r 100002002 79 (.pair .str (.pair (.rs 5 (.int .u8)) F8)),.r 100002003 4 .bool,.r 100002004 113 (.pair (.int .i64) (.pair Y1 (.rs 5 (.int .u8)))),.r 100002005 130 B2,.r 100002006 3 (.int .i64)],lt 38 8 [.r 143360,.r 143361,.r 143364,.r 143365,.r 143366,.r 143367,.r 143368,.r 143369,.r 143370,.r 184322,.r 190469,.r 190470,.r 190471,.r 190472,.r 190473,.r 190474,.t 34],false⟩)]
abbrev A4x:List PK:= [.ptr (.pair (.rs 5 (.int .u8)) F8),.val false (.int .i64) false]
abbrev A4y:List RK:= [.val true (.pair (.pair (.pair (.pair (.rs 9 .str) (.rs 9 .str)) (.pair (.int .i64) (.pair (.int .i64) (.rs 109 kUp)))) (.sl 130 B2)) (.pair (.sl 79 (.pair .str (.pair (.rs 5 (.int .u8)) F8))) (.pair (.sl 4 .bool) (.pair (.sl 113 (.pair (.int .i64) (.pair Y1 (.rs 5 (.int .u8))))) (.pair (.sl 130 B2) (.sl 3 (.int .i64)))))))]
def A4z(f:U9):Nat×Fn:=(68,⟨A4x,A4y,fun x=>f x.1 x.2.1⟩)
def B2t:Fn:=(A4z P0).2
theorem B2u(f_s_l1Below:V2)(f_s_l18Event_r0_0_r95_1:O2)(f_s_l18Do_W:A6R)(f_s_l1Int:B0h)(f_s_ClientNew:A2h)(f_s_l1Bytes_r0_0:A0P)(f_s_WorldNew:A7S):∀ x,(C7 cfg [A0V f_s_l1Below,A4B f_s_l18Event_r0_0_r95_1,C2Z f_s_l18Do_W,B5P f_s_l1Int,B6h f_s_ClientNew,B1W f_s_l1Bytes_r0_0,A39 f_s_WorldNew] B2s 47 [.cell 4 38] (Tryz.f68.body.getD .skip) A4x A4y).fn x=A0u f_s_l1Below f_s_l18Event_r0_0_r95_1 f_s_l18Do_W f_s_l1Int f_s_ClientNew f_s_l1Bytes_r0_0 f_s_WorldNew x.1 x.2.1:=by intro x;kernel_rfl
theorem B2v:B4 Tryz.prog 68 B2t:=sm MO B1 (tc Tryz.call86 A2W (tc Tryz.call110 B1a (tc Tryz.call111 D3l (tc Tryz.call115 C7V (tc Tryz.call138 C7w (tc Tryz.call139 C1g (tc Tryz.call140 B0K A8))))))) Tryz.func68 (by kernel_rfl) (by decide) (B2u L9 K3 A0Y A5T A00 R5 A4N)
abbrev A7B:List PK:= [.val false (.rs 5 (.int .u8)) false]
abbrev A7C:List RK:= [.val true (.pair (.pair (.pair (.pair (.rs 9 .str) (.rs 9 .str)) (.pair (.int .i64) (.pair (.int .i64) (.rs 109 kUp)))) (.sl 130 B2)) (.pair (.sl 79 (.pair .str (.pair (.rs 5 (.int .u8)) F8))) (.pair (.sl 4 .bool) (.pair (.sl 113 (.pair (.int .i64) (.pair Y1 (.rs 5 (.int .u8))))) (.pair (.sl 130 B2) (.sl 3 (.int .i64)))))))]
def A7D(f:A0E):Nat×Fn:=(16,⟨A7B,A7C,fun x=>f x.1⟩)
def B6B:Fn:=(A7D U3).2
theorem B6C(f_s_l1New:B5e)(f_s_l18Draw_r0_0_r99_0:U9)(f_s_l1Size:B22):∀ x,(C7 cfg [B3S f_s_l1New,A4z f_s_l18Draw_r0_0_r99_0,C6U f_s_l1Size] (B5 []) 11 [.cell 2 38] (Tryz.f16.body.getD .skip) A7B A7C).fn x=A2b f_s_l1New f_s_l18Draw_r0_0_r99_0 f_s_l1Size x.1:=by intro x;kernel_rfl
theorem B6D:B4 Tryz.prog 16 B6B:=sm MO B1 (tc Tryz.call67 C3f (tc Tryz.call68 B2v (tc Tryz.call69 D6I A8))) Tryz.func16 (by kernel_rfl) (by decide) (B6C B0d P0 A84)
abbrev A6H:List PK:= [.val false (.rs 5 (.int .u8)) false]
abbrev B7B:List RK:= [.val false .bool]
def C8W(f:B6M):Nat×Fn:=(7,⟨A6H,B7B,fun x=>f x.1⟩)
def F_w_FnArrives:Fn:=(C8W B0A).2
theorem C8X(f_w_big:C3y)(f_s_DrawWorld_r99_0:A0E)(f_i_Safe:B8d)(f_i_Settle:B2L)(f_i_AllDone:A9L)(f_i_Lacking:A9M):∀ x,(C7 cfg [D7o f_w_big,A7D f_s_DrawWorld_r99_0,D4K f_i_Safe,C7S f_i_Settle,C2w f_i_AllDone,C2z f_i_Lacking] (B5 []) 32 [.tmp 2] (Tryz.f7.body.getD .skip) A6H B7B).fn x=B09 f_w_big f_s_DrawWorld_r99_0 f_i_Safe f_i_Settle f_i_AllDone f_i_Lacking x.1:=by intro x;kernel_rfl
theorem C8Y:B4 Tryz.prog 7 F_w_FnArrives:=sm MO B1 (tc Tryz.call15 E2v (tc Tryz.call16 B6D (tc Tryz.call17 E1i (tc Tryz.call41 D6t (tc Tryz.call42 D4S (tc Tryz.call43 D4W A8)))))) Tryz.func7 (by kernel_rfl) (by decide) (C8X C3z U3 B4K A5d A6V A6W)
end
end Go.Proofs.YtpdcljonclhhpaaGreat.Ev
