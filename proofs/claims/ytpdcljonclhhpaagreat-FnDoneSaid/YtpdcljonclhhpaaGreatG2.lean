/- Each function of the program does what its plain function says. -/
import Derived.Test.YtpdcljonclhhpaaGreatG1
import Derived.Test.YtpdcljonclhhpaaGreatFind
set_option linter.unusedVariables false
set_option maxRecDepth 100000
namespace Go.Proofs.YtpdcljonclhhpaaGreat.Ev
noncomputable section
def C6V:Nat->Option Jn:=B4 [(3,⟨[],lt 9 8 [],false⟩)]
abbrev B4f:List PK:= [.ptr B1a,.val false .str false,.val false (.int .i64) false]
abbrev B4g:List RK:= [.val false (.int .i64)]
def B4h(f:A4Q):Nat×Fn:=(222,⟨B4f,B4g,fun x=>f x.1 x.2.1 x.2.2.1⟩)
def C6W:Fn:=(B4h A1r).2
theorem C6a(f_i_inRange:C8)(f_i_idOk:A0c)(f_i_Store_left:Q1)(f_i_Store_write_r97_0:G1)(f_i_Store_find:J8):∀ x,(C4 (cfg.withPk 276 ⟨kUp,4,f_i_Store_find⟩) [K7 f_i_inRange,A9w f_i_idOk,A4D f_i_Store_left,W9 f_i_Store_write_r97_0] C6V 39 [.tmp 6] (Tryz.f222.body.getD .skip) B4f B4g).fn x=A8b f_i_inRange f_i_idOk f_i_Store_left f_i_Store_write_r97_0 f_i_Store_find x.1 x.2.1 x.2.2.1:=by intro x;kernel_rfl
theorem C6b:B1 Tryz.prog 222 C6W:=sm MO (B1H B2 (fun args w=>Tryz.call276 args w) A29) (tc Tryz.call80 M3 (tc Tryz.call147 B2A (tc Tryz.call277 A7h (tc Tryz.call278 A1C A7)))) Tryz.func222 (by kernel_rfl) (by decide) (C6a D3 A0D O0 D5 H2)
def C8u:Nat->Option Jn:=B4 [(3,⟨[],lt 12 9 [],false⟩),(15,⟨[.b 1000 [.own 215040,.own 215041,.int .i64,.int .i64,.own 215044],.r 215040 9 .str,.r 215041 9 .str,.r 215044 109 kUp],lt 27 31 [.r 1000,.r 1001,.r 1004],false⟩),(243,⟨[.t 30 false [.bool]],lt 31 18 [],true⟩),(250,⟨[.b 6 [.int .i64],.b 1000 [.own 100003000,.own 100003001,.int .i64,.int .i64,.own 100003002],.r 100003000 9 .str,.r 100003001 9 .str,.r 100003002 109 kUp],lt 60 10 [.r 215040,.r 215041,.r 215044,.r 272384,.r 272385,.r 272388,.t 11],false⟩)]
abbrev B7T:List PK:= [.ptr B1a,.val false .str false,.val false (.int .i64) false,.val false (.rs 5 (.int .u8)) false]
abbrev B7U:List RK:= [.val false (.int .i64)]
def B7V(f:A5k):Nat×Fn:=(223,⟨B7T,B7U,fun x=>f x.1 x.2.1 x.2.2.1 x.2.2.2.1⟩)
def C8v:Fn:=(B7V A2m).2
theorem C8w(f_i_inRange:C8)(f_i_idOk:A0c)(f_i_Store_left:Q1)(f_i_Store_write_r97_0:G1)(f_i_Store_find:J8):∀ x,(C4 (((cfg.withPk 276 ⟨kUp,4,f_i_Store_find⟩).withCk 279 304).withPt [244]) [K7 f_i_inRange,A9w f_i_idOk,A4D f_i_Store_left,W9 f_i_Store_write_r97_0] C8u 70 [.tmp 8] (Tryz.f223.body.getD .skip) B7T B7U).fn x=B0A f_i_inRange f_i_idOk f_i_Store_left f_i_Store_write_r97_0 f_i_Store_find x.1 x.2.1 x.2.2.1 x.2.2.2.1:=by intro x;kernel_rfl
theorem C90:B1 Tryz.prog 223 C8v:=sm MO (E4M (l:= [244]) (E4L (B1H B2 (fun args w=>Tryz.call276 args w) A29) (fun args w=>Tryz.call279 args w) E93) ⟨⟨_,Tryz.underlying244,rfl⟩,trivial⟩) (tc Tryz.call80 M3 (tc Tryz.call147 B2A (tc Tryz.call277 A7h (tc Tryz.call278 A1C A7)))) Tryz.func223 (by kernel_rfl) (by decide) (C8w D3 A0D O0 D5 H2)
abbrev B7W:List PK:= [.ptr A6s,.val false (.int .i64) false,.val false .str false]
abbrev B7a:List RK:= [.val true D8]
def A5s(f:U7):Nat×Fn:=(224,⟨B7W,B7a,fun x=>f x.1 x.2.1 x.2.2.1⟩)
def C91:Fn:=(A5s Q7).2
theorem C92(f_i_Store_find:J8):∀ x,(C4 (cfg.withPk 276 ⟨kUp,4,f_i_Store_find⟩) [] (B4 []) 22 [.cell 6 126] (Tryz.f224.body.getD .skip) B7W B7a).fn x=B0B f_i_Store_find x.1 x.2.1 x.2.2.1:=by intro x;kernel_rfl
theorem B0O:B1 Tryz.prog 224 C91:=sm MO (B1H B2 (fun args w=>Tryz.call276 args w) A29) A7 Tryz.func224 (by kernel_rfl) (by decide) (C92 H2)
def C6c:Nat->Option Jn:=B4 [(15,⟨[.b 7 [.str,.int .i64,.any,.bool],.b 1000 [.own 100000000,.own 100000001,.int .i64,.int .i64,.own 100000002],.r 100000000 9 .str,.r 100000001 9 .str,.r 100000002 109 kUp],lt 18 25 [.r 1000,.r 1001,.r 1004,.r 169984,.r 169985,.r 169988],false⟩)]
abbrev B4i:List PK:= [.ptr B1a,.val false .str false,.val false (.int .i64) false]
abbrev B4j:List RK:= [.val false (.int .i64)]
def B4k(f:A4R):Nat×Fn:=(225,⟨B4i,B4j,fun x=>f x.1 x.2.1 x.2.2.1⟩)
def C6d:Fn:=(B4k A1s).2
theorem C6e(f_i_idOk:A0c)(f_i_Store_left:Q1)(f_i_Store_write_r97_0:G1)(f_i_Crc:B2l)(f_i_Store_find:J8):∀ x,(C4 (cfg.withPk 276 ⟨kUp,4,f_i_Store_find⟩) [A9w f_i_idOk,A4D f_i_Store_left,W9 f_i_Store_write_r97_0,D08 f_i_Crc] C6c 49 [.tmp 6] (Tryz.f225.body.getD .skip) B4i B4j).fn x=A8c f_i_idOk f_i_Store_left f_i_Store_write_r97_0 f_i_Crc f_i_Store_find x.1 x.2.1 x.2.2.1:=by intro x;kernel_rfl
theorem C6f:B1 Tryz.prog 225 C6d:=sm MO (B1H B2 (fun args w=>Tryz.call276 args w) A29) (tc Tryz.call147 B2A (tc Tryz.call277 A7h (tc Tryz.call278 A1C (tc Tryz.call280 D6c A7)))) Tryz.func225 (by kernel_rfl) (by decide) (C6e A0D O0 D5 B0r H2)
abbrev B4l:List PK:= [.ptr B1a,.val false .str false]
abbrev B4m:List RK:= [.val false (.int .i64)]
def B4n(f:A4S):Nat×Fn:=(226,⟨B4l,B4m,fun x=>f x.1 x.2.1⟩)
def C6g:Fn:=(B4n A1t).2
theorem C6h(f_i_idOk:A0c)(f_i_Store_left:Q1)(f_i_Store_write_r97_0:G1)(f_i_Store_find:J8):∀ x,(C4 (cfg.withPk 276 ⟨kUp,4,f_i_Store_find⟩) [A9w f_i_idOk,A4D f_i_Store_left,W9 f_i_Store_write_r97_0] (B4 []) 24 [.tmp 4] (Tryz.f226.body.getD .skip) B4l B4m).fn x=A8d f_i_idOk f_i_Store_left f_i_Store_write_r97_0 f_i_Store_find x.1 x.2.1:=by intro x;kernel_rfl
theorem C6i:B1 Tryz.prog 226 C6g:=sm MO (B1H B2 (fun args w=>Tryz.call276 args w) A29) (tc Tryz.call147 B2A (tc Tryz.call277 A7h (tc Tryz.call278 A1C A7))) Tryz.func226 (by kernel_rfl) (by decide) (C6h A0D O0 D5 H2)
def C93:Nat->Option Jn:=B4 [(115,⟨[.t 20 false [.bool]],lt 21 8 [],true⟩)]
abbrev B7b:List PK:= [.ptr A6s,.val true A06 false]
abbrev B7c:List RK:= [.val true D8]
def B7d(f:A5l):Nat×Fn:=(227,⟨B7b,B7c,fun x=>f x.1 x.2.1⟩)
def C94:Fn:=(B7d A2n).2
theorem C95(f_i_Server_told:U7)(f_i_Store_find:J8):∀ x,(C4 (cfg.withPk 276 ⟨kUp,4,f_i_Store_find⟩) [A5s f_i_Server_told] C93 37 [.cell 4 126] (Tryz.f227.body.getD .skip) B7b B7c).fn x=B0C f_i_Server_told f_i_Store_find x.1 x.2.1:=by intro x;kernel_rfl
theorem C96:B1 Tryz.prog 227 C94:=sm MO (B1H B2 (fun args w=>Tryz.call276 args w) A29) (tc Tryz.call224 B0O A7) Tryz.func227 (by kernel_rfl) (by decide) (C95 Q7 H2)
def C3V:Nat->Option Jn:=B4 [(107,⟨[.t 11 false [.bool]],[.t 12,.t 13],true⟩)]
abbrev B2C:List PK:= [.ptr A6s,.val false (.int .i64) false,.val false .str false]
abbrev B2D:List RK:= [.val true D8]
def B2E(f:A2P):Nat×Fn:=(228,⟨B2C,B2D,fun x=>f x.1 x.2.1 x.2.2.1⟩)
def C3W:Fn:=(B2E K8).2
theorem C3a(f_i_Server_told:U7):∀ x,(C4 cfg [A5s f_i_Server_told] C3V 24 [.cell 6 126] (Tryz.f228.body.getD .skip) B2C B2D).fn x=A5v f_i_Server_told x.1 x.2.1 x.2.2.1:=by intro x;kernel_rfl
theorem C3b:B1 Tryz.prog 228 C3W:=sm MO B2 (tc Tryz.call224 B0O A7) Tryz.func228 (by kernel_rfl) (by decide) (C3a Q7)
def C4o:Nat->Option Jn:=B4 [(15,⟨[.t 7 false [.int .i64],.b 8 [.int .i64,.int .i64],.b 1000 [.own 100000000,.own 100000001,.int .i64,.int .i64,.own 100000002,.own 100000003],.r 100000000 9 .str,.r 100000001 9 .str,.r 100000002 109 kUp,.r 100000003 130 A9],lt 15 46 [.r 1000,.r 1001,.r 1004,.r 1005,.r 104448,.r 104449,.r 104452,.r 153600,.r 153601,.r 153604,.r 169984,.r 169985,.r 169988,.r 169989,.r 210944,.r 210945,.r 210948,.r 247808,.r 247809,.r 247812,.t 10,.t 11],false⟩)]
abbrev B3L:List PK:= [.ptr A6s,.val true A06 false,.val false (.rs 5 (.int .u8)) false]
abbrev B3M:List RK:= [.val true D8]
def B3N(f:A3L):Nat×Fn:=(156,⟨B3L,B3M,fun x=>f x.1 x.2.1 x.2.2.1⟩)
def C4p:Fn:=(B3N A1L).2
theorem C4q(f_i_Store_makeUp:A4Q)(f_i_Store_putUp:A5k)(f_i_Server_told:U7)(f_i_Store_doneUp:A4R)(f_i_Store_dropUp:A4S)(f_i_Server_look:A5l)(f_i_Server_refused:A2P):∀ x,(C4 cfg [B4h f_i_Store_makeUp,B7V f_i_Store_putUp,A5s f_i_Server_told,B4k f_i_Store_doneUp,B4n f_i_Store_dropUp,B7d f_i_Server_look,B2E f_i_Server_refused] C4o 69 [.cell 6 126] (Tryz.f156.body.getD .skip) B3L B3M).fn x=A73 f_i_Store_makeUp f_i_Store_putUp f_i_Server_told f_i_Store_doneUp f_i_Store_dropUp f_i_Server_look f_i_Server_refused x.1 x.2.1 x.2.2.1:=by intro x;kernel_rfl
theorem C4r:B1 Tryz.prog 156 C4p:=sm MO B2 (tc Tryz.call222 C6b (tc Tryz.call223 C90 (tc Tryz.call224 B0O (tc Tryz.call225 C6f (tc Tryz.call226 C6i (tc Tryz.call227 C96 (tc Tryz.call228 C3b A7))))))) Tryz.func156 (by kernel_rfl) (by decide) (C4q A1r A2m Q7 A1s A1t A2n K8)
def C6j:Nat->Option Jn:=B4 [(3,⟨[],lt 10 11 [],false⟩)]
abbrev B4o:List PK:= [.ptr A6s,.val false (.int .i64) false,.val true A06 false,.val false (.rs 5 (.int .u8)) false]
abbrev B4p:List RK:= [.val false .bool]
def B4q(f:A4T):Nat×Fn:=(88,⟨B4o,B4p,fun x=>f x.1 x.2.1 x.2.2.1 x.2.2.2.1⟩)
def C6k:Fn:=(B4q A4U).2
theorem C6l(f_i_ReqOk:A8W)(f_i_Server_answer:A3L):∀ x,(C4 cfg [C6U f_i_ReqOk,B3N f_i_Server_answer] C6j 37 [.tmp 8] (Tryz.f88.body.getD .skip) B4o B4p).fn x=A8e f_i_ReqOk f_i_Server_answer x.1 x.2.1 x.2.2.1 x.2.2.2.1:=by intro x;kernel_rfl
theorem C6m:B1 Tryz.prog 88 C6k:=sm MO B2 (tc Tryz.call79 D5V (tc Tryz.call156 C4r A7)) Tryz.func88 (by kernel_rfl) (by decide) (C6l A6J A1L)
abbrev B7e:List PK:= [.ptr A6t,.val false (.int .i64) false]
abbrev B7f:List RK:= [.val false .bool]
def B7g(f:A5m):Nat×Fn:=(201,⟨B7e,B7f,fun x=>f x.1 x.2.1⟩)
def C97:Fn:=(B7g A2o).2
theorem C98(f_i_inRange:C8)(f_i_Server_serve:A4T)(f_slices_Delete_impl_Want_impl_Want:K2):∀ x,(C4 cfg [K7 f_i_inRange,B4q f_i_Server_serve,A0r f_slices_Delete_impl_Want_impl_Want] (B4 []) 44 [.tmp 4] (Tryz.f201.body.getD .skip) B7e B7f).fn x=B0D f_i_inRange f_i_Server_serve f_slices_Delete_impl_Want_impl_Want x.1 x.2.1:=by intro x;kernel_rfl
theorem C99:B1 Tryz.prog 201 C97:=sm MO B2 (tc Tryz.call80 M3 (tc Tryz.call88 C6m (tc Tryz.call260 A5I A7))) Tryz.func201 (by kernel_rfl) (by decide) (C98 D3 A4U K3)
abbrev C28:List PK:= [.val true (.pair (.rs 9 .str) (.rs 9 .str)) false]
abbrev C29:List RK:= [.val true A0C]
def C2A(f:A9H):Nat×Fn:=(296,⟨C28,C29,fun x=>f x.1⟩)
def D48:Fn:=(C2A A51).2
theorem D49(f_slices_Clone_string_string:I3):∀ x,(C4 cfg [A0W f_slices_Clone_string_string] (B4 []) 10 [.cell 2 26] (Tryz.f296.body.getD .skip) C28 C29).fn x=B3q f_slices_Clone_string_string x.1:=by intro x;kernel_rfl
theorem D4A:B1 Tryz.prog 296 D48:=sm MO B2 (tc Tryz.call275 A33 A7) Tryz.func296 (by kernel_rfl) (by decide) (D49 G7)
abbrev B2F:List PK:= [.ptr A6s]
abbrev B2G:List RK:= [.val false (.sl 130 A9)]
def B2H(f:A2Q):Nat×Fn:=(261,⟨B2F,B2G,fun x=>f x.1⟩)
def C3c:Fn:=(B2H A2R).2
theorem C3d(f_i_FlushDisk:A9H):∀ x,(C4 cfg [C2A f_i_FlushDisk] (B4 []) 22 [.tmp 2] (Tryz.f261.body.getD .skip) B2F B2G).fn x=A5w f_i_FlushDisk x.1:=by intro x;kernel_rfl
theorem C3e:B1 Tryz.prog 261 C3c:=sm MO B2 (tc Tryz.call296 D4A A7) Tryz.func261 (by kernel_rfl) (by decide) (C3d A51)
abbrev C02:List PK:= [.ptr A6t]
abbrev C03:List RK:= [.val false .bool]
def C04(f:A74):Nat×Fn:=(202,⟨C02,C03,fun x=>f x.1⟩)
def D2R:Fn:=(C04 A3s).2
theorem D2S(f_i_Server_syncAll:A2Q):∀ x,(C4 cfg [B2H f_i_Server_syncAll] (B4 []) 30 [.tmp 2] (Tryz.f202.body.getD .skip) C02 C03).fn x=B1n f_i_Server_syncAll x.1:=by intro x;kernel_rfl
theorem D2T:B1 Tryz.prog 202 D2R:=sm MO B2 (tc Tryz.call261 C3e A7) Tryz.func202 (by kernel_rfl) (by decide) (D2S A2R)
abbrev B3O:List PK:= [.ptr B3,.val false (.int .i64) false]
abbrev B3P:List RK:= []
def B3Q(f:A3M):Nat×Fn:=(311,⟨B3O,B3P,fun x=>f x.1 x.2.1⟩)
def C4s:Fn:=(B3Q A1M).2
theorem C4t(f_i_inRange:C8):∀ x,(C4 cfg [K7 f_i_inRange] (B4 []) 32 [] (Tryz.f311.body.getD .skip) B3O B3P).fn x=A75 f_i_inRange x.1 x.2.1:=by intro x;kernel_rfl
theorem C4u:B1 Tryz.prog 311 C4s:=sm MO B2 (tc Tryz.call80 M3 A7) Tryz.func311 (by kernel_rfl) (by decide) (C4t D3)
def C9A:Nat->Option Jn:=B4 [(14,⟨[.t 15 false [.bool]],lt 16 12 [],true⟩),(59,⟨[.t 32 false [.bool]],lt 33 10 [],true⟩),(239,⟨[.t 47 false [.bool]],lt 48 6 [],true⟩),(959,⟨[.t 57 false [.bool]],lt 58 10 [],true⟩),(3839,⟨[.t 71 false [.bool]],lt 72 6 [],true⟩)]
abbrev B7h:List PK:= [.ptr B3,.val true D8 false]
abbrev B7i:List RK:= []
def B7j(f:A5n):Nat×Fn:=(297,⟨B7h,B7i,fun x=>f x.1 x.2.1⟩)
def C9B:Fn:=(B7j A2p).2
theorem C9C(f_i_Client_howFar:A3M):∀ x,(C4 cfg [B3Q f_i_Client_howFar] C9A 88 [] (Tryz.f297.body.getD .skip) B7h B7i).fn x=B0E f_i_Client_howFar x.1 x.2.1:=by intro x;kernel_rfl
theorem C9D:B1 Tryz.prog 297 C9B:=sm MO B2 (tc Tryz.call311 C4u A7) Tryz.func297 (by kernel_rfl) (by decide) (C9C A1M)
abbrev C4v:List PK:= [.val true (.pair .str (.pair (.rs 5 (.int .u8)) D8)) false,.val true D8 false]
abbrev C4w:List RK:= [.val true B3]
def C50(f:B0t):Nat×Fn:=(263,⟨C4v,C4w,fun x=>f x.1 x.2.1⟩)
def D6s:Fn:=(C50 A76).2
theorem D6t(f_i_RespOk:A1U)(f_i_ClientOk:T0)(f_i_copyClient:T2)(f_i_Client_isOver:P4)(f_i_Client_hear:A5n):∀ x,(C4 cfg [B6m f_i_RespOk,A7a f_i_ClientOk,A7e f_i_copyClient,A0m f_i_Client_isOver,B7j f_i_Client_hear] (B4 []) 23 [.cell 4 79] (Tryz.f263.body.getD .skip) C4v C4w).fn x=B69 f_i_RespOk f_i_ClientOk f_i_copyClient f_i_Client_isOver f_i_Client_hear x.1 x.2.1:=by intro x;kernel_rfl
theorem D6u:B1 Tryz.prog 263 D6s:=sm MO B2 (tc Tryz.call93 C3R (tc Tryz.call145 B18 (tc Tryz.call190 B2B (tc Tryz.call295 A2i (tc Tryz.call297 C9D A7))))) Tryz.func263 (by kernel_rfl) (by decide) (D6t A0v O5 N9 M7 A2p)
abbrev C05:List PK:= [.ptr A6t,.val false (.int .i64) false]
abbrev C06:List RK:= [.val false .bool]
def C07(f:A77):Nat×Fn:=(203,⟨C05,C06,fun x=>f x.1 x.2.1⟩)
def D2U:Fn:=(C07 A3t).2
theorem D2V(f_i_inRange:C8)(f_slices_Delete_impl_Held_impl_Held:K4)(f_i_HearResp:B0t):∀ x,(C4 cfg [K7 f_i_inRange,A0s f_slices_Delete_impl_Held_impl_Held,C50 f_i_HearResp] (B4 []) 85 [.tmp 4] (Tryz.f203.body.getD .skip) C05 C06).fn x=B1o f_i_inRange f_slices_Delete_impl_Held_impl_Held f_i_HearResp x.1 x.2.1:=by intro x;kernel_rfl
theorem D2W:B1 Tryz.prog 203 D2U:=sm MO B2 (tc Tryz.call80 M3 (tc Tryz.call262 A5M (tc Tryz.call263 D6u A7))) Tryz.func203 (by kernel_rfl) (by decide) (D2V D3 K5 A76)
abbrev D2a:List PK:= [.val true (.pair .str (.pair (.rs 5 (.int .u8)) D8)) false]
abbrev D2b:List RK:= [.val true B3]
def D2c(f:B6A):Nat×Fn:=(300,⟨D2a,D2b,fun x=>f x.1⟩)
def E28:Fn:=(D2c B1p).2
theorem E29(f_i_ClientOk:T0)(f_i_copyClient:T2)(f_i_Client_isOver:P4):∀ x,(C4 cfg [A7a f_i_ClientOk,A7e f_i_copyClient,A0m f_i_Client_isOver] (B4 []) 14 [.cell 2 79] (Tryz.f300.body.getD .skip) D2a D2b).fn x=C2w f_i_ClientOk f_i_copyClient f_i_Client_isOver x.1:=by intro x;kernel_rfl
theorem E2A:B1 Tryz.prog 300 E28:=sm MO B2 (tc Tryz.call145 B18 (tc Tryz.call190 B2B (tc Tryz.call295 A2i A7))) Tryz.func300 (by kernel_rfl) (by decide) (E29 O5 N9 M7)
abbrev C08:List PK:= [.ptr A6t,.val false (.int .i64) false]
abbrev C09:List RK:= []
def B2I(f:A0w):Nat×Fn:=(268,⟨C08,C09,fun x=>f x.1 x.2.1⟩)
def D2d:Fn:=(B2I A0E).2
theorem D2e(f_i_CutOff:B6A):∀ x,(C4 cfg [D2c f_i_CutOff] (B4 []) 24 [] (Tryz.f268.body.getD .skip) C08 C09).fn x=B1q f_i_CutOff x.1 x.2.1:=by intro x;kernel_rfl
theorem C0A:B1 Tryz.prog 268 D2d:=sm MO B2 (tc Tryz.call300 E2A A7) Tryz.func268 (by kernel_rfl) (by decide) (D2e B1p)
abbrev C2B:List PK:= [.ptr A6t,.val false (.int .i64) false]
abbrev C2C:List RK:= [.val false .bool]
def C2D(f:A9I):Nat×Fn:=(204,⟨C2B,C2C,fun x=>f x.1 x.2.1⟩)
def D4B:Fn:=(C2D A52).2
theorem D4C(f_i_inRange:C8)(f_slices_DeleteFunc_impl_Want_impl_Want:H7)(f_slices_DeleteFunc_impl_Held_impl_Held:H9)(f_i_World_rest:A0w):∀ x,(C4 cfg [K7 f_i_inRange,A04 f_slices_DeleteFunc_impl_Want_impl_Want,A05 f_slices_DeleteFunc_impl_Held_impl_Held,B2I f_i_World_rest] (B4 []) 48 [.tmp 4] (Tryz.f204.body.getD .skip) C2B C2C).fn x=B3r f_i_inRange f_slices_DeleteFunc_impl_Want_impl_Want f_slices_DeleteFunc_impl_Held_impl_Held f_i_World_rest x.1 x.2.1:=by intro x;kernel_rfl
theorem D4D:B1 Tryz.prog 204 D4B:=sm MO B2 (tc Tryz.call80 M3 (tcC Tryz.call265 A3a (tcC Tryz.call267 A3e (tc Tryz.call268 C0A A7)))) Tryz.func204 (by kernel_rfl) (by decide) (D4C D3 H8 I0 A0E)
abbrev C51:List PK:= [.val true (.pair (.rs 9 .str) (.rs 9 .str)) false]
abbrev C52:List RK:= [.val false (.int .i64)]
def C53(f:B0u):Nat×Fn:=(312,⟨C51,C52,fun x=>f x.1⟩)
def D6v:Fn:=(C53 A78).2
theorem D6w(f_i_topFrom:A6I):∀ x,(C4 cfg [B9n f_i_topFrom] (B4 []) 6 [.tmp 2] (Tryz.f312.body.getD .skip) C51 C52).fn x=B6B f_i_topFrom x.1:=by intro x;kernel_rfl
theorem D70:B1 Tryz.prog 312 D6v:=sm MO B2 (tc Tryz.call174 C7q A7) Tryz.func312 (by kernel_rfl) (by decide) (D6w A3o)
def D4E:Nat->Option Jn:=B4 [(63,⟨[],lt 22 6 [],false⟩)]
abbrev C2E:List PK:= [.val true (.pair (.rs 9 .str) (.rs 9 .str)) false]
abbrev C2F:List RK:= [.val true B1a,.val false .bool]
def C2G(f:A9J):Nat×Fn:=(301,⟨C2E,C2F,fun x=>f x.1⟩)
def D4F:Fn:=(C2G A1a).2
theorem D4G(f_i_DiskOk:A3k)(f_i_ScanRecs:A4N)(f_i_FoldRecs:A4O)(f_i_copyDisk:A1K)(f_i_TopEpoch:B0u):∀ x,(C4 cfg [B6n f_i_DiskOk,B6o f_i_ScanRecs,B6p f_i_FoldRecs,B19 f_i_copyDisk,C53 f_i_TopEpoch] D4E 36 [.cell 2 29,.tmp 3] (Tryz.f301.body.getD .skip) C2E C2F).fn x=B3s f_i_DiskOk f_i_ScanRecs f_i_FoldRecs f_i_copyDisk f_i_TopEpoch x.1:=by intro x;kernel_rfl
theorem D4H:B1 Tryz.prog 301 D4F:=sm MO B2 (tc Tryz.call169 C3S (tc Tryz.call170 C4c (tc Tryz.call171 C4f (tc Tryz.call221 B6q (tc Tryz.call312 D70 A7))))) Tryz.func301 (by kernel_rfl) (by decide) (D4G A3l A2M A2N A0d A78)
def D71:Nat->Option Jn:=B4 [(122,⟨[.t 16 false [.int .i64],.b 5 [.own 36864,.own 36865],.r 36864 9 .str,.r 36865 9 .str],lt 17 31 [.t 6,.x 35,.x 37,.x 44,.x 46],false⟩),(7833,⟨[.t 28 false [.bool]],lt 19 9 [],true⟩)]
abbrev C54:List PK:= [.val true (.pair (.rs 9 .str) (.rs 9 .str)) false,.val false (.rs 4 .bool) false]
abbrev C55:List RK:= [.val true A0C]
def C56(f:B0v):Nat×Fn:=(302,⟨C54,C55,fun x=>f x.1 x.2.1⟩)
def D72:Fn:=(C56 A4V).2
theorem D73(f_i_DiskOk:A3k)(f_i_copyDisk:A1K):∀ x,(C4 cfg [B6n f_i_DiskOk,B19 f_i_copyDisk] D71 49 [.cell 4 26] (Tryz.f302.body.getD .skip) C54 C55).fn x=B6C f_i_DiskOk f_i_copyDisk x.1 x.2.1:=by intro x;kernel_rfl
theorem D74:B1 Tryz.prog 302 D72:=sm MO B2 (tc Tryz.call169 C3S (tc Tryz.call221 B6q A7)) Tryz.func302 (by kernel_rfl) (by decide) (D73 A3l A0d)
abbrev B4r:List PK:= [.ptr A6s,.val false (.rs 4 .bool) false]
abbrev B4s:List RK:= [.val false .bool]
def B4t(f:A4W):Nat×Fn:=(269,⟨B4r,B4s,fun x=>f x.1 x.2.1⟩)
def C6n:Fn:=(B4t A4a).2
theorem C6o(f_i_OpenStore:A9J)(f_i_FallDisk:B0v):∀ x,(C4 cfg [C2G f_i_OpenStore,C56 f_i_FallDisk] (B4 []) 24 [.tmp 4] (Tryz.f269.body.getD .skip) B4r B4s).fn x=A8f f_i_OpenStore f_i_FallDisk x.1 x.2.1:=by intro x;kernel_rfl
theorem C6p:B1 Tryz.prog 269 C6n:=sm MO B2 (tc Tryz.call301 D4H (tc Tryz.call302 D74 A7)) Tryz.func269 (by kernel_rfl) (by decide) (C6o A1a A4V)
def C9E:Nat->Option Jn:=B4 [(122,⟨[.t 23 false [.int .i64],.b 1000 [.own 100000000,.own 100000001,.int .i64,.int .i64,.own 100000002,.own 100000003,.own 100000004,.own 100000005,.own 100000006,.own 100000007,.own 100000008],.r 100000000 9 .str,.r 100000001 9 .str,.r 100000002 109 kUp,.r 100000003 130 A9,.r 100000004 79 B3,.r 100000005 4 .bool,.r 100000006 113 E5,.r 100000007 130 A9,.r 100000008 3 (.int .i64)],lt 24 6 [.r 1006,.r 1007,.r 1010,.r 47104,.r 47105,.r 47108,.r 47109,.r 120832,.r 120833,.r 120836,.r 120837,.r 120838,.r 120839,.r 120840,.r 120841,.r 120842,.t 5],false⟩)]
abbrev B7k:List PK:= [.ptr A6t,.val false (.rs 4 .bool) false]
abbrev B7l:List RK:= [.val false .bool]
def B7m(f:A5o):Nat×Fn:=(205,⟨B7k,B7l,fun x=>f x.1 x.2.1⟩)
def C9F:Fn:=(B7m A2q).2
theorem C9G(f_i_World_rest:A0w)(f_i_Server_crash:A4W):∀ x,(C4 cfg [B2I f_i_World_rest,B4t f_i_Server_crash] C9E 30 [.tmp 4] (Tryz.f205.body.getD .skip) B7k B7l).fn x=B0F f_i_World_rest f_i_Server_crash x.1 x.2.1:=by intro x;kernel_rfl
theorem C9H:B1 Tryz.prog 205 C9F:=sm MO B2 (tc Tryz.call268 C0A (tc Tryz.call269 C6p A7)) Tryz.func205 (by kernel_rfl) (by decide) (C9G A0E A4a)
abbrev C57:List PK:= [.ptr A6t,.val true (.pair (.int .i64) (.pair (.int .i64) (.rs 4 .bool))) false]
abbrev C58:List RK:= [.val false .bool]
def C59(f:B0w):Nat×Fn:=(112,⟨C57,C58,fun x=>f x.1 x.2.1⟩)
def D75:Fn:=(C59 A7A).2
theorem D76(f_i_World_send:A72)(f_i_World_serve:A5m)(f_i_World_sync:A74)(f_i_World_tell:A77)(f_i_World_cut:A9I)(f_i_World_crash:A5o):∀ x,(C4 cfg [B9w f_i_World_send,B7g f_i_World_serve,C04 f_i_World_sync,C07 f_i_World_tell,C2D f_i_World_cut,B7m f_i_World_crash] (B4 []) 41 [.tmp 4] (Tryz.f112.body.getD .skip) C57 C58).fn x=B6D f_i_World_send f_i_World_serve f_i_World_sync f_i_World_tell f_i_World_cut f_i_World_crash x.1 x.2.1:=by intro x;kernel_rfl
theorem D77:B1 Tryz.prog 112 D75:=sm MO B2 (tc Tryz.call200 D2M (tc Tryz.call201 C99 (tc Tryz.call202 D2T (tc Tryz.call203 D2W (tc Tryz.call204 D4D (tc Tryz.call205 C9H A7)))))) Tryz.func112 (by kernel_rfl) (by decide) (D76 A3r A2o A3s A3t A52 A2q)
abbrev E7f:List PK:= [.val true (.pair (.pair (.pair (.pair (.rs 9 .str) (.rs 9 .str)) (.pair (.int .i64) (.pair (.int .i64) (.rs 109 kUp)))) (.rs 130 A9)) (.pair (.rs 79 B3) (.pair (.rs 4 .bool) (.pair (.rs 113 E5) (.pair (.rs 130 A9) (.rs 3 (.int .i64))))))) false,.val true (.pair (.int .i64) (.pair (.int .i64) (.rs 4 .bool))) false]
abbrev E7g:List RK:= [.val true A6t,.val false .bool]
def E7h(f:D6B):Nat×Fn:=(46,⟨E7f,E7g,fun x=>f x.1 x.2.1⟩)
def F0N:Fn:=(E7h D0u).2
theorem F0O(f_i_WorldOk:A6K)(f_i_copyWorld:A9G)(f_i_World_do:B0w):∀ x,(C4 cfg [B9o f_i_WorldOk,C27 f_i_copyWorld,C59 f_i_World_do] (B4 []) 18 [.cell 4 38,.tmp 5] (Tryz.f46.body.getD .skip) E7f E7g).fn x=E0o f_i_WorldOk f_i_copyWorld f_i_World_do x.1 x.2.1:=by intro x;kernel_rfl
theorem F0P:B1 Tryz.prog 46 F0N:=sm MO B2 (tc Tryz.call23 C7w (tc Tryz.call107 D47 (tc Tryz.call112 D77 A7))) Tryz.func46 (by kernel_rfl) (by decide) (F0O A1J A50 A7A)
abbrev D2f:List PK:= [.val false (.rs 5 (.int .u8)) false,.val false (.int .i64) false]
abbrev D2g:List RK:= [.val false (.int .i64)]
def D2h(f:B6E):Nat×Fn:=(69,⟨D2f,D2g,fun x=>f x.1 x.2.1⟩)
def E2B:Fn:=(D2h B1r).2
theorem E2C:∀ x,(C4 cfg [] (B4 []) 15 [.tmp 4] (Tryz.f69.body.getD .skip) D2f D2g).fn x=C30 x.1 x.2.1:=by intro x;kernel_rfl
theorem E2D:B1 Tryz.prog 69 E2B:=sm MO B2 A7 Tryz.func69 (by kernel_rfl) (by decide) (E2C)
abbrev D9P:List PK:= [.val false (.int .i64) false,.val false (.int .i64) false,.val false (.int .i64) false]
abbrev D9Q:List RK:= [.val false .bool]
def A00(f:F4):Nat×Fn:=(120,⟨D9P,D9Q,fun x=>f x.1 x.2.1 x.2.2.1⟩)
def E7i:Fn:=(A00 E6).2
theorem E7j:∀ x,(C4 cfg [] (B4 []) 15 [.tmp 6] (Tryz.f120.body.getD .skip) D9P D9Q).fn x=D0v x.1 x.2.1 x.2.2.1:=by intro x;kernel_rfl
theorem A0J:B1 Tryz.prog 120 E7i:=sm MO B2 A7 Tryz.func120 (by kernel_rfl) (by decide) (E7j)
def E9B:Nat->Option Jn:=B4 [(7,⟨[.t 3 false [.int .i64]],lt 4 28 [],true⟩),(58,⟨[.t 3 false [.int .i64],.t 4 false [.int .i64]],lt 5 27 [],false⟩),(7462,⟨[.t 3 false [.int .i64],.t 5 false [.int .i64]],lt 20 12 [.t 6],false⟩)]
abbrev E3j:List PK:= [.val false (.rs 5 (.int .u8)) false]
abbrev E3k:List RK:= [.val false (.int .i64)]
def C1K(f:A5p):Nat×Fn:=(152,⟨E3j,E3k,fun x=>f x.1⟩)
def E9C:Fn:=(C1K A4b).2
theorem E9D:∀ x,(C4 cfg [] E9B 34 [.tmp 2] (Tryz.f152.body.getD .skip) E3j E3k).fn x=D6C x.1:=by intro x;kernel_rfl
theorem C5A:B1 Tryz.prog 152 E9C:=sm MO B2 A7 Tryz.func152 (by kernel_rfl) (by decide) (E9D)
def E5I:Nat->Option Jn:=B4 [(3,⟨[],lt 3 21 [],false⟩),(26,⟨[.t 3 false [.int .i64]],lt 4 20 [],false⟩)]
abbrev D5W:List PK:= [.val false .str false]
abbrev D5a:List RK:= [.val false .bool]
def A6T(f:U2):Nat×Fn:=(160,⟨D5W,D5a,fun x=>f x.1⟩)
def E5J:Fn:=(A6T R8).2
theorem E5K(f_s_l1In:F4):∀ x,(C4 cfg [A00 f_s_l1In] E5I 27 [.tmp 2] (Tryz.f160.body.getD .skip) D5W D5a).fn x=C60 f_s_l1In x.1:=by intro x;kernel_rfl
theorem A91:B1 Tryz.prog 160 E5J:=sm MO B2 (tc Tryz.call120 A0J A7) Tryz.func160 (by kernel_rfl) (by decide) (E5K E6)
abbrev C5B:List PK:= [.val true (.pair .str (.pair (.rs 5 (.int .u8)) D8)) false]
abbrev C5C:List RK:= [.val false .bool]
def A7i(f:T3):Nat×Fn:=(215,⟨C5B,C5C,fun x=>f x.1⟩)
def D78:Fn:=(A7i G3).2
theorem D79(f_s_l1In:F4)(f_s_l11Id:U2):∀ x,(C4 cfg [A00 f_s_l1In,A6T f_s_l11Id] (B4 []) 25 [.tmp 2] (Tryz.f215.body.getD .skip) C5B C5C).fn x=B6F f_s_l1In f_s_l11Id x.1:=by intro x;kernel_rfl
theorem B1A:B1 Tryz.prog 215 D78:=sm MO B2 (tc Tryz.call120 A0J (tc Tryz.call160 A91 A7)) Tryz.func215 (by kernel_rfl) (by decide) (D79 E6 R8)
def D9R:Nat->Option Jn:=B4 [(128503,⟨[.t 7 false [.int .i64]],lt 40 8 [],true⟩)]
abbrev C86:List PK:= [.val true (.pair .str (.pair (.rs 5 (.int .u8)) D8)) false]
abbrev C87:List RK:= [.val true A06,.val false (.sl 5 (.int .u8)),.val false .bool]
def C88(f:B2r):Nat×Fn:=(251,⟨C86,C87,fun x=>f x.1⟩)
def D9S:Fn:=(C88 A9g).2
theorem D9T(f_s_Crc:A5p)(f_s_ClientOk:T3):∀ x,(C4 cfg [C1K f_s_Crc,A7i f_s_ClientOk] D9R 65 [.cell 2 43,.tmp 3,.tmp 4] (Tryz.f251.body.getD .skip) C86 C87).fn x=B93 f_s_Crc f_s_ClientOk x.1:=by intro x;kernel_rfl
theorem D9U:B1 Tryz.prog 251 D9S:=sm MO B2 (tc Tryz.call152 C5A (tc Tryz.call215 B1A A7)) Tryz.func251 (by kernel_rfl) (by decide) (D9T A4b G3)
abbrev C89:List PK:= [.val true (.pair (.rs 9 .str) (.rs 9 .str)) false]
abbrev C8A:List RK:= [.val true A0C]
def B00(f:A1N):Nat×Fn:=(229,⟨C89,C8A,fun x=>f x.1⟩)
def D9V:Fn:=(B00 A0n).2
theorem D9W:∀ x,(C4 cfg [] (B4 []) 12 [.cell 2 26] (Tryz.f229.body.getD .skip) C89 C8A).fn x=B94 x.1:=by intro x;kernel_rfl
theorem B3R:B1 Tryz.prog 229 D9V:=sm MO B2 A7 Tryz.func229 (by kernel_rfl) (by decide) (D9W)
def D2i:Nat->Option Jn:=B4 [(58,⟨[.t 3 false [.own 100000000],.t 4 false [.int .i64],.r 100000000 109 kUp],lt 7 19 [.b 5,.r 6,.r 17,.r 20,.r 24,.r 25,.t 5],false⟩)]
abbrev C0B:List PK:= [.val false (.rs 109 kUp) false]
abbrev C0C:List RK:= [.val false (.sl 109 kUp)]
def B2J(f:Q2):Nat×Fn:=(230,⟨C0B,C0C,fun x=>f x.1⟩)
def D2j:Fn:=(B2J O1).2
theorem D2k:∀ x,(C4 cfg [] D2i 27 [.tmp 2] (Tryz.f230.body.getD .skip) C0B C0C).fn x=A7B x.1:=by intro x;kernel_rfl
theorem C0D:B1 Tryz.prog 230 D2j:=sm MO B2 A7 Tryz.func230 (by kernel_rfl) (by decide) (D2k)
abbrev C8B:List PK:= [.val true (.pair (.pair (.rs 9 .str) (.rs 9 .str)) (.pair (.int .i64) (.pair (.int .i64) (.rs 109 kUp)))) false]
abbrev C8C:List RK:= [.val true B1a]
def C8D(f:M1):Nat×Fn:=(157,⟨C8B,C8C,fun x=>f x.1⟩)
def D9a:Fn:=(C8D K6).2
theorem D9b(f_s_l12Copy:A1N)(f_s_l14CopyUps:Q2):∀ x,(C4 cfg [B00 f_s_l12Copy,B2J f_s_l14CopyUps] (B4 []) 14 [.cell 2 29] (Tryz.f157.body.getD .skip) C8B C8C).fn x=B2s f_s_l12Copy f_s_l14CopyUps x.1:=by intro x;kernel_rfl
theorem D9c:B1 Tryz.prog 157 D9a:=sm MO B2 (tc Tryz.call229 B3R (tc Tryz.call230 C0D A7)) Tryz.func157 (by kernel_rfl) (by decide) (D9b A0n O1)
def E2E:Nat->Option Jn:=B4 [(3,⟨[],lt 4 13 [],false⟩),(58,⟨[.t 3 false [.int .i64]],lt 17 23 [],false⟩)]
abbrev D2l:List PK:= [.val true (.pair (.rs 9 .str) (.rs 9 .str)) false]
abbrev D2m:List RK:= [.val false .bool]
def B6w(f:A3v):Nat×Fn:=(231,⟨D2l,D2m,fun x=>f x.1⟩)
def E2F:Fn:=(B6w A0S).2
theorem E2G:∀ x,(C4 cfg [] E2E 40 [.tmp 2] (Tryz.f231.body.getD .skip) D2l D2m).fn x=B6G x.1:=by intro x;kernel_rfl
theorem C3f:B1 Tryz.prog 231 E2F:=sm MO B2 A7 Tryz.func231 (by kernel_rfl) (by decide) (E2G)
def E2H:Nat->Option Jn:=B4 [(3,⟨[],lt 10 15 [],false⟩),(15,⟨[.t 8 false [.int .i64]],lt 25 15 [.t 9],true⟩),(122,⟨[.t 8 false [.int .i64],.t 9 false [.int .i64]],lt 25 15 [],false⟩)]
abbrev D2n:List PK:= [.val false (.rs 5 (.int .u8)) false,.val false (.int .i64) false,.val false (.int .i64) false]
abbrev D2o:List RK:= [.val false (.int .i64),.val false .bool]
def D2p(f:B6H):Nat×Fn:=(282,⟨D2n,D2o,fun x=>f x.1 x.2.1 x.2.2.1⟩)
def E2I:Fn:=(D2p A8g).2
theorem E2J(f_s_l1In:F4):∀ x,(C4 cfg [A00 f_s_l1In] E2H 41 [.tmp 6,.tmp 7] (Tryz.f282.body.getD .skip) D2n D2o).fn x=C33 f_s_l1In x.1 x.2.1 x.2.2.1:=by intro x;kernel_rfl
theorem E2K:B1 Tryz.prog 282 E2I:=sm MO B2 (tc Tryz.call120 A0J A7) Tryz.func282 (by kernel_rfl) (by decide) (E2J E6)
def E5L:Nat->Option Jn:=B4 [(3,⟨[],lt 3 16 [],false⟩),(943,⟨[.t 43 false [.bool]],[.t 44,.t 45],true⟩)]
abbrev D5b:List PK:= [.val true (.pair (.int .i64) (.pair (.int .i64) (.pair (.int .i64) (.pair .str (.pair (.int .i64) (.rs 5 (.int .u8))))))) false]
abbrev D5c:List RK:= [.val false .bool]
def D5d(f:C0u):Nat×Fn:=(283,⟨D5b,D5c,fun x=>f x.1⟩)
def E5M:Fn:=(D5d B4V).2
theorem E5N(f_s_l1In:F4)(f_s_l11Id:U2):∀ x,(C4 cfg [A00 f_s_l1In,A6T f_s_l11Id] E5L 55 [.tmp 2] (Tryz.f283.body.getD .skip) D5b D5c).fn x=C61 f_s_l1In f_s_l11Id x.1:=by intro x;kernel_rfl
theorem E5O:B1 Tryz.prog 283 E5M:=sm MO B2 (tc Tryz.call120 A0J (tc Tryz.call160 A91 A7)) Tryz.func283 (by kernel_rfl) (by decide) (E5N E6 R8)
def E2L:Nat->Option Jn:=B4 [(7,⟨[.t 1 false [.int .i64]],[.t 12,.t 13],true⟩),(250,⟨[.t 7 false [.own 100001000],.t 8 false [.int .i64],.r 100001000 5 (.int .u8)],lt 20 13 [.r 11,.r 31,.r 32],false⟩)]
abbrev D2q:List PK:= [.val false (.rs 5 (.int .u8)) false,.val false (.int .i64) false,.val false (.int .i64) false]
abbrev D2r:List RK:= [.val false (.sl 5 (.int .u8))]
def D2s(f:B6I):Nat×Fn:=(306,⟨D2q,D2r,fun x=>f x.1 x.2.1 x.2.2.1⟩)
def E2M:Fn:=(D2s B1s).2
theorem E2N(f_s_l1In:F4):∀ x,(C4 cfg [A00 f_s_l1In] E2L 34 [.tmp 6] (Tryz.f306.body.getD .skip) D2q D2r).fn x=C34 f_s_l1In x.1 x.2.1 x.2.2.1:=by intro x;kernel_rfl
theorem E2O:B1 Tryz.prog 306 E2M:=sm MO B2 (tc Tryz.call120 A0J A7) Tryz.func306 (by kernel_rfl) (by decide) (E2N E6)
abbrev D2t:List PK:= [.val true (.pair (.int .i64) (.pair (.int .i64) (.pair (.int .i64) (.pair .str (.pair (.int .i64) (.rs 5 (.int .u8))))))) false]
abbrev D2u:List RK:= [.val false .str]
def C3g(f:A8h):Nat×Fn:=(284,⟨D2t,D2u,fun x=>f x.1⟩)
def E2P:Fn:=(C3g A61).2
theorem E2Q(f_s_Crc:A5p)(f_s_PutBig:B6I):∀ x,(C4 cfg [C1K f_s_Crc,D2s f_s_PutBig] (B4 []) 38 [.tmp 2] (Tryz.f284.body.getD .skip) D2t D2u).fn x=C35 f_s_Crc f_s_PutBig x.1:=by intro x;kernel_rfl
theorem D2v:B1 Tryz.prog 284 E2P:=sm MO B2 (tc Tryz.call152 C5A (tc Tryz.call306 E2O A7)) Tryz.func284 (by kernel_rfl) (by decide) (E2Q A4b B1s)
def E2R:Nat->Option Jn:=B4 [(255,⟨[],lt 42 21 [],false⟩),(4095,⟨[],lt 87 15 [],false⟩)]
abbrev D2w:List PK:= [.val false .str false]
abbrev D30:List RK:= [.val true B0q,.val false .bool]
def B2K(f:A0T):Nat×Fn:=(235,⟨D2w,D30,fun x=>f x.1⟩)
def E2S:Fn:=(B2K M4).2
theorem E2T(f_s_GetBig:B6H)(f_s_RecOk:C0u)(f_s_l13Put:A8h):∀ x,(C4 cfg [D2p f_s_GetBig,D5d f_s_RecOk,C3g f_s_l13Put] E2R 127 [.cell 2 194,.tmp 3] (Tryz.f235.body.getD .skip) D2w D30).fn x=C36 f_s_GetBig f_s_RecOk f_s_l13Put x.1:=by intro x;kernel_rfl
theorem B70:B1 Tryz.prog 235 E2S:=sm MO B2 (tc Tryz.call282 E2K (tc Tryz.call283 E5O (tc Tryz.call284 D2v A7))) Tryz.func235 (by kernel_rfl) (by decide) (E2T A8g B4V A61)
def D7A:Nat->Option Jn:=B4 [(122,⟨[.t 3 false [.own 100000000],.t 4 false [.int .i64],.t 5 false [.int .i64],.r 100000000 194 B0q],lt 40 6 (lt 9 30 [.b 6,.r 8,.r 42,.r 43,.r 94213,.t 6,.t 7]),false⟩)]
abbrev C5D:List PK:= [.val true (.pair (.rs 9 .str) (.rs 9 .str)) false]
abbrev C5E:List RK:= [.val false (.sl 194 B0q)]
def C5F(f:A2U):Nat×Fn:=(232,⟨C5D,C5E,fun x=>f x.1⟩)
def D7B:Fn:=(C5F A0f).2
theorem D7C(f_s_GetRec:A0T):∀ x,(C4 cfg [B2K f_s_GetRec] D7A 47 [.tmp 2] (Tryz.f232.body.getD .skip) C5D C5E).fn x=B6J f_s_GetRec x.1:=by intro x;kernel_rfl
theorem D7D:B1 Tryz.prog 232 D7B:=sm MO B2 (tc Tryz.call235 B70 A7) Tryz.func232 (by kernel_rfl) (by decide) (D7C M4)
def E5P:Nat->Option Jn:=B4 [(26,⟨[.t 5 false [.int .i64]],lt 6 13 [],false⟩)]
abbrev D5e:List PK:= [.val false (.rs 109 kUp) false,.val false .str false]
abbrev D5f:List RK:= [.val false (.int .i64)]
def A92(f:A0K):Nat×Fn:=(206,⟨D5e,D5f,fun x=>f x.1 x.2.1⟩)
def E5Q:Fn:=(A92 U3).2
theorem E5R:∀ x,(C4 cfg [] E5P 20 [.tmp 4] (Tryz.f206.body.getD .skip) D5e D5f).fn x=C62 x.1 x.2.1:=by intro x;kernel_rfl
theorem B1N:B1 Tryz.prog 206 E5Q:=sm MO B2 A7 Tryz.func206 (by kernel_rfl) (by decide) (E5R)
def B2L:Nat->Option Jn:=B4 [(58,⟨[.t 3 false [.own 100000000],.t 4 false [.int .i64],.r 100000000 109 (.pair .str (.pair (.int .i64) (.pair (.rs 5 (.int .u8)) .bool)))],lt 7 19 [.b 5,.r 6,.r 17,.r 20,.r 24,.r 25,.t 5],false⟩)]
abbrev A4E:List PK:= [.val false (.rs 109 kUp) false]
abbrev A4F:List RK:= [.val false (.sl 109 (.pair .str (.pair (.int .i64) (.pair (.rs 5 (.int .u8)) .bool))))]
def A16(f:Q2):Nat×Fn:=(230,⟨A4E,A4F,fun x=>f x.1⟩)
def B2M:Fn:=(A16 O1).2
theorem B2N:∀ x,(C4 A4i [] B2L 27 [.tmp 2] (Tryz.f230.body.getD .skip) A4E A4F).fn x=A7B x.1:=by intro x;kernel_rfl
theorem A4G:B1 Tryz.prog 230 B2M:=sm MO J7 A7 Tryz.func230 (by kernel_rfl) (by decide) (B2N)
def B4u:Nat->Option Jn:=B4 [(15,⟨[.t 5 false [.own 11],.t 6 false [.int .i64],.r 11 109 (.pair .str (.pair (.int .i64) (.pair (.rs 5 (.int .u8)) .bool)))],lt 15 23 [.x 21,.x 33,.x 35],true⟩),(60,⟨[.t 5 false [.own 11],.t 6 false [.int .i64],.r 11 109 (.pair .str (.pair (.int .i64) (.pair (.rs 5 (.int .u8)) .bool)))],lt 15 23 [.x 21,.x 33,.x 35],false⟩),(120,⟨[],lt 15 13 [.x 21],false⟩)]
abbrev A6U:List PK:= [.val false (.rs 109 kUp) false,.val true (.pair .str (.pair (.int .i64) (.pair (.rs 5 (.int .u8)) .bool))) false]
abbrev A6V:List RK:= [.val false (.sl 109 (.pair .str (.pair (.int .i64) (.pair (.rs 5 (.int .u8)) .bool))))]
def A6W(f:A0L):Nat×Fn:=(305,⟨A6U,A6V,fun x=>f x.1 x.2.1⟩)
def B4v:Fn:=(A6W R9).2
theorem B4w(f_s_l14CopyUps:Q2):∀ x,(C4 A4i [A16 f_s_l14CopyUps] B4u 43 [.tmp 4] (Tryz.f305.body.getD .skip) A6U A6V).fn x=A1u f_s_l14CopyUps x.1 x.2.1:=by intro x;kernel_rfl
theorem B50:B1 Tryz.prog 305 B4v:=sm MO J7 (tc Tryz.call230 A4G A7) Tryz.func305 (by kernel_rfl) (by decide) (B4w O1)
def B71:Nat->Option Jn:=B4 [(4074,⟨[],lt 43 27 [],false⟩)]
abbrev A7j:List PK:= [.val false (.sl 109 (.pair .str (.pair (.int .i64) (.pair (.rs 5 (.int .u8)) .bool)))) false,.val true (.pair (.int .i64) (.pair (.int .i64) (.pair (.int .i64) (.pair .str (.pair (.int .i64) (.rs 5 (.int .u8))))))) false]
abbrev A7k:List RK:= [.val false (.sl 109 (.pair .str (.pair (.int .i64) (.pair (.rs 5 (.int .u8)) .bool)))),.val false .bool]
def A2j(f:L0):Nat×Fn:=(281,⟨A7j,A7k,fun x=>f x.1 x.2.1⟩)
def B72:Fn:=(A2j I6).2
theorem B73(f_s_l14At:A0K)(f_s_l14CopyUps:Q2)(f_s_l14Make_r98_0_r99_0:A0L):∀ x,(C4 cfg [A92 f_s_l14At,B2J f_s_l14CopyUps,A6W f_s_l14Make_r98_0_r99_0] B71 114 [.tmp 4,.tmp 5] (Tryz.f281.body.getD .skip) A7j A7k).fn x=A2V f_s_l14At f_s_l14CopyUps f_s_l14Make_r98_0_r99_0 x.1 x.2.1:=by intro x;kernel_rfl
theorem A7l:B1 Tryz.prog 281 B72:=sm MO B2 (tc Tryz.call206 B1N (tc Tryz.call230 C0D (tc Tryz.call305 B50 A7))) Tryz.func281 (by kernel_rfl) (by decide) (B73 U3 O1 R9)
def D31:Nat->Option Jn:=B4 [(58,⟨[.t 5 false [.int .i64]],lt 11 58 [],false⟩)]
abbrev C0E:List PK:= [.val false (.rs 109 kUp) false,.val false (.rs 109 kUp) false]
abbrev C0F:List RK:= [.val false .bool]
def C0G(f:A7D):Nat×Fn:=(234,⟨C0E,C0F,fun x=>f x.1 x.2.1⟩)
def D32:Fn:=(C0G A3w).2
theorem D33:∀ x,(C4 cfg [] D31 69 [.tmp 4] (Tryz.f234.body.getD .skip) C0E C0F).fn x=B1t x.1 x.2.1:=by intro x;kernel_rfl
theorem D34:B1 Tryz.prog 234 D32:=sm MO B2 A7 Tryz.func234 (by kernel_rfl) (by decide) (D33)
def C3h:Nat->Option Jn:=B4 [(7,⟨[.t 4 false [.own 100000000],.r 100000000 109 (.pair .str (.pair (.int .i64) (.pair (.rs 5 (.int .u8)) .bool)))],lt 9 17 (lt 5 3 [.r 8,.r 90112,.t 27]),false⟩),(58,⟨[.t 4 false [.own 100000000],.t 5 false [.int .i64],.r 100000000 109 (.pair .str (.pair (.int .i64) (.pair (.rs 5 (.int .u8)) .bool)))],lt 9 17 [.r 8,.r 90112,.t 6,.t 7,.t 27],false⟩)]
abbrev B2O:List PK:= [.val false (.rs 194 B0q) false]
abbrev B2P:List RK:= [.val false (.sl 109 (.pair .str (.pair (.int .i64) (.pair (.rs 5 (.int .u8)) .bool)))),.val false .bool]
def A6B(f:A01):Nat×Fn:=(233,⟨B2O,B2P,fun x=>f x.1⟩)
def C3i:Fn:=(A6B R3).2
theorem C3j(f_s_l14One_r93_0_r94_0:L0):∀ x,(C4 A4i [A2j f_s_l14One_r93_0_r94_0] C3h 29 [.tmp 2,.tmp 3] (Tryz.f233.body.getD .skip) B2O B2P).fn x=A62 f_s_l14One_r93_0_r94_0 x.1:=by intro x;kernel_rfl
theorem B2Q:B1 Tryz.prog 233 C3i:=sm MO J7 (tc Tryz.call281 A7l A7) Tryz.func233 (by kernel_rfl) (by decide) (C3j I6)
def D9d:Nat->Option Jn:=B4 [(3,⟨[],lt 9 10 [],false⟩),(31,⟨[],lt 27 33 [],false⟩),(506,⟨[.t 6 false [.int .i64]],lt 62 26 [.b 7,.r 319493,.t 7,.t 8],false⟩)]
abbrev C8E:List PK:= [.val true (.pair (.pair (.rs 9 .str) (.rs 9 .str)) (.pair (.int .i64) (.pair (.int .i64) (.rs 109 kUp)))) false]
abbrev C8F:List RK:= [.val false .bool]
def A4H(f:P5):Nat×Fn:=(159,⟨C8E,C8F,fun x=>f x.1⟩)
def D9e:Fn:=(A4H E7).2
theorem D9f(f_s_l1In:F4)(f_s_DiskOk:A3v)(f_s_ScanRecs:A2U)(f_s_FoldRecs_r98_0:A01)(f_s_l14SameUps:A7D)(f_s_GetRec:A0T):∀ x,(C4 cfg [A00 f_s_l1In,B6w f_s_DiskOk,C5F f_s_ScanRecs,A6B f_s_FoldRecs_r98_0,C0G f_s_l14SameUps,B2K f_s_GetRec] D9d 88 [.tmp 2] (Tryz.f159.body.getD .skip) C8E C8F).fn x=B2u f_s_l1In f_s_DiskOk f_s_ScanRecs f_s_FoldRecs_r98_0 f_s_l14SameUps f_s_GetRec x.1:=by intro x;kernel_rfl
theorem A6a:B1 Tryz.prog 159 D9e:=sm MO B2 (tc Tryz.call120 A0J (tc Tryz.call231 C3f (tc Tryz.call232 D7D (tc Tryz.call233 B2Q (tc Tryz.call234 D34 (tc Tryz.call235 B70 A7)))))) Tryz.func159 (by kernel_rfl) (by decide) (D9f E6 A0S A0f R3 A3w M4)
abbrev C8G:List PK:= [.val true (.pair (.pair (.rs 9 .str) (.rs 9 .str)) (.pair (.int .i64) (.pair (.int .i64) (.rs 109 kUp)))) false]
abbrev C8H:List RK:= [.val false (.int .i64)]
def B01(f:A0o):Nat×Fn:=(236,⟨C8G,C8H,fun x=>f x.1⟩)
def D9g:Fn:=(B01 A0G).2
theorem D9h:∀ x,(C4 cfg [] (B4 []) 10 [.tmp 2] (Tryz.f236.body.getD .skip) C8G C8H).fn x=B95 x.1:=by intro x;kernel_rfl
theorem B3S:B1 Tryz.prog 236 D9g:=sm MO B2 A7 Tryz.func236 (by kernel_rfl) (by decide) (D9h)
abbrev B2R:List PK:= [.ptr (.pair A0C (.pair (.int .i64) (.pair (.int .i64) (.sl 109 (.pair .str (.pair (.int .i64) (.pair (.rs 5 (.int .u8)) .bool))))))),.val true (.pair (.int .i64) (.pair (.int .i64) (.pair (.int .i64) (.pair .str (.pair (.int .i64) (.rs 5 (.int .u8))))))) false]
abbrev B2S:List RK:= []
def A17(f:H3):Nat×Fn:=(237,⟨B2R,B2S,fun x=>f x.1 x.2.1⟩)
def C3k:Fn:=(A17 F5).2
theorem C3l(f_s_l14One_r93_0_r94_0:L0)(f_s_l13Put:A8h):∀ x,(C4 cfg [A2j f_s_l14One_r93_0_r94_0,C3g f_s_l13Put] (B4 []) 46 [] (Tryz.f237.body.getD .skip) B2R B2S).fn x=A63 f_s_l14One_r93_0_r94_0 f_s_l13Put x.1 x.2.1:=by intro x;kernel_rfl
theorem A2k:B1 Tryz.prog 237 C3k:=sm MO B2 (tc Tryz.call281 A7l (tc Tryz.call284 D2v A7)) Tryz.func237 (by kernel_rfl) (by decide) (C3l I6 A61)
abbrev D9i:List PK:= [.val true (.pair (.pair (.rs 9 .str) (.rs 9 .str)) (.pair (.int .i64) (.pair (.int .i64) (.rs 109 kUp)))) false,.val false .str false]
abbrev D9j:List RK:= [.val true kUp,.val false .bool]
def C0H(f:A53):Nat×Fn:=(113,⟨D9i,D9j,fun x=>f x.1 x.2.1⟩)
def E7k:Fn:=(C0H A1P).2
theorem E7l(f_s_l14At:A0K):∀ x,(C4 cfg [A92 f_s_l14At] (B4 []) 26 [.cell 4 109,.tmp 5] (Tryz.f113.body.getD .skip) D9i D9j).fn x=C4F f_s_l14At x.1 x.2.1:=by intro x;kernel_rfl
theorem C5G:B1 Tryz.prog 113 E7k:=sm MO B2 (tc Tryz.call206 B1N A7) Tryz.func113 (by kernel_rfl) (by decide) (E7l U3)
abbrev C5H:List PK:= [.val true (.pair (.pair (.rs 9 .str) (.rs 9 .str)) (.pair (.int .i64) (.pair (.int .i64) (.rs 109 kUp)))) false,.val true A06 false]
abbrev C5I:List RK:= [.val true D8]
def B74(f:A4d):Nat×Fn:=(166,⟨C5H,C5I,fun x=>f x.1 x.2.1⟩)
def D7E:Fn:=(B74 A2W).2
theorem D7F(f_s_UpAt:A53):∀ x,(C4 cfg [C0H f_s_UpAt] (B4 []) 35 [.cell 4 126] (Tryz.f166.body.getD .skip) C5H C5I).fn x=B6K f_s_UpAt x.1 x.2.1:=by intro x;kernel_rfl
theorem C5J:B1 Tryz.prog 166 D7E:=sm MO B2 (tc Tryz.call113 C5G A7) Tryz.func166 (by kernel_rfl) (by decide) (D7F A1P)
def E2U:Nat->Option Jn:=B4 [(235,⟨[.t 19 false [.bool]],[.t 20,.t 21],true⟩)]
abbrev D35:List PK:= [.val true (.pair (.pair (.rs 9 .str) (.rs 9 .str)) (.pair (.int .i64) (.pair (.int .i64) (.rs 109 kUp)))) false,.val false .str false,.val false (.int .i64) false]
abbrev D36:List RK:= [.val true D8]
def C3m(f:A8j):Nat×Fn:=(167,⟨D35,D36,fun x=>f x.1 x.2.1 x.2.2.1⟩)
def E2V:Fn:=(C3m A64).2
theorem E2W(f_s_UpAt:A53):∀ x,(C4 cfg [C0H f_s_UpAt] E2U 33 [.cell 6 126] (Tryz.f167.body.getD .skip) D35 D36).fn x=C37 f_s_UpAt x.1 x.2.1 x.2.2.1:=by intro x;kernel_rfl
theorem D37:B1 Tryz.prog 167 E2V:=sm MO B2 (tc Tryz.call113 C5G A7) Tryz.func167 (by kernel_rfl) (by decide) (E2W A1P)
abbrev A6b:List PK:= [.val true (.pair (.pair (.rs 9 .str) (.rs 9 .str)) (.pair (.int .i64) (.pair (.int .i64) (.rs 109 kUp)))) false]
abbrev A6c:List RK:= [.val true (.pair A0C (.pair (.int .i64) (.pair (.int .i64) (.sl 109 (.pair .str (.pair (.int .i64) (.pair (.rs 5 (.int .u8)) .bool)))))))]
def K0(f:M1):Nat×Fn:=(157,⟨A6b,A6c,fun x=>f x.1⟩)
def B51:Fn:=(K0 K6).2
theorem B52(f_s_l12Copy:A1N)(f_s_l14CopyUps:Q2):∀ x,(C4 A4i [B00 f_s_l12Copy,A16 f_s_l14CopyUps] (B4 []) 14 [.cell 2 29] (Tryz.f157.body.getD .skip) A6b A6c).fn x=B2s f_s_l12Copy f_s_l14CopyUps x.1:=by intro x;kernel_rfl
theorem N3:B1 Tryz.prog 157 B51:=sm MO J7 (tc Tryz.call229 B3R (tc Tryz.call230 A4G A7)) Tryz.func157 (by kernel_rfl) (by decide) (B52 A0n O1)
end
end Go.Proofs.YtpdcljonclhhpaaGreat.Ev
