/- Each function of the program does what its plain function says. -/
import Derived.Test.YtpdcljonclhhpaaGreatG1
import Derived.Test.YtpdcljonclhhpaaGreatFind
set_option linter.unusedVariables false
set_option maxRecDepth 100000
namespace Go.Proofs.YtpdcljonclhhpaaGreat.Ev
noncomputable section
def C2j:Nat→Option Jn:=B3 [(3,⟨[],lt 9 8 [],false⟩)]
abbrev B17:List PK:= [.ptr A3g,.val false .str false,.val false (.int .i64) false]
abbrev B18:List RK:= [.val false (.int .i64)]
def B19(f:A1c):Nat×Fn:=(222,⟨B17,B18,fun x=>f x.1 x.2.1 x.2.2.1⟩)
def C2k:Fn:=(B19 X8).2
theorem C2l(f_i_inRange:C2)(f_i_idOk:R4)(f_i_Store_left:L4)(f_i_Store_write_r97_0:E9)(f_i_Store_find:H0):∀ x,(B9 (cfg.withPk 276 ⟨kUp,4,f_i_Store_find⟩) [G8 f_i_inRange,A6Q f_i_idOk,A1P f_i_Store_left,P4 f_i_Store_write_r97_0] C2j 39 [.tmp 6] (Tryz.f222.body.getD .skip) B17 B18).fn x=A4r f_i_inRange f_i_idOk f_i_Store_left f_i_Store_write_r97_0 f_i_Store_find x.1 x.2.1 x.2.2.1:=by intro x;kernel_rfl
theorem C2m:B1 Tryz.prog 222 C2k:=sm MO (A7M A7 (fun args w=>Tryz.call276 args w) Y7) (tc Tryz.call80 H8 (tc Tryz.call147 A8M (tc Tryz.call277 A4Q (tc Tryz.call278 U3 A5)))) Tryz.func222 (by kernel_rfl) (by decide) (C2l C5 Q1 K1 C8 G0)
def C5c:Nat→Option Jn:=B3 [(3,⟨[],lt 12 9 [],false⟩),(15,⟨[.b 1000 [.own 215040,.own 215041,.int .i64,.int .i64,.own 215044],.r 215040 9 .str,.r 215041 9 .str,.r 215044 109 kUp],lt 27 31 [.r 1000,.r 1001,.r 1004],false⟩),(243,⟨[.t 30 false [.bool]],lt 31 18 [],true⟩),(250,⟨[.b 6 [.int .i64],.b 1000 [.own 100003000,.own 100003001,.int .i64,.int .i64,.own 100003002],.r 100003000 9 .str,.r 100003001 9 .str,.r 100003002 109 kUp],lt 60 10 [.r 215040,.r 215041,.r 215044,.r 272384,.r 272385,.r 272388,.t 11],false⟩)]
abbrev B3N:List PK:= [.ptr A3g,.val false .str false,.val false (.int .i64) false,.val false (.rs 5 (.int .u8)) false]
abbrev B3O:List RK:= [.val false (.int .i64)]
def B3P(f:A2Z):Nat×Fn:=(223,⟨B3N,B3O,fun x=>f x.1 x.2.1 x.2.2.1 x.2.2.2.1⟩)
def C5d:Fn:=(B3P A0E).2
theorem C5e(f_i_inRange:C2)(f_i_idOk:R4)(f_i_Store_left:L4)(f_i_Store_write_r97_0:E9)(f_i_Store_find:H0):∀ x,(B9 (((cfg.withPk 276 ⟨kUp,4,f_i_Store_find⟩).withCk 279 304).withPt [244]) [G8 f_i_inRange,A6Q f_i_idOk,A1P f_i_Store_left,P4 f_i_Store_write_r97_0] C5c 70 [.tmp 8] (Tryz.f223.body.getD .skip) B3N B3O).fn x=A6X f_i_inRange f_i_idOk f_i_Store_left f_i_Store_write_r97_0 f_i_Store_find x.1 x.2.1 x.2.2.1 x.2.2.2.1:=by intro x;kernel_rfl
theorem C5f:B1 Tryz.prog 223 C5d:=sm MO (E3s (l:= [244]) (E3r (A7M A7 (fun args w=>Tryz.call276 args w) Y7) (fun args w=>Tryz.call279 args w) E8U) ⟨⟨_,Tryz.underlying244,rfl⟩,trivial⟩) (tc Tryz.call80 H8 (tc Tryz.call147 A8M (tc Tryz.call277 A4Q (tc Tryz.call278 U3 A5)))) Tryz.func223 (by kernel_rfl) (by decide) (C5e C5 Q1 K1 C8 G0)
abbrev B3Q:List PK:= [.ptr A1Z,.val false (.int .i64) false,.val false .str false]
abbrev B3R:List RK:= [.val true E8]
def A2z(f:O5):Nat×Fn:=(224,⟨B3Q,B3R,fun x=>f x.1 x.2.1 x.2.2.1⟩)
def C5g:Fn:=(A2z M0).2
theorem C5h(f_i_Store_find:H0):∀ x,(B9 (cfg.withPk 276 ⟨kUp,4,f_i_Store_find⟩) [] (B3 []) 22 [.cell 6 126] (Tryz.f224.body.getD .skip) B3Q B3R).fn x=A6Y f_i_Store_find x.1 x.2.1 x.2.2.1:=by intro x;kernel_rfl
theorem A6r:B1 Tryz.prog 224 C5g:=sm MO (A7M A7 (fun args w=>Tryz.call276 args w) Y7) A5 Tryz.func224 (by kernel_rfl) (by decide) (C5h G0)
def C2n:Nat→Option Jn:=B3 [(15,⟨[.b 7 [.str,.int .i64,.any,.bool],.b 1000 [.own 100000000,.own 100000001,.int .i64,.int .i64,.own 100000002],.r 100000000 9 .str,.r 100000001 9 .str,.r 100000002 109 kUp],lt 18 25 [.r 1000,.r 1001,.r 1004,.r 169984,.r 169985,.r 169988],false⟩)]
abbrev B1A:List PK:= [.ptr A3g,.val false .str false,.val false (.int .i64) false]
abbrev B1B:List RK:= [.val false (.int .i64)]
def B1C(f:A1d):Nat×Fn:=(225,⟨B1A,B1B,fun x=>f x.1 x.2.1 x.2.2.1⟩)
def C2o:Fn:=(B1C X9).2
theorem C2p(f_i_idOk:R4)(f_i_Store_left:L4)(f_i_Store_write_r97_0:E9)(f_i_Crc:A8o)(f_i_Store_find:H0):∀ x,(B9 (cfg.withPk 276 ⟨kUp,4,f_i_Store_find⟩) [A6Q f_i_idOk,A1P f_i_Store_left,P4 f_i_Store_write_r97_0,C6f f_i_Crc] C2n 49 [.tmp 6] (Tryz.f225.body.getD .skip) B1A B1B).fn x=A4s f_i_idOk f_i_Store_left f_i_Store_write_r97_0 f_i_Crc f_i_Store_find x.1 x.2.1 x.2.2.1:=by intro x;kernel_rfl
theorem C2q:B1 Tryz.prog 225 C2o:=sm MO (A7M A7 (fun args w=>Tryz.call276 args w) Y7) (tc Tryz.call147 A8M (tc Tryz.call277 A4Q (tc Tryz.call278 U3 (tc Tryz.call280 D4j A5)))) Tryz.func225 (by kernel_rfl) (by decide) (C2p Q1 K1 C8 A6z G0)
abbrev B1D:List PK:= [.ptr A3g,.val false .str false]
abbrev B1E:List RK:= [.val false (.int .i64)]
def B1F(f:A1e):Nat×Fn:=(226,⟨B1D,B1E,fun x=>f x.1 x.2.1⟩)
def C2r:Fn:=(B1F Y0).2
theorem C2s(f_i_idOk:R4)(f_i_Store_left:L4)(f_i_Store_write_r97_0:E9)(f_i_Store_find:H0):∀ x,(B9 (cfg.withPk 276 ⟨kUp,4,f_i_Store_find⟩) [A6Q f_i_idOk,A1P f_i_Store_left,P4 f_i_Store_write_r97_0] (B3 []) 24 [.tmp 4] (Tryz.f226.body.getD .skip) B1D B1E).fn x=A4t f_i_idOk f_i_Store_left f_i_Store_write_r97_0 f_i_Store_find x.1 x.2.1:=by intro x;kernel_rfl
theorem C2t:B1 Tryz.prog 226 C2r:=sm MO (A7M A7 (fun args w=>Tryz.call276 args w) Y7) (tc Tryz.call147 A8M (tc Tryz.call277 A4Q (tc Tryz.call278 U3 A5))) Tryz.func226 (by kernel_rfl) (by decide) (C2s Q1 K1 C8 G0)
def C5i:Nat→Option Jn:=B3 [(115,⟨[.t 20 false [.bool]],lt 21 8 [],true⟩)]
abbrev B3S:List PK:= [.ptr A1Z,.val true N3 false]
abbrev B3T:List RK:= [.val true E8]
def B3U(f:A2a):Nat×Fn:=(227,⟨B3S,B3T,fun x=>f x.1 x.2.1⟩)
def C5j:Fn:=(B3U A0F).2
theorem C5k(f_i_Server_told:O5)(f_i_Store_find:H0):∀ x,(B9 (cfg.withPk 276 ⟨kUp,4,f_i_Store_find⟩) [A2z f_i_Server_told] C5i 37 [.cell 4 126] (Tryz.f227.body.getD .skip) B3S B3T).fn x=A6Z f_i_Server_told f_i_Store_find x.1 x.2.1:=by intro x;kernel_rfl
theorem C5l:B1 Tryz.prog 227 C5j:=sm MO (A7M A7 (fun args w=>Tryz.call276 args w) Y7) (tc Tryz.call224 A6r A5) Tryz.func227 (by kernel_rfl) (by decide) (C5k M0 G0)
def B9g:Nat→Option Jn:=B3 [(107,⟨[.t 11 false [.bool]],[.t 12,.t 13],true⟩)]
abbrev A8O:List PK:= [.ptr A1Z,.val false (.int .i64) false,.val false .str false]
abbrev A8P:List RK:= [.val true E8]
def A8Q(f:A03):Nat×Fn:=(228,⟨A8O,A8P,fun x=>f x.1 x.2.1 x.2.2.1⟩)
def B9h:Fn:=(A8Q H9).2
theorem B9i(f_i_Server_told:O5):∀ x,(B9 cfg [A2z f_i_Server_told] B9g 24 [.cell 6 126] (Tryz.f228.body.getD .skip) A8O A8P).fn x=A31 f_i_Server_told x.1 x.2.1 x.2.2.1:=by intro x;kernel_rfl
theorem B9j:B1 Tryz.prog 228 B9h:=sm MO A7 (tc Tryz.call224 A6r A5) Tryz.func228 (by kernel_rfl) (by decide) (B9i M0)
def C0q:Nat→Option Jn:=B3 [(15,⟨[.t 7 false [.int .i64],.b 8 [.int .i64,.int .i64],.b 1000 [.own 100000000,.own 100000001,.int .i64,.int .i64,.own 100000002,.own 100000003],.r 100000000 9 .str,.r 100000001 9 .str,.r 100000002 109 kUp,.r 100000003 130 A9],lt 15 46 [.r 1000,.r 1001,.r 1004,.r 1005,.r 104448,.r 104449,.r 104452,.r 153600,.r 153601,.r 153604,.r 169984,.r 169985,.r 169988,.r 169989,.r 210944,.r 210945,.r 210948,.r 247808,.r 247809,.r 247812,.t 10,.t 11],false⟩)]
abbrev A9Z:List PK:= [.ptr A1Z,.val true N3 false,.val false (.rs 5 (.int .u8)) false]
abbrev A9a:List RK:= [.val true E8]
def A9b(f:A0d):Nat×Fn:=(156,⟨A9Z,A9a,fun x=>f x.1 x.2.1 x.2.2.1⟩)
def C0r:Fn:=(A9b V5).2
theorem C0s(f_i_Store_makeUp:A1c)(f_i_Store_putUp:A2Z)(f_i_Server_told:O5)(f_i_Store_doneUp:A1d)(f_i_Store_dropUp:A1e)(f_i_Server_look:A2a)(f_i_Server_refused:A03):∀ x,(B9 cfg [B19 f_i_Store_makeUp,B3P f_i_Store_putUp,A2z f_i_Server_told,B1C f_i_Store_doneUp,B1F f_i_Store_dropUp,B3U f_i_Server_look,A8Q f_i_Server_refused] C0q 69 [.cell 6 126] (Tryz.f156.body.getD .skip) A9Z A9a).fn x=A3o f_i_Store_makeUp f_i_Store_putUp f_i_Server_told f_i_Store_doneUp f_i_Store_dropUp f_i_Server_look f_i_Server_refused x.1 x.2.1 x.2.2.1:=by intro x;kernel_rfl
theorem C0t:B1 Tryz.prog 156 C0r:=sm MO A7 (tc Tryz.call222 C2m (tc Tryz.call223 C5f (tc Tryz.call224 A6r (tc Tryz.call225 C2q (tc Tryz.call226 C2t (tc Tryz.call227 C5l (tc Tryz.call228 B9j A5))))))) Tryz.func156 (by kernel_rfl) (by decide) (C0s X8 A0E M0 X9 Y0 A0F H9)
def C2u:Nat→Option Jn:=B3 [(3,⟨[],lt 10 11 [],false⟩)]
abbrev B1G:List PK:= [.ptr A1Z,.val false (.int .i64) false,.val true N3 false,.val false (.rs 5 (.int .u8)) false]
abbrev B1H:List RK:= [.val false .bool]
def B1I(f:A1f):Nat×Fn:=(88,⟨B1G,B1H,fun x=>f x.1 x.2.1 x.2.2.1 x.2.2.2.1⟩)
def C2v:Fn:=(B1I A1g).2
theorem C2w(f_i_ReqOk:A4p)(f_i_Server_answer:A0d):∀ x,(B9 cfg [C2i f_i_ReqOk,A9b f_i_Server_answer] C2u 37 [.tmp 8] (Tryz.f88.body.getD .skip) B1G B1H).fn x=A4u f_i_ReqOk f_i_Server_answer x.1 x.2.1 x.2.2.1 x.2.2.2.1:=by intro x;kernel_rfl
theorem C2x:B1 Tryz.prog 88 C2v:=sm MO A7 (tc Tryz.call79 D3K (tc Tryz.call156 C0t A5)) Tryz.func88 (by kernel_rfl) (by decide) (C2w A3F V5)
abbrev B3V:List PK:= [.ptr Z8,.val false (.int .i64) false]
abbrev B3W:List RK:= [.val false .bool]
def B3X(f:A2b):Nat×Fn:=(201,⟨B3V,B3W,fun x=>f x.1 x.2.1⟩)
def C5m:Fn:=(B3X A0G).2
theorem C5n(f_i_inRange:C2)(f_i_Server_serve:A1f)(f_slices_Delete_impl_Want_impl_Want:H2):∀ x,(B9 cfg [G8 f_i_inRange,B1I f_i_Server_serve,S8 f_slices_Delete_impl_Want_impl_Want] (B3 []) 44 [.tmp 4] (Tryz.f201.body.getD .skip) B3V B3W).fn x=A6a f_i_inRange f_i_Server_serve f_slices_Delete_impl_Want_impl_Want x.1 x.2.1:=by intro x;kernel_rfl
theorem C5o:B1 Tryz.prog 201 C5m:=sm MO A7 (tc Tryz.call80 H8 (tc Tryz.call88 C2x (tc Tryz.call260 A2H A5))) Tryz.func201 (by kernel_rfl) (by decide) (C5n C5 A1g H3)
abbrev B7Z:List PK:= [.val true (.pair (.rs 9 .str) (.rs 9 .str)) false]
abbrev B7a:List RK:= [.val true A0x]
def B7b(f:A5M):Nat×Fn:=(296,⟨B7Z,B7a,fun x=>f x.1⟩)
def D16:Fn:=(B7b A1v).2
theorem D17(f_slices_Clone_string_string:G3):∀ x,(B9 cfg [R2 f_slices_Clone_string_string] (B3 []) 10 [.cell 2 26] (Tryz.f296.body.getD .skip) B7Z B7a).fn x=B01 f_slices_Clone_string_string x.1:=by intro x;kernel_rfl
theorem D18:B1 Tryz.prog 296 D16:=sm MO A7 (tc Tryz.call275 A0S A5) Tryz.func296 (by kernel_rfl) (by decide) (D17 F7)
abbrev A8R:List PK:= [.ptr A1Z]
abbrev A8S:List RK:= [.val false (.sl 130 A9)]
def A8T(f:A04):Nat×Fn:=(261,⟨A8R,A8S,fun x=>f x.1⟩)
def B9k:Fn:=(A8T A05).2
theorem B9l(f_i_FlushDisk:A5M):∀ x,(B9 cfg [B7b f_i_FlushDisk] (B3 []) 22 [.tmp 2] (Tryz.f261.body.getD .skip) A8R A8S).fn x=A32 f_i_FlushDisk x.1:=by intro x;kernel_rfl
theorem B9m:B1 Tryz.prog 261 B9k:=sm MO A7 (tc Tryz.call296 D18 A5) Tryz.func261 (by kernel_rfl) (by decide) (B9l A1v)
abbrev B5e:List PK:= [.ptr Z8]
abbrev B5f:List RK:= [.val false .bool]
def B5g(f:A3p):Nat×Fn:=(202,⟨B5e,B5f,fun x=>f x.1⟩)
def C8x:Fn:=(B5g A17).2
theorem C8y(f_i_Server_syncAll:A04):∀ x,(B9 cfg [A8T f_i_Server_syncAll] (B3 []) 30 [.tmp 2] (Tryz.f202.body.getD .skip) B5e B5f).fn x=A7o f_i_Server_syncAll x.1:=by intro x;kernel_rfl
theorem C8z:B1 Tryz.prog 202 C8x:=sm MO A7 (tc Tryz.call261 B9m A5) Tryz.func202 (by kernel_rfl) (by decide) (C8y A05)
abbrev A9c:List PK:= [.ptr B2,.val false (.int .i64) false]
abbrev A9d:List RK:= []
def A9e(f:A0e):Nat×Fn:=(311,⟨A9c,A9d,fun x=>f x.1 x.2.1⟩)
def C0u:Fn:=(A9e V6).2
theorem C0v(f_i_inRange:C2):∀ x,(B9 cfg [G8 f_i_inRange] (B3 []) 32 [] (Tryz.f311.body.getD .skip) A9c A9d).fn x=A3q f_i_inRange x.1 x.2.1:=by intro x;kernel_rfl
theorem C0w:B1 Tryz.prog 311 C0u:=sm MO A7 (tc Tryz.call80 H8 A5) Tryz.func311 (by kernel_rfl) (by decide) (C0v C5)
def C5p:Nat→Option Jn:=B3 [(14,⟨[.t 15 false [.bool]],lt 16 12 [],true⟩),(59,⟨[.t 32 false [.bool]],lt 33 10 [],true⟩),(239,⟨[.t 47 false [.bool]],lt 48 6 [],true⟩),(959,⟨[.t 57 false [.bool]],lt 58 10 [],true⟩),(3839,⟨[.t 71 false [.bool]],lt 72 6 [],true⟩)]
abbrev B3Y:List PK:= [.ptr B2,.val true E8 false]
abbrev B3Z:List RK:= []
def B3a(f:A2c):Nat×Fn:=(297,⟨B3Y,B3Z,fun x=>f x.1 x.2.1⟩)
def C5q:Fn:=(B3a A0H).2
theorem C5r(f_i_Client_howFar:A0e):∀ x,(B9 cfg [A9e f_i_Client_howFar] C5p 88 [] (Tryz.f297.body.getD .skip) B3Y B3Z).fn x=A6b f_i_Client_howFar x.1 x.2.1:=by intro x;kernel_rfl
theorem C5s:B1 Tryz.prog 297 C5q:=sm MO A7 (tc Tryz.call311 C0w A5) Tryz.func297 (by kernel_rfl) (by decide) (C5r V6)
abbrev C0x:List PK:= [.val true (.pair .str (.pair (.rs 5 (.int .u8)) E8)) false,.val true E8 false]
abbrev C0y:List RK:= [.val true B2]
def C0z(f:A71):Nat×Fn:=(263,⟨C0x,C0y,fun x=>f x.1 x.2.1⟩)
def D4z:Fn:=(C0z A3r).2
theorem D50(f_i_RespOk:W8)(f_i_ClientOk:N5)(f_i_copyClient:N7)(f_i_Client_isOver:K8)(f_i_Client_hear:A2c):∀ x,(B9 cfg [B30 f_i_RespOk,A4J f_i_ClientOk,A4N f_i_copyClient,S1 f_i_Client_isOver,B3a f_i_Client_hear] (B3 []) 23 [.cell 4 79] (Tryz.f263.body.getD .skip) C0x C0y).fn x=B2E f_i_RespOk f_i_ClientOk f_i_copyClient f_i_Client_isOver f_i_Client_hear x.1 x.2.1:=by intro x;kernel_rfl
theorem D51:B1 Tryz.prog 263 D4z:=sm MO A7 (tc Tryz.call93 B9c (tc Tryz.call145 A7J (tc Tryz.call190 A8N (tc Tryz.call295 A0C (tc Tryz.call297 C5s A5))))) Tryz.func263 (by kernel_rfl) (by decide) (D50 T3 K5 K0 I7 A0H)
abbrev B5h:List PK:= [.ptr Z8,.val false (.int .i64) false]
abbrev B5i:List RK:= [.val false .bool]
def B5j(f:A3s):Nat×Fn:=(203,⟨B5h,B5i,fun x=>f x.1 x.2.1⟩)
def C90:Fn:=(B5j A18).2
theorem C91(f_i_inRange:C2)(f_slices_Delete_impl_Held_impl_Held:H4)(f_i_HearResp:A71):∀ x,(B9 cfg [G8 f_i_inRange,S9 f_slices_Delete_impl_Held_impl_Held,C0z f_i_HearResp] (B3 []) 85 [.tmp 4] (Tryz.f203.body.getD .skip) B5h B5i).fn x=A7p f_i_inRange f_slices_Delete_impl_Held_impl_Held f_i_HearResp x.1 x.2.1:=by intro x;kernel_rfl
theorem C92:B1 Tryz.prog 203 C90:=sm MO A7 (tc Tryz.call80 H8 (tc Tryz.call262 A2L (tc Tryz.call263 D51 A5))) Tryz.func203 (by kernel_rfl) (by decide) (C91 C5 H5 A3r)
abbrev C93:List PK:= [.val true (.pair .str (.pair (.rs 5 (.int .u8)) E8)) false]
abbrev C94:List RK:= [.val true B2]
def C95(f:B2F):Nat×Fn:=(300,⟨C93,C94,fun x=>f x.1⟩)
def E1I:Fn:=(C95 B98).2
theorem E1J(f_i_ClientOk:N5)(f_i_copyClient:N7)(f_i_Client_isOver:K8):∀ x,(B9 cfg [A4J f_i_ClientOk,A4N f_i_copyClient,S1 f_i_Client_isOver] (B3 []) 14 [.cell 2 79] (Tryz.f300.body.getD .skip) C93 C94).fn x=C7N f_i_ClientOk f_i_copyClient f_i_Client_isOver x.1:=by intro x;kernel_rfl
theorem E1K:B1 Tryz.prog 300 E1I:=sm MO A7 (tc Tryz.call145 A7J (tc Tryz.call190 A8N (tc Tryz.call295 A0C A5))) Tryz.func300 (by kernel_rfl) (by decide) (E1J K5 K0 I7)
abbrev B5k:List PK:= [.ptr Z8,.val false (.int .i64) false]
abbrev B5l:List RK:= []
def A8U(f:T4):Nat×Fn:=(268,⟨B5k,B5l,fun x=>f x.1 x.2.1⟩)
def C96:Fn:=(A8U A19).2
theorem C97(f_i_CutOff:B2F):∀ x,(B9 cfg [C95 f_i_CutOff] (B3 []) 24 [] (Tryz.f268.body.getD .skip) B5k B5l).fn x=B4Y f_i_CutOff x.1 x.2.1:=by intro x;kernel_rfl
theorem B5m:B1 Tryz.prog 268 C96:=sm MO A7 (tc Tryz.call300 E1K A5) Tryz.func268 (by kernel_rfl) (by decide) (C97 B98)
abbrev B7c:List PK:= [.ptr Z8,.val false (.int .i64) false]
abbrev B7d:List RK:= [.val false .bool]
def B7e(f:A5N):Nat×Fn:=(204,⟨B7c,B7d,fun x=>f x.1 x.2.1⟩)
def D19:Fn:=(B7e B02).2
theorem D1A(f_i_inRange:C2)(f_slices_DeleteFunc_impl_Want_impl_Want:G1)(f_slices_DeleteFunc_impl_Held_impl_Held:G2)(f_i_World_rest:T4):∀ x,(B9 cfg [G8 f_i_inRange,P6 f_slices_DeleteFunc_impl_Want_impl_Want,P7 f_slices_DeleteFunc_impl_Held_impl_Held,A8U f_i_World_rest] (B3 []) 48 [.tmp 4] (Tryz.f204.body.getD .skip) B7c B7d).fn x=B78 f_i_inRange f_slices_DeleteFunc_impl_Want_impl_Want f_slices_DeleteFunc_impl_Held_impl_Held f_i_World_rest x.1 x.2.1:=by intro x;kernel_rfl
theorem D1B:B1 Tryz.prog 204 D19:=sm MO A7 (tc Tryz.call80 H8 (tcC Tryz.call265 A0p (tcC Tryz.call267 A0t (tc Tryz.call268 B5m A5)))) Tryz.func204 (by kernel_rfl) (by decide) (D1A C5 J1 J2 A19)
abbrev C10:List PK:= [.val true (.pair (.rs 9 .str) (.rs 9 .str)) false]
abbrev C11:List RK:= [.val false (.int .i64)]
def C12(f:A72):Nat×Fn:=(312,⟨C10,C11,fun x=>f x.1⟩)
def D52:Fn:=(C12 B2G).2
theorem D53(f_i_topFrom:A3E):∀ x,(B9 cfg [B5T f_i_topFrom] (B3 []) 6 [.tmp 2] (Tryz.f312.body.getD .skip) C10 C11).fn x=C0D f_i_topFrom x.1:=by intro x;kernel_rfl
theorem D54:B1 Tryz.prog 312 D52:=sm MO A7 (tc Tryz.call174 C3v A5) Tryz.func312 (by kernel_rfl) (by decide) (D53 A13)
def D1C:Nat→Option Jn:=B3 [(63,⟨[],lt 22 6 [],false⟩)]
abbrev B7f:List PK:= [.val true (.pair (.rs 9 .str) (.rs 9 .str)) false]
abbrev B7g:List RK:= [.val true A3g,.val false .bool]
def B7h(f:A5O):Nat×Fn:=(301,⟨B7f,B7g,fun x=>f x.1⟩)
def D1D:Fn:=(B7h B03).2
theorem D1E(f_i_DiskOk:A0z)(f_i_ScanRecs:A1a)(f_i_FoldRecs:A1b)(f_i_copyDisk:V4)(f_i_TopEpoch:A72):∀ x,(B9 cfg [B31 f_i_DiskOk,B32 f_i_ScanRecs,B33 f_i_FoldRecs,A7K f_i_copyDisk,C12 f_i_TopEpoch] D1C 36 [.cell 2 29,.tmp 3] (Tryz.f301.body.getD .skip) B7f B7g).fn x=B79 f_i_DiskOk f_i_ScanRecs f_i_FoldRecs f_i_copyDisk f_i_TopEpoch x.1:=by intro x;kernel_rfl
theorem D1F:B1 Tryz.prog 301 D1D:=sm MO A7 (tc Tryz.call169 B9d (tc Tryz.call170 C0e (tc Tryz.call171 C0h (tc Tryz.call221 B34 (tc Tryz.call312 D54 A5))))) Tryz.func301 (by kernel_rfl) (by decide) (D1E A10 A00 A01 R6 B2G)
def D55:Nat→Option Jn:=B3 [(122,⟨[.t 16 false [.int .i64],.b 5 [.own 36864,.own 36865],.r 36864 9 .str,.r 36865 9 .str],lt 17 31 [.t 6,.x 35,.x 37,.x 44,.x 46],false⟩),(7833,⟨[.t 28 false [.bool]],lt 19 9 [],true⟩)]
abbrev C13:List PK:= [.val true (.pair (.rs 9 .str) (.rs 9 .str)) false,.val false (.rs 4 .bool) false]
abbrev C14:List RK:= [.val true A0x]
def C15(f:A73):Nat×Fn:=(302,⟨C13,C14,fun x=>f x.1 x.2.1⟩)
def D56:Fn:=(C15 B2H).2
theorem D57(f_i_DiskOk:A0z)(f_i_copyDisk:V4):∀ x,(B9 cfg [B31 f_i_DiskOk,A7K f_i_copyDisk] D55 49 [.cell 4 26] (Tryz.f302.body.getD .skip) C13 C14).fn x=C0E f_i_DiskOk f_i_copyDisk x.1 x.2.1:=by intro x;kernel_rfl
theorem D58:B1 Tryz.prog 302 D56:=sm MO A7 (tc Tryz.call169 B9d (tc Tryz.call221 B34 A5)) Tryz.func302 (by kernel_rfl) (by decide) (D57 A10 R6)
abbrev B1J:List PK:= [.ptr A1Z,.val false (.rs 4 .bool) false]
abbrev B1K:List RK:= [.val false .bool]
def B1L(f:A1h):Nat×Fn:=(269,⟨B1J,B1K,fun x=>f x.1 x.2.1⟩)
def C2y:Fn:=(B1L A4v).2
theorem C2z(f_i_OpenStore:A5O)(f_i_FallDisk:A73):∀ x,(B9 cfg [B7h f_i_OpenStore,C15 f_i_FallDisk] (B3 []) 24 [.tmp 4] (Tryz.f269.body.getD .skip) B1J B1K).fn x=B0q f_i_OpenStore f_i_FallDisk x.1 x.2.1:=by intro x;kernel_rfl
theorem C30:B1 Tryz.prog 269 C2y:=sm MO A7 (tc Tryz.call301 D1F (tc Tryz.call302 D58 A5)) Tryz.func269 (by kernel_rfl) (by decide) (C2z B03 B2H)
def C5t:Nat→Option Jn:=B3 [(122,⟨[.t 23 false [.int .i64],.b 1000 [.own 100000000,.own 100000001,.int .i64,.int .i64,.own 100000002,.own 100000003,.own 100000004,.own 100000005,.own 100000006,.own 100000007,.own 100000008],.r 100000000 9 .str,.r 100000001 9 .str,.r 100000002 109 kUp,.r 100000003 130 A9,.r 100000004 79 B2,.r 100000005 4 .bool,.r 100000006 113 B8,.r 100000007 130 A9,.r 100000008 3 (.int .i64)],lt 24 6 [.r 1006,.r 1007,.r 1010,.r 47104,.r 47105,.r 47108,.r 47109,.r 120832,.r 120833,.r 120836,.r 120837,.r 120838,.r 120839,.r 120840,.r 120841,.r 120842,.t 5],false⟩)]
abbrev B3b:List PK:= [.ptr Z8,.val false (.rs 4 .bool) false]
abbrev B3c:List RK:= [.val false .bool]
def B3d(f:A2d):Nat×Fn:=(205,⟨B3b,B3c,fun x=>f x.1 x.2.1⟩)
def C5u:Fn:=(B3d A6c).2
theorem C5v(f_i_World_rest:T4)(f_i_Server_crash:A1h):∀ x,(B9 cfg [A8U f_i_World_rest,B1L f_i_Server_crash] C5t 30 [.tmp 4] (Tryz.f205.body.getD .skip) B3b B3c).fn x=B3E f_i_World_rest f_i_Server_crash x.1 x.2.1:=by intro x;kernel_rfl
theorem C5w:B1 Tryz.prog 205 C5u:=sm MO A7 (tc Tryz.call268 B5m (tc Tryz.call269 C30 A5)) Tryz.func205 (by kernel_rfl) (by decide) (C5v A19 A4v)
abbrev C16:List PK:= [.ptr Z8,.val true (.pair (.int .i64) (.pair (.int .i64) (.rs 4 .bool))) false]
abbrev C17:List RK:= [.val false .bool]
def B3A(f:V7):Nat×Fn:=(112,⟨C16,C17,fun x=>f x.1 x.2.1⟩)
def D59:Fn:=(B3A E0).2
theorem D5A(f_i_World_send:A3n)(f_i_World_serve:A2b)(f_i_World_sync:A3p)(f_i_World_tell:A3s)(f_i_World_cut:A5N)(f_i_World_crash:A2d):∀ x,(B9 cfg [B5b f_i_World_send,B3X f_i_World_serve,B5g f_i_World_sync,B5j f_i_World_tell,B7e f_i_World_cut,B3d f_i_World_crash] (B3 []) 41 [.tmp 4] (Tryz.f112.body.getD .skip) C16 C17).fn x=A1i f_i_World_send f_i_World_serve f_i_World_sync f_i_World_tell f_i_World_cut f_i_World_crash x.1 x.2.1:=by intro x;kernel_rfl
theorem C18:B1 Tryz.prog 112 D59:=sm MO A7 (tc Tryz.call200 C8s (tc Tryz.call201 C5o (tc Tryz.call202 C8z (tc Tryz.call203 C92 (tc Tryz.call204 D1B (tc Tryz.call205 C5w A5)))))) Tryz.func112 (by kernel_rfl) (by decide) (D5A A16 A0G A17 A18 B02 A6c)
def C5x:Nat→Option Jn:=B3 [(2,⟨[.b 1000 [.own 100000000,.own 100000001,.int .i64,.int .i64,.own 100000002,.own 100000003,.own 100000004,.own 100000005,.own 100000006,.own 100000007,.own 100000008],.r 100000000 9 .str,.r 100000001 9 .str,.r 100000002 109 kUp,.r 100000003 130 A9,.r 100000004 79 B2,.r 100000005 4 .bool,.r 100000006 113 B8,.r 100000007 130 A9,.r 100000008 3 (.int .i64)],lt 4 4 [.r 1000,.r 1001,.r 1004,.r 1005,.r 1006,.r 1007,.r 1008,.r 1009,.r 1010,.r 34816,.r 34817,.r 34820,.r 34821,.r 34822,.r 34823,.r 34824,.r 34825,.r 34826],false⟩)]
abbrev B3e:List PK:= [.ptr Z8,.val false (.int .i64) false]
abbrev B3f:List RK:= []
def B3g(f:A2e):Nat×Fn:=(192,⟨B3e,B3f,fun x=>f x.1 x.2.1⟩)
def C5y:Fn:=(B3g A2f).2
theorem C5z(f_i_World_do:V7):∀ x,(B9 cfg [B3A f_i_World_do] C5x 8 [] (Tryz.f192.body.getD .skip) B3e B3f).fn x=A6d f_i_World_do x.1 x.2.1:=by intro x;kernel_rfl
theorem C60:B1 Tryz.prog 192 C5y:=sm MO A7 (tc Tryz.call112 C18 A5) Tryz.func192 (by kernel_rfl) (by decide) (C5z E0)
def C98:Nat→Option Jn:=B3 [(62,⟨[.t 15 false [.int .i64],.b 1000 [.own 100000000,.own 100000001,.int .i64,.int .i64,.own 100000002,.own 100000003,.own 100000004,.own 100000005,.own 100000006,.own 100000007,.own 100000008],.r 100000000 9 .str,.r 100000001 9 .str,.r 100000002 109 kUp,.r 100000003 130 A9,.r 100000004 79 B2,.r 100000005 4 .bool,.r 100000006 113 B8,.r 100000007 130 A9,.r 100000008 3 (.int .i64)],lt 16 7 [.r 43008,.r 43009,.r 43012,.r 43013,.r 43014,.r 43015,.r 43016,.r 43017,.r 43018,.r 92160,.r 92161,.r 92164,.r 92165,.r 92166,.r 92167,.r 92168,.r 92169,.r 92170,.t 2],false⟩)]
abbrev B5n:List PK:= [.ptr Z8]
abbrev B5o:List RK:= []
def B5p(f:A1A):Nat×Fn:=(108,⟨B5n,B5o,fun x=>f x.1⟩)
def C99:Fn:=(B5p L5).2
theorem C9A(f_i_World_do:V7)(f_i_World_again:A2e):∀ x,(B9 cfg [B3A f_i_World_do,B3g f_i_World_again] C98 23 [] (Tryz.f108.body.getD .skip) B5n B5o).fn x=A7q f_i_World_do f_i_World_again x.1:=by intro x;kernel_rfl
theorem C9B:B1 Tryz.prog 108 C99:=sm MO A7 (tc Tryz.call112 C18 (tc Tryz.call192 C60 A5)) Tryz.func108 (by kernel_rfl) (by decide) (C9A E0 A2f)
def E1L:Nat→Option Jn:=B3 [(7,⟨[],lt 8 8 [],false⟩),(122,⟨[.t 18 false [.int .i64],.b 5 [.own 100001000,.own 100001001,.int .i64,.int .i64,.own 100001002,.own 100001003,.own 100001004,.own 100001005,.own 100001006,.own 100001007,.own 100001008],.r 100001000 9 .str,.r 100001001 9 .str,.r 100001002 109 kUp,.r 100001003 130 A9,.r 100001004 79 B2,.r 100001005 4 .bool,.r 100001006 113 B8,.r 100001007 130 A9,.r 100001008 3 (.int .i64)],lt 19 4 [.r 32768,.r 32769,.r 32772,.r 32773,.r 32774,.r 32775,.r 32776,.r 32777,.r 32778,.r 88064,.r 88065,.r 88068,.r 88069,.r 88070,.r 88071,.r 88072,.r 88073,.r 88074,.r 92160,.r 92161,.r 92164,.r 92165,.r 92166,.r 92167,.r 92168,.r 92169,.r 92170],false⟩)]
abbrev C9C:List PK:= [.val true (.pair (.pair (.pair (.pair (.rs 9 .str) (.rs 9 .str)) (.pair (.int .i64) (.pair (.int .i64) (.rs 109 kUp)))) (.rs 130 A9)) (.pair (.rs 79 B2) (.pair (.rs 4 .bool) (.pair (.rs 113 B8) (.pair (.rs 130 A9) (.rs 3 (.int .i64))))))) false,.val false (.int .i64) false]
abbrev C9D:List RK:= [.val true Z8]
def C9E(f:B2I):Nat×Fn:=(41,⟨C9C,C9D,fun x=>f x.1 x.2.1⟩)
def E1M:Fn:=(C9E B2J).2
theorem E1N(f_i_WorldOk:A8q)(f_i_inRange:C2)(f_i_copyWorld:A5L)(f_i_World_half:A1A):∀ x,(B9 cfg [C41 f_i_WorldOk,G8 f_i_inRange,B7Y f_i_copyWorld,B5p f_i_World_half] E1L 24 [.cell 4 38] (Tryz.f41.body.getD .skip) C9C C9D).fn x=B99 f_i_WorldOk f_i_inRange f_i_copyWorld f_i_World_half x.1 x.2.1:=by intro x;kernel_rfl
theorem E1O:B1 Tryz.prog 41 E1M:=sm MO A7 (tc Tryz.call23 D7h (tc Tryz.call80 H8 (tc Tryz.call107 D15 (tc Tryz.call108 C9B A5)))) Tryz.func41 (by kernel_rfl) (by decide) (E1N A3G C5 A1u L5)
abbrev D3L:List PK:= [.val true (.pair (.pair (.pair (.pair (.rs 9 .str) (.rs 9 .str)) (.pair (.int .i64) (.pair (.int .i64) (.rs 109 kUp)))) (.rs 130 A9)) (.pair (.rs 79 B2) (.pair (.rs 4 .bool) (.pair (.rs 113 B8) (.pair (.rs 130 A9) (.rs 3 (.int .i64))))))) false]
abbrev D3M:List RK:= [.val true Z8]
def D3N(f:B6V):Nat×Fn:=(47,⟨D3L,D3M,fun x=>f x.1⟩)
def E4e:Fn:=(D3N B0r).2
theorem E4f(f_i_Settle:B2I):∀ x,(B9 cfg [C9E f_i_Settle] (B3 []) 5 [.cell 2 38] (Tryz.f47.body.getD .skip) D3L D3M).fn x=C2C f_i_Settle x.1:=by intro x;kernel_rfl
theorem E4g:B1 Tryz.prog 47 E4e:=sm MO A7 (tc Tryz.call41 E1O A5) Tryz.func47 (by kernel_rfl) (by decide) (E4f B2J)
def D1G:Nat→Option Jn:=B3 [(122,⟨[.t 1 false [.int .i64],.t 5 false [.int .i64]],lt 12 15 [],false⟩)]
abbrev B7i:List PK:= [.val false (.rs 9 .str) false,.val false (.int .i64) false]
abbrev B7j:List RK:= [.val false (.int .i64)]
def B7k(f:A5P):Nat×Fn:=(240,⟨B7i,B7j,fun x=>f x.1 x.2.1⟩)
def D1H:Fn:=(B7k A1w).2
theorem D1I:∀ x,(B9 cfg [] D1G 28 [.tmp 4] (Tryz.f240.body.getD .skip) B7i B7j).fn x=B04 x.1 x.2.1:=by intro x;kernel_rfl
theorem D1J:B1 Tryz.prog 240 D1H:=sm MO A7 A5 Tryz.func240 (by kernel_rfl) (by decide) (D1I)
abbrev C9F:List PK:= [.val true (.pair (.rs 9 .str) (.rs 9 .str)) false,.val false (.int .i64) false]
abbrev C9G:List RK:= [.val false (.int .i64)]
def C9H(f:B2K):Nat×Fn:=(175,⟨C9F,C9G,fun x=>f x.1 x.2.1⟩)
def E1P:Fn:=(C9H A7r).2
theorem E1Q(f_w_szStringS:A5P):∀ x,(B9 cfg [B7k f_w_szStringS] (B3 []) 18 [.tmp 4] (Tryz.f175.body.getD .skip) C9F C9G).fn x=B9A f_w_szStringS x.1 x.2.1:=by intro x;kernel_rfl
theorem E1R:B1 Tryz.prog 175 E1P:=sm MO A7 (tc Tryz.call240 D1J A5) Tryz.func175 (by kernel_rfl) (by decide) (E1Q A1w)
abbrev C45:List PK:= [.val false (.rs 5 (.int .u8)) false,.val false (.int .i64) false]
abbrev C46:List RK:= [.val false (.int .i64)]
def A9f(f:Y9):Nat×Fn:=(270,⟨C45,C46,fun x=>f x.1 x.2.1⟩)
def D7m:Fn:=(A9f S3).2
theorem D7n:∀ x,(B9 cfg [] (B3 []) 12 [.tmp 4] (Tryz.f270.body.getD .skip) C45 C46).fn x=B4Z x.1 x.2.1:=by intro x;kernel_rfl
theorem B5q:B1 Tryz.prog 270 D7m:=sm MO A7 A5 Tryz.func270 (by kernel_rfl) (by decide) (D7n)
abbrev D7o:List PK:= [.val true (.pair .str (.pair (.int .i64) (.pair (.rs 5 (.int .u8)) .bool))) false,.val false (.int .i64) false]
abbrev D7p:List RK:= [.val false (.int .i64)]
def D7q(f:B4a):Nat×Fn:=(241,⟨D7o,D7p,fun x=>f x.1 x.2.1⟩)
def E7B:Fn:=(D7q A7s).2
theorem E7C(f_w_szByteS:Y9):∀ x,(B9 cfg [A9f f_w_szByteS] (B3 []) 19 [.tmp 4] (Tryz.f241.body.getD .skip) D7o D7p).fn x=C7P f_w_szByteS x.1 x.2.1:=by intro x;kernel_rfl
theorem E7D:B1 Tryz.prog 241 E7B:=sm MO A7 (tc Tryz.call270 B5q A5) Tryz.func241 (by kernel_rfl) (by decide) (E7C S3)
def E4h:Nat→Option Jn:=B3 [(122,⟨[.t 1 false [.int .i64],.t 5 false [.int .i64]],lt 12 14 [],false⟩)]
abbrev D3O:List PK:= [.val false (.rs 248 kUp) false,.val false (.int .i64) false]
abbrev D3P:List RK:= [.val false (.int .i64)]
def D3Q(f:B6W):Nat×Fn:=(176,⟨D3O,D3P,fun x=>f x.1 x.2.1⟩)
def E4i:Fn:=(D3Q B0s).2
theorem E4j(f_w_szUp:B4a):∀ x,(B9 cfg [D7q f_w_szUp] E4h 27 [.tmp 4] (Tryz.f176.body.getD .skip) D3O D3P).fn x=C2D f_w_szUp x.1 x.2.1:=by intro x;kernel_rfl
theorem E4k:B1 Tryz.prog 176 E4i:=sm MO A7 (tc Tryz.call241 E7D A5) Tryz.func176 (by kernel_rfl) (by decide) (E4j A7s)
abbrev C47:List PK:= [.val true (.pair (.pair (.rs 9 .str) (.rs 9 .str)) (.pair (.int .i64) (.pair (.int .i64) (.rs 248 kUp)))) false,.val false (.int .i64) false]
abbrev C48:List RK:= [.val false (.int .i64)]
def C49(f:A8t):Nat×Fn:=(96,⟨C47,C48,fun x=>f x.1 x.2.1⟩)
def D7r:Fn:=(C49 A61).2
theorem D7s(f_w_szDisk:B2K)(f_w_szUpS:B6W):∀ x,(B9 cfg [C9H f_w_szDisk,D3Q f_w_szUpS] (B3 []) 18 [.tmp 4] (Tryz.f96.body.getD .skip) C47 C48).fn x=B4b f_w_szDisk f_w_szUpS x.1 x.2.1:=by intro x;kernel_rfl
theorem D7t:B1 Tryz.prog 96 D7r:=sm MO A7 (tc Tryz.call175 E1R (tc Tryz.call176 E4k A5)) Tryz.func96 (by kernel_rfl) (by decide) (D7s A7r B0s)
abbrev C4A:List PK:= [.val false (.rs 203 A9) false,.val false (.int .i64) false]
abbrev C4B:List RK:= [.val false (.int .i64)]
def B5r(f:A3H):Nat×Fn:=(97,⟨C4A,C4B,fun x=>f x.1 x.2.1⟩)
def D7u:Fn:=(B5r A1B).2
theorem D7v:∀ x,(B9 cfg [] (B3 []) 12 [.tmp 4] (Tryz.f97.body.getD .skip) C4A C4B).fn x=B4c x.1 x.2.1:=by intro x;kernel_rfl
theorem C4C:B1 Tryz.prog 97 D7u:=sm MO A7 A5 Tryz.func97 (by kernel_rfl) (by decide) (D7v)
abbrev C19:List PK:= [.val true (.pair (.pair (.pair (.rs 9 .str) (.rs 9 .str)) (.pair (.int .i64) (.pair (.int .i64) (.rs 248 kUp)))) (.rs 203 A9)) false,.val false (.int .i64) false]
abbrev C1A:List RK:= [.val false (.int .i64)]
def C1B(f:A74):Nat×Fn:=(30,⟨C19,C1A,fun x=>f x.1 x.2.1⟩)
def D5B:Fn:=(C1B A3t).2
theorem D5C(f_w_szStore:A8t)(f_w_szHeldS:A3H):∀ x,(B9 cfg [C49 f_w_szStore,B5r f_w_szHeldS] (B3 []) 18 [.tmp 4] (Tryz.f30.body.getD .skip) C19 C1A).fn x=B2L f_w_szStore f_w_szHeldS x.1 x.2.1:=by intro x;kernel_rfl
theorem D5D:B1 Tryz.prog 30 D5B:=sm MO A7 (tc Tryz.call96 D7t (tc Tryz.call97 C4C A5)) Tryz.func30 (by kernel_rfl) (by decide) (D5C A61 A1B)
abbrev C1C:List PK:= [.val true (.pair .str (.pair (.rs 5 (.int .u8)) E8)) false,.val false (.int .i64) false]
abbrev C1D:List RK:= [.val false (.int .i64)]
def C1E(f:A3u):Nat×Fn:=(207,⟨C1C,C1D,fun x=>f x.1 x.2.1⟩)
def D5E:Fn:=(C1E A07).2
theorem D5F(f_w_szByteS:Y9):∀ x,(B9 cfg [A9f f_w_szByteS] (B3 []) 19 [.tmp 4] (Tryz.f207.body.getD .skip) C1C C1D).fn x=B2M f_w_szByteS x.1 x.2.1:=by intro x;kernel_rfl
theorem D5G:B1 Tryz.prog 207 D5E:=sm MO A7 (tc Tryz.call270 B5q A5) Tryz.func207 (by kernel_rfl) (by decide) (D5F S3)
def D1K:Nat→Option Jn:=B3 [(122,⟨[.t 1 false [.int .i64],.t 5 false [.int .i64]],lt 12 14 [],false⟩)]
abbrev B7l:List PK:= [.val false (.rs 218 B2) false,.val false (.int .i64) false]
abbrev B7m:List RK:= [.val false (.int .i64)]
def B7n(f:A5Q):Nat×Fn:=(116,⟨B7l,B7m,fun x=>f x.1 x.2.1⟩)
def D1L:Fn:=(B7n A1x).2
theorem D1M(f_w_szClient:A3u):∀ x,(B9 cfg [C1E f_w_szClient] D1K 27 [.tmp 4] (Tryz.f116.body.getD .skip) B7l B7m).fn x=B05 f_w_szClient x.1 x.2.1:=by intro x;kernel_rfl
theorem D1N:B1 Tryz.prog 116 D1L:=sm MO A7 (tc Tryz.call207 D5G A5) Tryz.func116 (by kernel_rfl) (by decide) (D1M A07)
abbrev C4D:List PK:= [.val false (.rs 4 .bool) false,.val false (.int .i64) false]
abbrev C4E:List RK:= [.val false (.int .i64)]
def C4F(f:A8u):Nat×Fn:=(117,⟨C4D,C4E,fun x=>f x.1 x.2.1⟩)
def D7w:Fn:=(C4F A62).2
theorem D7x:∀ x,(B9 cfg [] (B3 []) 12 [.tmp 4] (Tryz.f117.body.getD .skip) C4D C4E).fn x=B4d x.1 x.2.1:=by intro x;kernel_rfl
theorem D7y:B1 Tryz.prog 117 D7w:=sm MO A7 A5 Tryz.func117 (by kernel_rfl) (by decide) (D7x)
abbrev D3R:List PK:= [.val true N3 false,.val false (.int .i64) false]
abbrev D3S:List RK:= [.val false (.int .i64)]
def D3T(f:B6X):Nat×Fn:=(31,⟨D3R,D3S,fun x=>f x.1 x.2.1⟩)
def E4l:Fn:=(D3T B0t).2
theorem E4m:∀ x,(B9 cfg [] (B3 []) 13 [.tmp 4] (Tryz.f31.body.getD .skip) D3R D3S).fn x=C2E x.1 x.2.1:=by intro x;kernel_rfl
theorem E4n:B1 Tryz.prog 31 E4l:=sm MO A7 A5 Tryz.func31 (by kernel_rfl) (by decide) (E4m)
abbrev C9I:List PK:= [.val true (.pair (.int .i64) (.pair N3 (.rs 5 (.int .u8)))) false,.val false (.int .i64) false]
abbrev C9J:List RK:= [.val false (.int .i64)]
def C9K(f:A7t):Nat×Fn:=(208,⟨C9I,C9J,fun x=>f x.1 x.2.1⟩)
def E1S:Fn:=(C9K A33).2
theorem E1T(f_w_szReq:B6X)(f_w_szByteS:Y9):∀ x,(B9 cfg [D3T f_w_szReq,A9f f_w_szByteS] (B3 []) 18 [.tmp 4] (Tryz.f208.body.getD .skip) C9I C9J).fn x=B9B f_w_szReq f_w_szByteS x.1 x.2.1:=by intro x;kernel_rfl
theorem E1U:B1 Tryz.prog 208 E1S:=sm MO A7 (tc Tryz.call31 E4n (tc Tryz.call270 B5q A5)) Tryz.func208 (by kernel_rfl) (by decide) (E1T B0t S3)
def D7z:Nat→Option Jn:=B3 [(122,⟨[.t 1 false [.int .i64],.t 5 false [.int .i64]],lt 12 14 [],false⟩)]
abbrev C4G:List PK:= [.val false (.rs 221 B8) false,.val false (.int .i64) false]
abbrev C4H:List RK:= [.val false (.int .i64)]
def C4I(f:A8v):Nat×Fn:=(118,⟨C4G,C4H,fun x=>f x.1 x.2.1⟩)
def D80:Fn:=(C4I A63).2
theorem D81(f_w_szWant:A7t):∀ x,(B9 cfg [C9K f_w_szWant] D7z 27 [.tmp 4] (Tryz.f118.body.getD .skip) C4G C4H).fn x=B4e f_w_szWant x.1 x.2.1:=by intro x;kernel_rfl
theorem D82:B1 Tryz.prog 118 D80:=sm MO A7 (tc Tryz.call208 E1U A5) Tryz.func118 (by kernel_rfl) (by decide) (D81 A33)
abbrev C9L:List PK:= [.val false (.rs 3 (.int .i64)) false,.val false (.int .i64) false]
abbrev C9M:List RK:= [.val false (.int .i64)]
def C9N(f:B2N):Nat×Fn:=(119,⟨C9L,C9M,fun x=>f x.1 x.2.1⟩)
def E1V:Fn:=(C9N A7u).2
theorem E1W:∀ x,(B9 cfg [] (B3 []) 12 [.tmp 4] (Tryz.f119.body.getD .skip) C9L C9M).fn x=B9C x.1 x.2.1:=by intro x;kernel_rfl
theorem E1X:B1 Tryz.prog 119 E1V:=sm MO A7 A5 Tryz.func119 (by kernel_rfl) (by decide) (E1W)
abbrev C4J:List PK:= [.val true (.pair (.pair (.pair (.pair (.rs 9 .str) (.rs 9 .str)) (.pair (.int .i64) (.pair (.int .i64) (.rs 248 kUp)))) (.rs 203 A9)) (.pair (.rs 218 B2) (.pair (.rs 4 .bool) (.pair (.rs 221 B8) (.pair (.rs 203 A9) (.rs 3 (.int .i64))))))) false,.val false (.int .i64) false]
abbrev C4K:List RK:= [.val false (.int .i64)]
def C4L(f:A8w):Nat×Fn:=(51,⟨C4J,C4K,fun x=>f x.1 x.2.1⟩)
def D83:Fn:=(C4L A64).2
theorem D84(f_w_szServer:A74)(f_w_szHeldS:A3H)(f_w_szClientS:A5Q)(f_w_szBoolS:A8u)(f_w_szWantS:A8v)(f_w_szIntS:B2N):∀ x,(B9 cfg [C1B f_w_szServer,B5r f_w_szHeldS,B7n f_w_szClientS,C4F f_w_szBoolS,C4I f_w_szWantS,C9N f_w_szIntS] (B3 []) 42 [.tmp 4] (Tryz.f51.body.getD .skip) C4J C4K).fn x=B4f f_w_szServer f_w_szHeldS f_w_szClientS f_w_szBoolS f_w_szWantS f_w_szIntS x.1 x.2.1:=by intro x;kernel_rfl
theorem D85:B1 Tryz.prog 51 D83:=sm MO A7 (tc Tryz.call30 D5D (tc Tryz.call97 C4C (tc Tryz.call116 D1N (tc Tryz.call117 D7y (tc Tryz.call118 D82 (tc Tryz.call119 E1X A5)))))) Tryz.func51 (by kernel_rfl) (by decide) (D84 A3t A1B A1x A62 A63 A7u)
def D1O:Nat→Option Jn:=B3 [(58,⟨[.t 3 false [.own 7],.t 4 false [.int .i64],.r 7 9 .str],lt 8 13 [.x 20],false⟩)]
abbrev B7o:List PK:= [.val false (.rs 9 .str) false]
abbrev B7p:List RK:= [.val false (.sl 9 .str)]
def B7q(f:A5S):Nat×Fn:=(242,⟨B7o,B7p,fun x=>f x.1⟩)
def D1P:Fn:=(B7q A1y).2
theorem D1Q:∀ x,(B9 cfg [] D1O 22 [.tmp 2] (Tryz.f242.body.getD .skip) B7o B7p).fn x=B06 x.1:=by intro x;kernel_rfl
theorem D1R:B1 Tryz.prog 242 D1P:=sm MO A7 A5 Tryz.func242 (by kernel_rfl) (by decide) (D1Q)
abbrev C9O:List PK:= [.val true (.pair (.rs 9 .str) (.rs 9 .str)) false]
abbrev C9P:List RK:= [.val true A0x]
def C9Q(f:B2O):Nat×Fn:=(177,⟨C9O,C9P,fun x=>f x.1⟩)
def E1Y:Fn:=(C9Q A7v).2
theorem E1Z(f_w_toStringS:A5S):∀ x,(B9 cfg [B7q f_w_toStringS] (B3 []) 13 [.cell 2 26] (Tryz.f177.body.getD .skip) C9O C9P).fn x=B9D f_w_toStringS x.1:=by intro x;kernel_rfl
theorem E1a:B1 Tryz.prog 177 E1Y:=sm MO A7 (tc Tryz.call242 D1R A5) Tryz.func177 (by kernel_rfl) (by decide) (E1Z A1y)
def D86:Nat→Option Jn:=B3 [(58,⟨[.t 3 false [.own 7],.t 4 false [.int .i64],.r 7 5 (.int .u8)],lt 8 13 [.x 20],false⟩)]
abbrev C4M:List PK:= [.val false (.rs 5 (.int .u8)) false]
abbrev C4N:List RK:= [.val false (.sl 5 (.int .u8))]
def A9g(f:Z0):Nat×Fn:=(34,⟨C4M,C4N,fun x=>f x.1⟩)
def D87:Fn:=(A9g S4).2
theorem D88:∀ x,(B9 cfg [] D86 22 [.tmp 2] (Tryz.f34.body.getD .skip) C4M C4N).fn x=B4g x.1:=by intro x;kernel_rfl
theorem B5s:B1 Tryz.prog 34 D87:=sm MO A7 A5 Tryz.func34 (by kernel_rfl) (by decide) (D88)
abbrev D89:List PK:= [.val true (.pair .str (.pair (.int .i64) (.pair (.rs 5 (.int .u8)) .bool))) false]
abbrev D8A:List RK:= [.val true kUp]
def D8B(f:B4h):Nat×Fn:=(243,⟨D89,D8A,fun x=>f x.1⟩)
def E7E:Fn:=(D8B B4i).2
theorem E7F(f_w_toByteS:Z0):∀ x,(B9 cfg [A9g f_w_toByteS] (B3 []) 18 [.cell 2 109] (Tryz.f243.body.getD .skip) D89 D8A).fn x=C7Q f_w_toByteS x.1:=by intro x;kernel_rfl
theorem E7G:B1 Tryz.prog 243 E7E:=sm MO A7 (tc Tryz.call34 B5s A5) Tryz.func243 (by kernel_rfl) (by decide) (E7F S4)
def E4o:Nat→Option Jn:=B3 [(58,⟨[.t 3 false [.own 7],.t 4 false [.int .i64],.r 7 109 kUp],lt 8 14 [.r 86018,.x 21],false⟩)]
abbrev D3U:List PK:= [.val false (.rs 248 kUp) false]
abbrev D3V:List RK:= [.val false (.sl 109 kUp)]
def D3W(f:B6Y):Nat×Fn:=(178,⟨D3U,D3V,fun x=>f x.1⟩)
def E4p:Fn:=(D3W B0u).2
theorem E4q(f_w_toUp:B4h):∀ x,(B9 cfg [D8B f_w_toUp] E4o 23 [.tmp 2] (Tryz.f178.body.getD .skip) D3U D3V).fn x=C2F f_w_toUp x.1:=by intro x;kernel_rfl
theorem E4r:B1 Tryz.prog 178 E4p:=sm MO A7 (tc Tryz.call243 E7G A5) Tryz.func178 (by kernel_rfl) (by decide) (E4q B4i)
abbrev C4O:List PK:= [.val true (.pair (.pair (.rs 9 .str) (.rs 9 .str)) (.pair (.int .i64) (.pair (.int .i64) (.rs 248 kUp)))) false]
abbrev C4P:List RK:= [.val true A3g]
def C4Q(f:A8x):Nat×Fn:=(98,⟨C4O,C4P,fun x=>f x.1⟩)
def D8C:Fn:=(C4Q A65).2
theorem D8D(f_w_toDisk:B2O)(f_w_toUpS:B6Y):∀ x,(B9 cfg [C9Q f_w_toDisk,D3W f_w_toUpS] (B3 []) 19 [.cell 2 29] (Tryz.f98.body.getD .skip) C4O C4P).fn x=B4k f_w_toDisk f_w_toUpS x.1:=by intro x;kernel_rfl
theorem D8E:B1 Tryz.prog 98 D8C:=sm MO A7 (tc Tryz.call177 E1a (tc Tryz.call178 E4r A5)) Tryz.func98 (by kernel_rfl) (by decide) (D8D A7v B0u)
abbrev C9R:List PK:= [.val true E8 false]
abbrev C9S:List RK:= [.val true E8]
def C9T(f:B2P):Nat×Fn:=(244,⟨C9R,C9S,fun x=>f x.1⟩)
def E1b:Fn:=(C9T A7w).2
theorem E1c:∀ x,(B9 cfg [] (B3 []) 11 [.cell 2 126] (Tryz.f244.body.getD .skip) C9R C9S).fn x=B9E x.1:=by intro x;kernel_rfl
theorem E1d:B1 Tryz.prog 244 E1b:=sm MO A7 A5 Tryz.func244 (by kernel_rfl) (by decide) (E1c)
abbrev C9U:List PK:= [.val true A9 false]
abbrev C9V:List RK:= [.val true A9]
def C9W(f:A7x):Nat×Fn:=(179,⟨C9U,C9V,fun x=>f x.1⟩)
def E1e:Fn:=(C9W A7y).2
theorem E1f(f_w_toResp:B2P):∀ x,(B9 cfg [C9T f_w_toResp] (B3 []) 12 [.cell 2 130] (Tryz.f179.body.getD .skip) C9U C9V).fn x=B9F f_w_toResp x.1:=by intro x;kernel_rfl
theorem E1g:B1 Tryz.prog 179 E1e:=sm MO A7 (tc Tryz.call244 E1d A5) Tryz.func179 (by kernel_rfl) (by decide) (E1f A7w)
def D8F:Nat→Option Jn:=B3 [(58,⟨[.t 3 false [.own 7],.t 4 false [.int .i64],.r 7 130 A9],lt 8 14 [.x 21],false⟩)]
abbrev C4R:List PK:= [.val false (.rs 203 A9) false]
abbrev C4S:List RK:= [.val false (.sl 130 A9)]
def B5t(f:A3I):Nat×Fn:=(99,⟨C4R,C4S,fun x=>f x.1⟩)
def D8G:Fn:=(B5t A1C).2
theorem D8H(f_w_toHeld:A7x):∀ x,(B9 cfg [C9W f_w_toHeld] D8F 23 [.tmp 2] (Tryz.f99.body.getD .skip) C4R C4S).fn x=B4l f_w_toHeld x.1:=by intro x;kernel_rfl
theorem C4T:B1 Tryz.prog 99 D8G:=sm MO A7 (tc Tryz.call179 E1g A5) Tryz.func99 (by kernel_rfl) (by decide) (D8H A7y)
abbrev C1F:List PK:= [.val true (.pair (.pair (.pair (.rs 9 .str) (.rs 9 .str)) (.pair (.int .i64) (.pair (.int .i64) (.rs 248 kUp)))) (.rs 203 A9)) false]
abbrev C1G:List RK:= [.val true A1Z]
def C1H(f:A75):Nat×Fn:=(32,⟨C1F,C1G,fun x=>f x.1⟩)
def D5H:Fn:=(C1H A3v).2
theorem D5I(f_w_toStore:A8x)(f_w_toHeldS:A3I):∀ x,(B9 cfg [C4Q f_w_toStore,B5t f_w_toHeldS] (B3 []) 13 [.cell 2 32] (Tryz.f32.body.getD .skip) C1F C1G).fn x=B2Q f_w_toStore f_w_toHeldS x.1:=by intro x;kernel_rfl
theorem D5J:B1 Tryz.prog 32 D5H:=sm MO A7 (tc Tryz.call98 D8E (tc Tryz.call99 C4T A5)) Tryz.func32 (by kernel_rfl) (by decide) (D5I A65 A1C)
abbrev C1I:List PK:= [.val true (.pair .str (.pair (.rs 5 (.int .u8)) E8)) false]
abbrev C1J:List RK:= [.val true B2]
def C1K(f:A3w):Nat×Fn:=(209,⟨C1I,C1J,fun x=>f x.1⟩)
def D5K:Fn:=(C1K A3x).2
theorem D5L(f_w_toByteS:Z0):∀ x,(B9 cfg [A9g f_w_toByteS] (B3 []) 18 [.cell 2 79] (Tryz.f209.body.getD .skip) C1I C1J).fn x=B2R f_w_toByteS x.1:=by intro x;kernel_rfl
theorem D5M:B1 Tryz.prog 209 D5K:=sm MO A7 (tc Tryz.call34 B5s A5) Tryz.func209 (by kernel_rfl) (by decide) (D5L S4)
def D1S:Nat→Option Jn:=B3 [(58,⟨[.t 3 false [.own 7],.t 4 false [.int .i64],.r 7 79 B2],lt 8 14 [.r 86017,.x 21],false⟩)]
abbrev B7r:List PK:= [.val false (.rs 218 B2) false]
abbrev B7s:List RK:= [.val false (.sl 79 B2)]
def B7t(f:A5U):Nat×Fn:=(122,⟨B7r,B7s,fun x=>f x.1⟩)
def D1T:Fn:=(B7t A1z).2
theorem D1U(f_w_toClient:A3w):∀ x,(B9 cfg [C1K f_w_toClient] D1S 23 [.tmp 2] (Tryz.f122.body.getD .skip) B7r B7s).fn x=B08 f_w_toClient x.1:=by intro x;kernel_rfl
theorem D1V:B1 Tryz.prog 122 D1T:=sm MO A7 (tc Tryz.call209 D5M A5) Tryz.func122 (by kernel_rfl) (by decide) (D1U A3x)
def D8I:Nat→Option Jn:=B3 [(58,⟨[.t 3 false [.own 7],.t 4 false [.int .i64],.r 7 4 .bool],lt 8 13 [.x 20],false⟩)]
abbrev C4U:List PK:= [.val false (.rs 4 .bool) false]
abbrev C4V:List RK:= [.val false (.sl 4 .bool)]
def C4W(f:A8y):Nat×Fn:=(123,⟨C4U,C4V,fun x=>f x.1⟩)
def D8J:Fn:=(C4W A66).2
theorem D8K:∀ x,(B9 cfg [] D8I 22 [.tmp 2] (Tryz.f123.body.getD .skip) C4U C4V).fn x=B4m x.1:=by intro x;kernel_rfl
theorem D8L:B1 Tryz.prog 123 D8J:=sm MO A7 A5 Tryz.func123 (by kernel_rfl) (by decide) (D8K)
end
end Go.Proofs.YtpdcljonclhhpaaGreat.Ev
