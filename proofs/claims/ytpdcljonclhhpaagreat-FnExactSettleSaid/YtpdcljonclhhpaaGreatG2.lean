/- Each function of the program does what its plain function says. -/
import Derived.Test.YtpdcljonclhhpaaGreatG1
import Derived.Test.YtpdcljonclhhpaaGreatFind
set_option linter.unusedVariables false
set_option maxRecDepth 100000
namespace Go.Proofs.YtpdcljonclhhpaaGreat.Ev
noncomputable section
def C2m:Nat→Option Jn:=B3 [(3,⟨[],lt 9 8 [],false⟩)]
abbrev B19:List PK:= [.ptr A3j,.val false .str false,.val false (.int .i64) false]
abbrev B1A:List RK:= [.val false (.int .i64)]
def B1B(f:A1f):Nat×Fn:=(222,⟨B19,B1A,fun x=>f x.1 x.2.1 x.2.2.1⟩)
def C2n:Fn:=(B1B Y0).2
theorem C2o(f_i_inRange:C3)(f_i_idOk:R7)(f_i_Store_left:L5)(f_i_Store_write_r97_0:F0)(f_i_Store_find:H0):∀ x,(B9 (cfg.withPk 276 ⟨kUp,4,f_i_Store_find⟩) [G8 f_i_inRange,A6S f_i_idOk,A1S f_i_Store_left,P6 f_i_Store_write_r97_0] C2m 39 [.tmp 6] (Tryz.f222.body.getD .skip) B19 B1A).fn x=A4w f_i_inRange f_i_idOk f_i_Store_left f_i_Store_write_r97_0 f_i_Store_find x.1 x.2.1 x.2.2.1:=by intro x;kernel_rfl
theorem C2p:B1 Tryz.prog 222 C2n:=sm MO (A7N A7 (fun args w=>Tryz.call276 args w) Z0) (tc Tryz.call80 H9 (tc Tryz.call147 A8O (tc Tryz.call277 A4V (tc Tryz.call278 U5 A5)))) Tryz.func222 (by kernel_rfl) (by decide) (C2o C5 Q5 K1 C8 G0)
def C5f:Nat→Option Jn:=B3 [(3,⟨[],lt 12 9 [],false⟩),(15,⟨[.b 1000 [.own 215040,.own 215041,.int .i64,.int .i64,.own 215044],.r 215040 9 .str,.r 215041 9 .str,.r 215044 109 kUp],lt 27 31 [.r 1000,.r 1001,.r 1004],false⟩),(243,⟨[.t 30 false [.bool]],lt 31 18 [],true⟩),(250,⟨[.b 6 [.int .i64],.b 1000 [.own 100003000,.own 100003001,.int .i64,.int .i64,.own 100003002],.r 100003000 9 .str,.r 100003001 9 .str,.r 100003002 109 kUp],lt 60 10 [.r 215040,.r 215041,.r 215044,.r 272384,.r 272385,.r 272388,.t 11],false⟩)]
abbrev B3S:List PK:= [.ptr A3j,.val false .str false,.val false (.int .i64) false,.val false (.rs 5 (.int .u8)) false]
abbrev B3T:List RK:= [.val false (.int .i64)]
def B3U(f:A2d):Nat×Fn:=(223,⟨B3S,B3T,fun x=>f x.1 x.2.1 x.2.2.1 x.2.2.2.1⟩)
def C5g:Fn:=(B3U A0F).2
theorem C5h(f_i_inRange:C3)(f_i_idOk:R7)(f_i_Store_left:L5)(f_i_Store_write_r97_0:F0)(f_i_Store_find:H0):∀ x,(B9 (((cfg.withPk 276 ⟨kUp,4,f_i_Store_find⟩).withCk 279 304).withPt [244]) [G8 f_i_inRange,A6S f_i_idOk,A1S f_i_Store_left,P6 f_i_Store_write_r97_0] C5f 70 [.tmp 8] (Tryz.f223.body.getD .skip) B3S B3T).fn x=A6Z f_i_inRange f_i_idOk f_i_Store_left f_i_Store_write_r97_0 f_i_Store_find x.1 x.2.1 x.2.2.1 x.2.2.2.1:=by intro x;kernel_rfl
theorem C5i:B1 Tryz.prog 223 C5g:=sm MO (E3q (l:= [244]) (E3p (A7N A7 (fun args w=>Tryz.call276 args w) Z0) (fun args w=>Tryz.call279 args w) E8P) ⟨⟨_,Tryz.underlying244,rfl⟩,trivial⟩) (tc Tryz.call80 H9 (tc Tryz.call147 A8O (tc Tryz.call277 A4V (tc Tryz.call278 U5 A5)))) Tryz.func223 (by kernel_rfl) (by decide) (C5h C5 Q5 K1 C8 G0)
abbrev B3V:List PK:= [.ptr A1c,.val false (.int .i64) false,.val false .str false]
abbrev B3W:List RK:= [.val true E8]
def A32(f:O7):Nat×Fn:=(224,⟨B3V,B3W,fun x=>f x.1 x.2.1 x.2.2.1⟩)
def C5j:Fn:=(A32 M0).2
theorem C5k(f_i_Store_find:H0):∀ x,(B9 (cfg.withPk 276 ⟨kUp,4,f_i_Store_find⟩) [] (B3 []) 22 [.cell 6 126] (Tryz.f224.body.getD .skip) B3V B3W).fn x=A6a f_i_Store_find x.1 x.2.1 x.2.2.1:=by intro x;kernel_rfl
theorem A6s:B1 Tryz.prog 224 C5j:=sm MO (A7N A7 (fun args w=>Tryz.call276 args w) Z0) A5 Tryz.func224 (by kernel_rfl) (by decide) (C5k G0)
def C2q:Nat→Option Jn:=B3 [(15,⟨[.b 7 [.str,.int .i64,.any,.bool],.b 1000 [.own 100000000,.own 100000001,.int .i64,.int .i64,.own 100000002],.r 100000000 9 .str,.r 100000001 9 .str,.r 100000002 109 kUp],lt 18 25 [.r 1000,.r 1001,.r 1004,.r 169984,.r 169985,.r 169988],false⟩)]
abbrev B1C:List PK:= [.ptr A3j,.val false .str false,.val false (.int .i64) false]
abbrev B1D:List RK:= [.val false (.int .i64)]
def B1E(f:A1g):Nat×Fn:=(225,⟨B1C,B1D,fun x=>f x.1 x.2.1 x.2.2.1⟩)
def C2r:Fn:=(B1E Y1).2
theorem C2s(f_i_idOk:R7)(f_i_Store_left:L5)(f_i_Store_write_r97_0:F0)(f_i_Crc:A8q)(f_i_Store_find:H0):∀ x,(B9 (cfg.withPk 276 ⟨kUp,4,f_i_Store_find⟩) [A6S f_i_idOk,A1S f_i_Store_left,P6 f_i_Store_write_r97_0,C6h f_i_Crc] C2q 49 [.tmp 6] (Tryz.f225.body.getD .skip) B1C B1D).fn x=A4x f_i_idOk f_i_Store_left f_i_Store_write_r97_0 f_i_Crc f_i_Store_find x.1 x.2.1 x.2.2.1:=by intro x;kernel_rfl
theorem C2t:B1 Tryz.prog 225 C2r:=sm MO (A7N A7 (fun args w=>Tryz.call276 args w) Z0) (tc Tryz.call147 A8O (tc Tryz.call277 A4V (tc Tryz.call278 U5 (tc Tryz.call280 D4i A5)))) Tryz.func225 (by kernel_rfl) (by decide) (C2s Q5 K1 C8 A70 G0)
abbrev B1F:List PK:= [.ptr A3j,.val false .str false]
abbrev B1G:List RK:= [.val false (.int .i64)]
def B1H(f:A1h):Nat×Fn:=(226,⟨B1F,B1G,fun x=>f x.1 x.2.1⟩)
def C2u:Fn:=(B1H Y2).2
theorem C2v(f_i_idOk:R7)(f_i_Store_left:L5)(f_i_Store_write_r97_0:F0)(f_i_Store_find:H0):∀ x,(B9 (cfg.withPk 276 ⟨kUp,4,f_i_Store_find⟩) [A6S f_i_idOk,A1S f_i_Store_left,P6 f_i_Store_write_r97_0] (B3 []) 24 [.tmp 4] (Tryz.f226.body.getD .skip) B1F B1G).fn x=A4y f_i_idOk f_i_Store_left f_i_Store_write_r97_0 f_i_Store_find x.1 x.2.1:=by intro x;kernel_rfl
theorem C2w:B1 Tryz.prog 226 C2u:=sm MO (A7N A7 (fun args w=>Tryz.call276 args w) Z0) (tc Tryz.call147 A8O (tc Tryz.call277 A4V (tc Tryz.call278 U5 A5))) Tryz.func226 (by kernel_rfl) (by decide) (C2v Q5 K1 C8 G0)
def C5l:Nat→Option Jn:=B3 [(115,⟨[.t 20 false [.bool]],lt 21 8 [],true⟩)]
abbrev B3X:List PK:= [.ptr A1c,.val true M7 false]
abbrev B3Y:List RK:= [.val true E8]
def B3Z(f:A2e):Nat×Fn:=(227,⟨B3X,B3Y,fun x=>f x.1 x.2.1⟩)
def C5m:Fn:=(B3Z A0G).2
theorem C5n(f_i_Server_told:O7)(f_i_Store_find:H0):∀ x,(B9 (cfg.withPk 276 ⟨kUp,4,f_i_Store_find⟩) [A32 f_i_Server_told] C5l 37 [.cell 4 126] (Tryz.f227.body.getD .skip) B3X B3Y).fn x=A6b f_i_Server_told f_i_Store_find x.1 x.2.1:=by intro x;kernel_rfl
theorem C5o:B1 Tryz.prog 227 C5m:=sm MO (A7N A7 (fun args w=>Tryz.call276 args w) Z0) (tc Tryz.call224 A6s A5) Tryz.func227 (by kernel_rfl) (by decide) (C5n M0 G0)
def B9g:Nat→Option Jn:=B3 [(107,⟨[.t 11 false [.bool]],[.t 12,.t 13],true⟩)]
abbrev A8Q:List PK:= [.ptr A1c,.val false (.int .i64) false,.val false .str false]
abbrev A8R:List RK:= [.val true E8]
def A8S(f:A05):Nat×Fn:=(228,⟨A8Q,A8R,fun x=>f x.1 x.2.1 x.2.2.1⟩)
def B9h:Fn:=(A8S I0).2
theorem B9i(f_i_Server_told:O7):∀ x,(B9 cfg [A32 f_i_Server_told] B9g 24 [.cell 6 126] (Tryz.f228.body.getD .skip) A8Q A8R).fn x=A34 f_i_Server_told x.1 x.2.1 x.2.2.1:=by intro x;kernel_rfl
theorem B9j:B1 Tryz.prog 228 B9h:=sm MO A7 (tc Tryz.call224 A6s A5) Tryz.func228 (by kernel_rfl) (by decide) (B9i M0)
def C0q:Nat→Option Jn:=B3 [(15,⟨[.t 7 false [.int .i64],.b 8 [.int .i64,.int .i64],.b 1000 [.own 100000000,.own 100000001,.int .i64,.int .i64,.own 100000002,.own 100000003],.r 100000000 9 .str,.r 100000001 9 .str,.r 100000002 109 kUp,.r 100000003 130 A9],lt 15 46 [.r 1000,.r 1001,.r 1004,.r 1005,.r 104448,.r 104449,.r 104452,.r 153600,.r 153601,.r 153604,.r 169984,.r 169985,.r 169988,.r 169989,.r 210944,.r 210945,.r 210948,.r 247808,.r 247809,.r 247812,.t 10,.t 11],false⟩)]
abbrev A9c:List PK:= [.ptr A1c,.val true M7 false,.val false (.rs 5 (.int .u8)) false]
abbrev A9d:List RK:= [.val true E8]
def A9e(f:A0e):Nat×Fn:=(156,⟨A9c,A9d,fun x=>f x.1 x.2.1 x.2.2.1⟩)
def C0r:Fn:=(A9e V7).2
theorem C0s(f_i_Store_makeUp:A1f)(f_i_Store_putUp:A2d)(f_i_Server_told:O7)(f_i_Store_doneUp:A1g)(f_i_Store_dropUp:A1h)(f_i_Server_look:A2e)(f_i_Server_refused:A05):∀ x,(B9 cfg [B1B f_i_Store_makeUp,B3U f_i_Store_putUp,A32 f_i_Server_told,B1E f_i_Store_doneUp,B1H f_i_Store_dropUp,B3Z f_i_Server_look,A8S f_i_Server_refused] C0q 69 [.cell 6 126] (Tryz.f156.body.getD .skip) A9c A9d).fn x=A3r f_i_Store_makeUp f_i_Store_putUp f_i_Server_told f_i_Store_doneUp f_i_Store_dropUp f_i_Server_look f_i_Server_refused x.1 x.2.1 x.2.2.1:=by intro x;kernel_rfl
theorem C0t:B1 Tryz.prog 156 C0r:=sm MO A7 (tc Tryz.call222 C2p (tc Tryz.call223 C5i (tc Tryz.call224 A6s (tc Tryz.call225 C2t (tc Tryz.call226 C2w (tc Tryz.call227 C5o (tc Tryz.call228 B9j A5))))))) Tryz.func156 (by kernel_rfl) (by decide) (C0s Y0 A0F M0 Y1 Y2 A0G I0)
def C2x:Nat→Option Jn:=B3 [(3,⟨[],lt 10 11 [],false⟩)]
abbrev B1I:List PK:= [.ptr A1c,.val false (.int .i64) false,.val true M7 false,.val false (.rs 5 (.int .u8)) false]
abbrev B1J:List RK:= [.val false .bool]
def B1K(f:A1i):Nat×Fn:=(88,⟨B1I,B1J,fun x=>f x.1 x.2.1 x.2.2.1 x.2.2.2.1⟩)
def C2y:Fn:=(B1K A1j).2
theorem C2z(f_i_ReqOk:A4u)(f_i_Server_answer:A0e):∀ x,(B9 cfg [C2l f_i_ReqOk,A9e f_i_Server_answer] C2x 37 [.tmp 8] (Tryz.f88.body.getD .skip) B1I B1J).fn x=A4z f_i_ReqOk f_i_Server_answer x.1 x.2.1 x.2.2.1 x.2.2.2.1:=by intro x;kernel_rfl
theorem C30:B1 Tryz.prog 88 C2y:=sm MO A7 (tc Tryz.call79 D3M (tc Tryz.call156 C0t A5)) Tryz.func88 (by kernel_rfl) (by decide) (C2z A3I V7)
abbrev B3a:List PK:= [.ptr A0b,.val false (.int .i64) false]
abbrev B3b:List RK:= [.val false .bool]
def B3c(f:A2f):Nat×Fn:=(201,⟨B3a,B3b,fun x=>f x.1 x.2.1⟩)
def C5p:Fn:=(B3c A0H).2
theorem C5q(f_i_inRange:C3)(f_i_Server_serve:A1i)(f_slices_Delete_impl_Want_impl_Want:H2):∀ x,(B9 cfg [G8 f_i_inRange,B1K f_i_Server_serve,T0 f_slices_Delete_impl_Want_impl_Want] (B3 []) 44 [.tmp 4] (Tryz.f201.body.getD .skip) B3a B3b).fn x=A6c f_i_inRange f_i_Server_serve f_slices_Delete_impl_Want_impl_Want x.1 x.2.1:=by intro x;kernel_rfl
theorem C5r:B1 Tryz.prog 201 C5p:=sm MO A7 (tc Tryz.call80 H9 (tc Tryz.call88 C30 (tc Tryz.call260 A2L A5))) Tryz.func201 (by kernel_rfl) (by decide) (C5q C5 A1j H3)
abbrev B7Z:List PK:= [.val true (.pair (.rs 9 .str) (.rs 9 .str)) false]
abbrev B7a:List RK:= [.val true A10]
def B7b(f:A5Q):Nat×Fn:=(296,⟨B7Z,B7a,fun x=>f x.1⟩)
def D18:Fn:=(B7b A1z).2
theorem D19(f_slices_Clone_string_string:G3):∀ x,(B9 cfg [R5 f_slices_Clone_string_string] (B3 []) 10 [.cell 2 26] (Tryz.f296.body.getD .skip) B7Z B7a).fn x=B05 f_slices_Clone_string_string x.1:=by intro x;kernel_rfl
theorem D1A:B1 Tryz.prog 296 D18:=sm MO A7 (tc Tryz.call275 A0S A5) Tryz.func296 (by kernel_rfl) (by decide) (D19 F7)
abbrev A8T:List PK:= [.ptr A1c]
abbrev A8U:List RK:= [.val false (.sl 130 A9)]
def A8V(f:A06):Nat×Fn:=(261,⟨A8T,A8U,fun x=>f x.1⟩)
def B9k:Fn:=(A8V A07).2
theorem B9l(f_i_FlushDisk:A5Q):∀ x,(B9 cfg [B7b f_i_FlushDisk] (B3 []) 22 [.tmp 2] (Tryz.f261.body.getD .skip) A8T A8U).fn x=A35 f_i_FlushDisk x.1:=by intro x;kernel_rfl
theorem B9m:B1 Tryz.prog 261 B9k:=sm MO A7 (tc Tryz.call296 D1A A5) Tryz.func261 (by kernel_rfl) (by decide) (B9l A1z)
abbrev B5g:List PK:= [.ptr A0b]
abbrev B5h:List RK:= [.val false .bool]
def B5i(f:A3s):Nat×Fn:=(202,⟨B5g,B5h,fun x=>f x.1⟩)
def C8y:Fn:=(B5i A1A).2
theorem C8z(f_i_Server_syncAll:A06):∀ x,(B9 cfg [A8V f_i_Server_syncAll] (B3 []) 30 [.tmp 2] (Tryz.f202.body.getD .skip) B5g B5h).fn x=A7p f_i_Server_syncAll x.1:=by intro x;kernel_rfl
theorem C90:B1 Tryz.prog 202 C8y:=sm MO A7 (tc Tryz.call261 B9m A5) Tryz.func202 (by kernel_rfl) (by decide) (C8z A07)
abbrev A9f:List PK:= [.ptr B2,.val false (.int .i64) false]
abbrev A9g:List RK:= []
def A9h(f:A0f):Nat×Fn:=(311,⟨A9f,A9g,fun x=>f x.1 x.2.1⟩)
def C0u:Fn:=(A9h V8).2
theorem C0v(f_i_inRange:C3):∀ x,(B9 cfg [G8 f_i_inRange] (B3 []) 32 [] (Tryz.f311.body.getD .skip) A9f A9g).fn x=A3t f_i_inRange x.1 x.2.1:=by intro x;kernel_rfl
theorem C0w:B1 Tryz.prog 311 C0u:=sm MO A7 (tc Tryz.call80 H9 A5) Tryz.func311 (by kernel_rfl) (by decide) (C0v C5)
def C5s:Nat→Option Jn:=B3 [(14,⟨[.t 15 false [.bool]],lt 16 12 [],true⟩),(59,⟨[.t 32 false [.bool]],lt 33 10 [],true⟩),(239,⟨[.t 47 false [.bool]],lt 48 6 [],true⟩),(959,⟨[.t 57 false [.bool]],lt 58 10 [],true⟩),(3839,⟨[.t 71 false [.bool]],lt 72 6 [],true⟩)]
abbrev B3d:List PK:= [.ptr B2,.val true E8 false]
abbrev B3e:List RK:= []
def B3f(f:A2g):Nat×Fn:=(297,⟨B3d,B3e,fun x=>f x.1 x.2.1⟩)
def C5t:Fn:=(B3f A0I).2
theorem C5u(f_i_Client_howFar:A0f):∀ x,(B9 cfg [A9h f_i_Client_howFar] C5s 88 [] (Tryz.f297.body.getD .skip) B3d B3e).fn x=A6d f_i_Client_howFar x.1 x.2.1:=by intro x;kernel_rfl
theorem C5v:B1 Tryz.prog 297 C5t:=sm MO A7 (tc Tryz.call311 C0w A5) Tryz.func297 (by kernel_rfl) (by decide) (C5u V8)
abbrev C0x:List PK:= [.val true (.pair .str (.pair (.rs 5 (.int .u8)) E8)) false,.val true E8 false]
abbrev C0y:List RK:= [.val true B2]
def C0z(f:A72):Nat×Fn:=(263,⟨C0x,C0y,fun x=>f x.1 x.2.1⟩)
def D4y:Fn:=(C0z A3u).2
theorem D4z(f_i_RespOk:X0)(f_i_ClientOk:N6)(f_i_copyClient:N8)(f_i_Client_isOver:K9)(f_i_Client_hear:A2g):∀ x,(B9 cfg [B35 f_i_RespOk,A4O f_i_ClientOk,A4S f_i_copyClient,S3 f_i_Client_isOver,B3f f_i_Client_hear] (B3 []) 23 [.cell 4 79] (Tryz.f263.body.getD .skip) C0x C0y).fn x=B2I f_i_RespOk f_i_ClientOk f_i_copyClient f_i_Client_isOver f_i_Client_hear x.1 x.2.1:=by intro x;kernel_rfl
theorem D50:B1 Tryz.prog 263 D4y:=sm MO A7 (tc Tryz.call93 B9c (tc Tryz.call145 A7K (tc Tryz.call190 A8P (tc Tryz.call295 A0D (tc Tryz.call297 C5v A5))))) Tryz.func263 (by kernel_rfl) (by decide) (D4z T5 K6 K0 I7 A0I)
abbrev B5j:List PK:= [.ptr A0b,.val false (.int .i64) false]
abbrev B5k:List RK:= [.val false .bool]
def B5l(f:A3v):Nat×Fn:=(203,⟨B5j,B5k,fun x=>f x.1 x.2.1⟩)
def C91:Fn:=(B5l A1B).2
theorem C92(f_i_inRange:C3)(f_slices_Delete_impl_Held_impl_Held:H4)(f_i_HearResp:A72):∀ x,(B9 cfg [G8 f_i_inRange,T1 f_slices_Delete_impl_Held_impl_Held,C0z f_i_HearResp] (B3 []) 85 [.tmp 4] (Tryz.f203.body.getD .skip) B5j B5k).fn x=A7q f_i_inRange f_slices_Delete_impl_Held_impl_Held f_i_HearResp x.1 x.2.1:=by intro x;kernel_rfl
theorem C93:B1 Tryz.prog 203 C91:=sm MO A7 (tc Tryz.call80 H9 (tc Tryz.call262 A2P (tc Tryz.call263 D50 A5))) Tryz.func203 (by kernel_rfl) (by decide) (C92 C5 H5 A3u)
abbrev C94:List PK:= [.val true (.pair .str (.pair (.rs 5 (.int .u8)) E8)) false]
abbrev C95:List RK:= [.val true B2]
def C96(f:B2J):Nat×Fn:=(300,⟨C94,C95,fun x=>f x.1⟩)
def E1H:Fn:=(C96 B98).2
theorem E1I(f_i_ClientOk:N6)(f_i_copyClient:N8)(f_i_Client_isOver:K9):∀ x,(B9 cfg [A4O f_i_ClientOk,A4S f_i_copyClient,S3 f_i_Client_isOver] (B3 []) 14 [.cell 2 79] (Tryz.f300.body.getD .skip) C94 C95).fn x=C7P f_i_ClientOk f_i_copyClient f_i_Client_isOver x.1:=by intro x;kernel_rfl
theorem E1J:B1 Tryz.prog 300 E1H:=sm MO A7 (tc Tryz.call145 A7K (tc Tryz.call190 A8P (tc Tryz.call295 A0D A5))) Tryz.func300 (by kernel_rfl) (by decide) (E1I K6 K0 I7)
abbrev B5m:List PK:= [.ptr A0b,.val false (.int .i64) false]
abbrev B5n:List RK:= []
def A8W(f:T6):Nat×Fn:=(268,⟨B5m,B5n,fun x=>f x.1 x.2.1⟩)
def C97:Fn:=(A8W A1C).2
theorem C98(f_i_CutOff:B2J):∀ x,(B9 cfg [C96 f_i_CutOff] (B3 []) 24 [] (Tryz.f268.body.getD .skip) B5m B5n).fn x=B4a f_i_CutOff x.1 x.2.1:=by intro x;kernel_rfl
theorem B5o:B1 Tryz.prog 268 C97:=sm MO A7 (tc Tryz.call300 E1J A5) Tryz.func268 (by kernel_rfl) (by decide) (C98 B98)
abbrev B7c:List PK:= [.ptr A0b,.val false (.int .i64) false]
abbrev B7d:List RK:= [.val false .bool]
def B7e(f:A5R):Nat×Fn:=(204,⟨B7c,B7d,fun x=>f x.1 x.2.1⟩)
def D1B:Fn:=(B7e B06).2
theorem D1C(f_i_inRange:C3)(f_slices_DeleteFunc_impl_Want_impl_Want:G1)(f_slices_DeleteFunc_impl_Held_impl_Held:G2)(f_i_World_rest:T6):∀ x,(B9 cfg [G8 f_i_inRange,P9 f_slices_DeleteFunc_impl_Want_impl_Want,Q0 f_slices_DeleteFunc_impl_Held_impl_Held,A8W f_i_World_rest] (B3 []) 48 [.tmp 4] (Tryz.f204.body.getD .skip) B7c B7d).fn x=B78 f_i_inRange f_slices_DeleteFunc_impl_Want_impl_Want f_slices_DeleteFunc_impl_Held_impl_Held f_i_World_rest x.1 x.2.1:=by intro x;kernel_rfl
theorem D1D:B1 Tryz.prog 204 D1B:=sm MO A7 (tc Tryz.call80 H9 (tcC Tryz.call265 A0s (tcC Tryz.call267 A0w (tc Tryz.call268 B5o A5)))) Tryz.func204 (by kernel_rfl) (by decide) (D1C C5 J1 J2 A1C)
abbrev C10:List PK:= [.val true (.pair (.rs 9 .str) (.rs 9 .str)) false]
abbrev C11:List RK:= [.val false (.int .i64)]
def C12(f:A73):Nat×Fn:=(312,⟨C10,C11,fun x=>f x.1⟩)
def D51:Fn:=(C12 B2K).2
theorem D52(f_i_topFrom:A3H):∀ x,(B9 cfg [B5V f_i_topFrom] (B3 []) 6 [.tmp 2] (Tryz.f312.body.getD .skip) C10 C11).fn x=C0D f_i_topFrom x.1:=by intro x;kernel_rfl
theorem D53:B1 Tryz.prog 312 D51:=sm MO A7 (tc Tryz.call174 C3y A5) Tryz.func312 (by kernel_rfl) (by decide) (D52 A16)
def D1E:Nat→Option Jn:=B3 [(63,⟨[],lt 22 6 [],false⟩)]
abbrev B7f:List PK:= [.val true (.pair (.rs 9 .str) (.rs 9 .str)) false]
abbrev B7g:List RK:= [.val true A3j,.val false .bool]
def B7h(f:A5S):Nat×Fn:=(301,⟨B7f,B7g,fun x=>f x.1⟩)
def D1F:Fn:=(B7h B07).2
theorem D1G(f_i_DiskOk:A12)(f_i_ScanRecs:A1d)(f_i_FoldRecs:A1e)(f_i_copyDisk:V6)(f_i_TopEpoch:A73):∀ x,(B9 cfg [B36 f_i_DiskOk,B37 f_i_ScanRecs,B38 f_i_FoldRecs,A7L f_i_copyDisk,C12 f_i_TopEpoch] D1E 36 [.cell 2 29,.tmp 3] (Tryz.f301.body.getD .skip) B7f B7g).fn x=B79 f_i_DiskOk f_i_ScanRecs f_i_FoldRecs f_i_copyDisk f_i_TopEpoch x.1:=by intro x;kernel_rfl
theorem D1H:B1 Tryz.prog 301 D1F:=sm MO A7 (tc Tryz.call169 B9d (tc Tryz.call170 C0e (tc Tryz.call171 C0h (tc Tryz.call221 B39 (tc Tryz.call312 D53 A5))))) Tryz.func301 (by kernel_rfl) (by decide) (D1G A13 A02 A03 R8 B2K)
def D54:Nat→Option Jn:=B3 [(122,⟨[.t 16 false [.int .i64],.b 5 [.own 36864,.own 36865],.r 36864 9 .str,.r 36865 9 .str],lt 17 31 [.t 6,.x 35,.x 37,.x 44,.x 46],false⟩),(7833,⟨[.t 28 false [.bool]],lt 19 9 [],true⟩)]
abbrev C13:List PK:= [.val true (.pair (.rs 9 .str) (.rs 9 .str)) false,.val false (.rs 4 .bool) false]
abbrev C14:List RK:= [.val true A10]
def C15(f:A74):Nat×Fn:=(302,⟨C13,C14,fun x=>f x.1 x.2.1⟩)
def D55:Fn:=(C15 B2L).2
theorem D56(f_i_DiskOk:A12)(f_i_copyDisk:V6):∀ x,(B9 cfg [B36 f_i_DiskOk,A7L f_i_copyDisk] D54 49 [.cell 4 26] (Tryz.f302.body.getD .skip) C13 C14).fn x=C0E f_i_DiskOk f_i_copyDisk x.1 x.2.1:=by intro x;kernel_rfl
theorem D57:B1 Tryz.prog 302 D55:=sm MO A7 (tc Tryz.call169 B9d (tc Tryz.call221 B39 A5)) Tryz.func302 (by kernel_rfl) (by decide) (D56 A13 R8)
abbrev B1L:List PK:= [.ptr A1c,.val false (.rs 4 .bool) false]
abbrev B1M:List RK:= [.val false .bool]
def B1N(f:A1k):Nat×Fn:=(269,⟨B1L,B1M,fun x=>f x.1 x.2.1⟩)
def C31:Fn:=(B1N A50).2
theorem C32(f_i_OpenStore:A5S)(f_i_FallDisk:A74):∀ x,(B9 cfg [B7h f_i_OpenStore,C15 f_i_FallDisk] (B3 []) 24 [.tmp 4] (Tryz.f269.body.getD .skip) B1L B1M).fn x=B0u f_i_OpenStore f_i_FallDisk x.1 x.2.1:=by intro x;kernel_rfl
theorem C33:B1 Tryz.prog 269 C31:=sm MO A7 (tc Tryz.call301 D1H (tc Tryz.call302 D57 A5)) Tryz.func269 (by kernel_rfl) (by decide) (C32 B07 B2L)
def C5w:Nat→Option Jn:=B3 [(122,⟨[.t 23 false [.int .i64],.b 1000 [.own 100000000,.own 100000001,.int .i64,.int .i64,.own 100000002,.own 100000003,.own 100000004,.own 100000005,.own 100000006,.own 100000007,.own 100000008],.r 100000000 9 .str,.r 100000001 9 .str,.r 100000002 109 kUp,.r 100000003 130 A9,.r 100000004 79 B2,.r 100000005 4 .bool,.r 100000006 113 B8,.r 100000007 130 A9,.r 100000008 3 (.int .i64)],lt 24 6 [.r 1006,.r 1007,.r 1010,.r 47104,.r 47105,.r 47108,.r 47109,.r 120832,.r 120833,.r 120836,.r 120837,.r 120838,.r 120839,.r 120840,.r 120841,.r 120842,.t 5],false⟩)]
abbrev B3g:List PK:= [.ptr A0b,.val false (.rs 4 .bool) false]
abbrev B3h:List RK:= [.val false .bool]
def B3i(f:A2h):Nat×Fn:=(205,⟨B3g,B3h,fun x=>f x.1 x.2.1⟩)
def C5x:Fn:=(B3i A6e).2
theorem C5y(f_i_World_rest:T6)(f_i_Server_crash:A1k):∀ x,(B9 cfg [A8W f_i_World_rest,B1N f_i_Server_crash] C5w 30 [.tmp 4] (Tryz.f205.body.getD .skip) B3g B3h).fn x=B3J f_i_World_rest f_i_Server_crash x.1 x.2.1:=by intro x;kernel_rfl
theorem C5z:B1 Tryz.prog 205 C5x:=sm MO A7 (tc Tryz.call268 B5o (tc Tryz.call269 C33 A5)) Tryz.func205 (by kernel_rfl) (by decide) (C5y A1C A50)
abbrev C16:List PK:= [.ptr A0b,.val true (.pair (.int .i64) (.pair (.int .i64) (.rs 4 .bool))) false]
abbrev C17:List RK:= [.val false .bool]
def B3F(f:V9):Nat×Fn:=(112,⟨C16,C17,fun x=>f x.1 x.2.1⟩)
def D58:Fn:=(B3F E0).2
theorem D59(f_i_World_send:A3q)(f_i_World_serve:A2f)(f_i_World_sync:A3s)(f_i_World_tell:A3v)(f_i_World_cut:A5R)(f_i_World_crash:A2h):∀ x,(B9 cfg [B5d f_i_World_send,B3c f_i_World_serve,B5i f_i_World_sync,B5l f_i_World_tell,B7e f_i_World_cut,B3i f_i_World_crash] (B3 []) 41 [.tmp 4] (Tryz.f112.body.getD .skip) C16 C17).fn x=A1l f_i_World_send f_i_World_serve f_i_World_sync f_i_World_tell f_i_World_cut f_i_World_crash x.1 x.2.1:=by intro x;kernel_rfl
theorem C18:B1 Tryz.prog 112 D58:=sm MO A7 (tc Tryz.call200 C8t (tc Tryz.call201 C5r (tc Tryz.call202 C90 (tc Tryz.call203 C93 (tc Tryz.call204 D1D (tc Tryz.call205 C5z A5)))))) Tryz.func112 (by kernel_rfl) (by decide) (D59 A19 A0H A1A A1B B06 A6e)
def C60:Nat→Option Jn:=B3 [(2,⟨[.b 1000 [.own 100000000,.own 100000001,.int .i64,.int .i64,.own 100000002,.own 100000003,.own 100000004,.own 100000005,.own 100000006,.own 100000007,.own 100000008],.r 100000000 9 .str,.r 100000001 9 .str,.r 100000002 109 kUp,.r 100000003 130 A9,.r 100000004 79 B2,.r 100000005 4 .bool,.r 100000006 113 B8,.r 100000007 130 A9,.r 100000008 3 (.int .i64)],lt 4 4 [.r 1000,.r 1001,.r 1004,.r 1005,.r 1006,.r 1007,.r 1008,.r 1009,.r 1010,.r 34816,.r 34817,.r 34820,.r 34821,.r 34822,.r 34823,.r 34824,.r 34825,.r 34826],false⟩)]
abbrev B3j:List PK:= [.ptr A0b,.val false (.int .i64) false]
abbrev B3k:List RK:= []
def B3l(f:A2i):Nat×Fn:=(192,⟨B3j,B3k,fun x=>f x.1 x.2.1⟩)
def C61:Fn:=(B3l A2j).2
theorem C62(f_i_World_do:V9):∀ x,(B9 cfg [B3F f_i_World_do] C60 8 [] (Tryz.f192.body.getD .skip) B3j B3k).fn x=A6f f_i_World_do x.1 x.2.1:=by intro x;kernel_rfl
theorem C63:B1 Tryz.prog 192 C61:=sm MO A7 (tc Tryz.call112 C18 A5) Tryz.func192 (by kernel_rfl) (by decide) (C62 E0)
def C99:Nat→Option Jn:=B3 [(62,⟨[.t 15 false [.int .i64],.b 1000 [.own 100000000,.own 100000001,.int .i64,.int .i64,.own 100000002,.own 100000003,.own 100000004,.own 100000005,.own 100000006,.own 100000007,.own 100000008],.r 100000000 9 .str,.r 100000001 9 .str,.r 100000002 109 kUp,.r 100000003 130 A9,.r 100000004 79 B2,.r 100000005 4 .bool,.r 100000006 113 B8,.r 100000007 130 A9,.r 100000008 3 (.int .i64)],lt 16 7 [.r 43008,.r 43009,.r 43012,.r 43013,.r 43014,.r 43015,.r 43016,.r 43017,.r 43018,.r 92160,.r 92161,.r 92164,.r 92165,.r 92166,.r 92167,.r 92168,.r 92169,.r 92170,.t 2],false⟩)]
abbrev B5p:List PK:= [.ptr A0b]
abbrev B5q:List RK:= []
def B5r(f:A1D):Nat×Fn:=(108,⟨B5p,B5q,fun x=>f x.1⟩)
def C9A:Fn:=(B5r N9).2
theorem C9B(f_i_World_do:V9)(f_i_World_again:A2i):∀ x,(B9 cfg [B3F f_i_World_do,B3l f_i_World_again] C99 23 [] (Tryz.f108.body.getD .skip) B5p B5q).fn x=A7r f_i_World_do f_i_World_again x.1:=by intro x;kernel_rfl
theorem C9C:B1 Tryz.prog 108 C9A:=sm MO A7 (tc Tryz.call112 C18 (tc Tryz.call192 C63 A5)) Tryz.func108 (by kernel_rfl) (by decide) (C9B E0 A2j)
def E1K:Nat→Option Jn:=B3 [(7,⟨[],lt 8 8 [],false⟩),(122,⟨[.t 18 false [.int .i64],.b 5 [.own 100001000,.own 100001001,.int .i64,.int .i64,.own 100001002,.own 100001003,.own 100001004,.own 100001005,.own 100001006,.own 100001007,.own 100001008],.r 100001000 9 .str,.r 100001001 9 .str,.r 100001002 109 kUp,.r 100001003 130 A9,.r 100001004 79 B2,.r 100001005 4 .bool,.r 100001006 113 B8,.r 100001007 130 A9,.r 100001008 3 (.int .i64)],lt 19 4 [.r 32768,.r 32769,.r 32772,.r 32773,.r 32774,.r 32775,.r 32776,.r 32777,.r 32778,.r 88064,.r 88065,.r 88068,.r 88069,.r 88070,.r 88071,.r 88072,.r 88073,.r 88074,.r 92160,.r 92161,.r 92164,.r 92165,.r 92166,.r 92167,.r 92168,.r 92169,.r 92170],false⟩)]
abbrev C9D:List PK:= [.val true (.pair (.pair (.pair (.pair (.rs 9 .str) (.rs 9 .str)) (.pair (.int .i64) (.pair (.int .i64) (.rs 109 kUp)))) (.rs 130 A9)) (.pair (.rs 79 B2) (.pair (.rs 4 .bool) (.pair (.rs 113 B8) (.pair (.rs 130 A9) (.rs 3 (.int .i64))))))) false,.val false (.int .i64) false]
abbrev C9E:List RK:= [.val true A0b]
def C9F(f:B2M):Nat×Fn:=(41,⟨C9D,C9E,fun x=>f x.1 x.2.1⟩)
def E1L:Fn:=(C9F A7s).2
theorem E1M(f_i_WorldOk:A8s)(f_i_inRange:C3)(f_i_copyWorld:A5P)(f_i_World_half:A1D):∀ x,(B9 cfg [C44 f_i_WorldOk,G8 f_i_inRange,B7Y f_i_copyWorld,B5r f_i_World_half] E1K 24 [.cell 4 38] (Tryz.f41.body.getD .skip) C9D C9E).fn x=B99 f_i_WorldOk f_i_inRange f_i_copyWorld f_i_World_half x.1 x.2.1:=by intro x;kernel_rfl
theorem E1N:B1 Tryz.prog 41 E1L:=sm MO A7 (tc Tryz.call23 D7g (tc Tryz.call80 H9 (tc Tryz.call107 D17 (tc Tryz.call108 C9C A5)))) Tryz.func41 (by kernel_rfl) (by decide) (E1M A3J C5 A1y N9)
def D1I:Nat→Option Jn:=B3 [(122,⟨[.t 1 false [.int .i64],.t 5 false [.int .i64]],lt 12 15 [],false⟩)]
abbrev B7i:List PK:= [.val false (.rs 9 .str) false,.val false (.int .i64) false]
abbrev B7j:List RK:= [.val false (.int .i64)]
def B7k(f:A5T):Nat×Fn:=(240,⟨B7i,B7j,fun x=>f x.1 x.2.1⟩)
def D1J:Fn:=(B7k A20).2
theorem D1K:∀ x,(B9 cfg [] D1I 28 [.tmp 4] (Tryz.f240.body.getD .skip) B7i B7j).fn x=B08 x.1 x.2.1:=by intro x;kernel_rfl
theorem D1L:B1 Tryz.prog 240 D1J:=sm MO A7 A5 Tryz.func240 (by kernel_rfl) (by decide) (D1K)
abbrev C9G:List PK:= [.val true (.pair (.rs 9 .str) (.rs 9 .str)) false,.val false (.int .i64) false]
abbrev C9H:List RK:= [.val false (.int .i64)]
def C9I(f:B2N):Nat×Fn:=(175,⟨C9G,C9H,fun x=>f x.1 x.2.1⟩)
def E1O:Fn:=(C9I A7t).2
theorem E1P(f_w_szStringS:A5T):∀ x,(B9 cfg [B7k f_w_szStringS] (B3 []) 18 [.tmp 4] (Tryz.f175.body.getD .skip) C9G C9H).fn x=B9A f_w_szStringS x.1 x.2.1:=by intro x;kernel_rfl
theorem E1Q:B1 Tryz.prog 175 E1O:=sm MO A7 (tc Tryz.call240 D1L A5) Tryz.func175 (by kernel_rfl) (by decide) (E1P A20)
abbrev C48:List PK:= [.val false (.rs 5 (.int .u8)) false,.val false (.int .i64) false]
abbrev C49:List RK:= [.val false (.int .i64)]
def A9i(f:Z2):Nat×Fn:=(270,⟨C48,C49,fun x=>f x.1 x.2.1⟩)
def D7l:Fn:=(A9i S5).2
theorem D7m:∀ x,(B9 cfg [] (B3 []) 12 [.tmp 4] (Tryz.f270.body.getD .skip) C48 C49).fn x=B4b x.1 x.2.1:=by intro x;kernel_rfl
theorem B5s:B1 Tryz.prog 270 D7l:=sm MO A7 A5 Tryz.func270 (by kernel_rfl) (by decide) (D7m)
abbrev D7n:List PK:= [.val true (.pair .str (.pair (.int .i64) (.pair (.rs 5 (.int .u8)) .bool))) false,.val false (.int .i64) false]
abbrev D7o:List RK:= [.val false (.int .i64)]
def D7p(f:B4c):Nat×Fn:=(241,⟨D7n,D7o,fun x=>f x.1 x.2.1⟩)
def E77:Fn:=(D7p A7u).2
theorem E78(f_w_szByteS:Z2):∀ x,(B9 cfg [A9i f_w_szByteS] (B3 []) 19 [.tmp 4] (Tryz.f241.body.getD .skip) D7n D7o).fn x=C7R f_w_szByteS x.1 x.2.1:=by intro x;kernel_rfl
theorem E79:B1 Tryz.prog 241 E77:=sm MO A7 (tc Tryz.call270 B5s A5) Tryz.func241 (by kernel_rfl) (by decide) (E78 S5)
def E4d:Nat→Option Jn:=B3 [(122,⟨[.t 1 false [.int .i64],.t 5 false [.int .i64]],lt 12 14 [],false⟩)]
abbrev D3N:List PK:= [.val false (.rs 248 kUp) false,.val false (.int .i64) false]
abbrev D3O:List RK:= [.val false (.int .i64)]
def D3P(f:B6Y):Nat×Fn:=(176,⟨D3N,D3O,fun x=>f x.1 x.2.1⟩)
def E4e:Fn:=(D3P B0v).2
theorem E4f(f_w_szUp:B4c):∀ x,(B9 cfg [D7p f_w_szUp] E4d 27 [.tmp 4] (Tryz.f176.body.getD .skip) D3N D3O).fn x=C2G f_w_szUp x.1 x.2.1:=by intro x;kernel_rfl
theorem E4g:B1 Tryz.prog 176 E4e:=sm MO A7 (tc Tryz.call241 E79 A5) Tryz.func176 (by kernel_rfl) (by decide) (E4f A7u)
abbrev C4A:List PK:= [.val true (.pair (.pair (.rs 9 .str) (.rs 9 .str)) (.pair (.int .i64) (.pair (.int .i64) (.rs 248 kUp)))) false,.val false (.int .i64) false]
abbrev C4B:List RK:= [.val false (.int .i64)]
def C4C(f:A8v):Nat×Fn:=(96,⟨C4A,C4B,fun x=>f x.1 x.2.1⟩)
def D7q:Fn:=(C4C A63).2
theorem D7r(f_w_szDisk:B2N)(f_w_szUpS:B6Y):∀ x,(B9 cfg [C9I f_w_szDisk,D3P f_w_szUpS] (B3 []) 18 [.tmp 4] (Tryz.f96.body.getD .skip) C4A C4B).fn x=B4d f_w_szDisk f_w_szUpS x.1 x.2.1:=by intro x;kernel_rfl
theorem D7s:B1 Tryz.prog 96 D7q:=sm MO A7 (tc Tryz.call175 E1Q (tc Tryz.call176 E4g A5)) Tryz.func96 (by kernel_rfl) (by decide) (D7r A7t B0v)
abbrev C4D:List PK:= [.val false (.rs 203 A9) false,.val false (.int .i64) false]
abbrev C4E:List RK:= [.val false (.int .i64)]
def B5t(f:A3K):Nat×Fn:=(97,⟨C4D,C4E,fun x=>f x.1 x.2.1⟩)
def D7t:Fn:=(B5t A1E).2
theorem D7u:∀ x,(B9 cfg [] (B3 []) 12 [.tmp 4] (Tryz.f97.body.getD .skip) C4D C4E).fn x=B4e x.1 x.2.1:=by intro x;kernel_rfl
theorem C4F:B1 Tryz.prog 97 D7t:=sm MO A7 A5 Tryz.func97 (by kernel_rfl) (by decide) (D7u)
abbrev C19:List PK:= [.val true (.pair (.pair (.pair (.rs 9 .str) (.rs 9 .str)) (.pair (.int .i64) (.pair (.int .i64) (.rs 248 kUp)))) (.rs 203 A9)) false,.val false (.int .i64) false]
abbrev C1A:List RK:= [.val false (.int .i64)]
def C1B(f:A75):Nat×Fn:=(30,⟨C19,C1A,fun x=>f x.1 x.2.1⟩)
def D5A:Fn:=(C1B A3w).2
theorem D5B(f_w_szStore:A8v)(f_w_szHeldS:A3K):∀ x,(B9 cfg [C4C f_w_szStore,B5t f_w_szHeldS] (B3 []) 18 [.tmp 4] (Tryz.f30.body.getD .skip) C19 C1A).fn x=B2O f_w_szStore f_w_szHeldS x.1 x.2.1:=by intro x;kernel_rfl
theorem D5C:B1 Tryz.prog 30 D5A:=sm MO A7 (tc Tryz.call96 D7s (tc Tryz.call97 C4F A5)) Tryz.func30 (by kernel_rfl) (by decide) (D5B A63 A1E)
abbrev C1C:List PK:= [.val true (.pair .str (.pair (.rs 5 (.int .u8)) E8)) false,.val false (.int .i64) false]
abbrev C1D:List RK:= [.val false (.int .i64)]
def C1E(f:A3x):Nat×Fn:=(207,⟨C1C,C1D,fun x=>f x.1 x.2.1⟩)
def D5D:Fn:=(C1E A08).2
theorem D5E(f_w_szByteS:Z2):∀ x,(B9 cfg [A9i f_w_szByteS] (B3 []) 19 [.tmp 4] (Tryz.f207.body.getD .skip) C1C C1D).fn x=B2P f_w_szByteS x.1 x.2.1:=by intro x;kernel_rfl
theorem D5F:B1 Tryz.prog 207 D5D:=sm MO A7 (tc Tryz.call270 B5s A5) Tryz.func207 (by kernel_rfl) (by decide) (D5E S5)
def D1M:Nat→Option Jn:=B3 [(122,⟨[.t 1 false [.int .i64],.t 5 false [.int .i64]],lt 12 14 [],false⟩)]
abbrev B7l:List PK:= [.val false (.rs 218 B2) false,.val false (.int .i64) false]
abbrev B7m:List RK:= [.val false (.int .i64)]
def B7n(f:A5U):Nat×Fn:=(116,⟨B7l,B7m,fun x=>f x.1 x.2.1⟩)
def D1N:Fn:=(B7n A21).2
theorem D1O(f_w_szClient:A3x):∀ x,(B9 cfg [C1E f_w_szClient] D1M 27 [.tmp 4] (Tryz.f116.body.getD .skip) B7l B7m).fn x=B09 f_w_szClient x.1 x.2.1:=by intro x;kernel_rfl
theorem D1P:B1 Tryz.prog 116 D1N:=sm MO A7 (tc Tryz.call207 D5F A5) Tryz.func116 (by kernel_rfl) (by decide) (D1O A08)
abbrev C4G:List PK:= [.val false (.rs 4 .bool) false,.val false (.int .i64) false]
abbrev C4H:List RK:= [.val false (.int .i64)]
def C4I(f:A8w):Nat×Fn:=(117,⟨C4G,C4H,fun x=>f x.1 x.2.1⟩)
def D7v:Fn:=(C4I A64).2
theorem D7w:∀ x,(B9 cfg [] (B3 []) 12 [.tmp 4] (Tryz.f117.body.getD .skip) C4G C4H).fn x=B4f x.1 x.2.1:=by intro x;kernel_rfl
theorem D7x:B1 Tryz.prog 117 D7v:=sm MO A7 A5 Tryz.func117 (by kernel_rfl) (by decide) (D7w)
abbrev D3Q:List PK:= [.val true M7 false,.val false (.int .i64) false]
abbrev D3R:List RK:= [.val false (.int .i64)]
def D3S(f:B6Z):Nat×Fn:=(31,⟨D3Q,D3R,fun x=>f x.1 x.2.1⟩)
def E4h:Fn:=(D3S B0w).2
theorem E4i:∀ x,(B9 cfg [] (B3 []) 13 [.tmp 4] (Tryz.f31.body.getD .skip) D3Q D3R).fn x=C2H x.1 x.2.1:=by intro x;kernel_rfl
theorem E4j:B1 Tryz.prog 31 E4h:=sm MO A7 A5 Tryz.func31 (by kernel_rfl) (by decide) (E4i)
abbrev C9J:List PK:= [.val true (.pair (.int .i64) (.pair M7 (.rs 5 (.int .u8)))) false,.val false (.int .i64) false]
abbrev C9K:List RK:= [.val false (.int .i64)]
def C9L(f:A7v):Nat×Fn:=(208,⟨C9J,C9K,fun x=>f x.1 x.2.1⟩)
def E1R:Fn:=(C9L A36).2
theorem E1S(f_w_szReq:B6Z)(f_w_szByteS:Z2):∀ x,(B9 cfg [D3S f_w_szReq,A9i f_w_szByteS] (B3 []) 18 [.tmp 4] (Tryz.f208.body.getD .skip) C9J C9K).fn x=B9B f_w_szReq f_w_szByteS x.1 x.2.1:=by intro x;kernel_rfl
theorem E1T:B1 Tryz.prog 208 E1R:=sm MO A7 (tc Tryz.call31 E4j (tc Tryz.call270 B5s A5)) Tryz.func208 (by kernel_rfl) (by decide) (E1S B0w S5)
def D7y:Nat→Option Jn:=B3 [(122,⟨[.t 1 false [.int .i64],.t 5 false [.int .i64]],lt 12 14 [],false⟩)]
abbrev C4J:List PK:= [.val false (.rs 221 B8) false,.val false (.int .i64) false]
abbrev C4K:List RK:= [.val false (.int .i64)]
def C4L(f:A8x):Nat×Fn:=(118,⟨C4J,C4K,fun x=>f x.1 x.2.1⟩)
def D7z:Fn:=(C4L A65).2
theorem D80(f_w_szWant:A7v):∀ x,(B9 cfg [C9L f_w_szWant] D7y 27 [.tmp 4] (Tryz.f118.body.getD .skip) C4J C4K).fn x=B4g f_w_szWant x.1 x.2.1:=by intro x;kernel_rfl
theorem D81:B1 Tryz.prog 118 D7z:=sm MO A7 (tc Tryz.call208 E1T A5) Tryz.func118 (by kernel_rfl) (by decide) (D80 A36)
abbrev C9M:List PK:= [.val false (.rs 3 (.int .i64)) false,.val false (.int .i64) false]
abbrev C9N:List RK:= [.val false (.int .i64)]
def C9O(f:B2Q):Nat×Fn:=(119,⟨C9M,C9N,fun x=>f x.1 x.2.1⟩)
def E1U:Fn:=(C9O A7w).2
theorem E1V:∀ x,(B9 cfg [] (B3 []) 12 [.tmp 4] (Tryz.f119.body.getD .skip) C9M C9N).fn x=B9C x.1 x.2.1:=by intro x;kernel_rfl
theorem E1W:B1 Tryz.prog 119 E1U:=sm MO A7 A5 Tryz.func119 (by kernel_rfl) (by decide) (E1V)
abbrev C4M:List PK:= [.val true (.pair (.pair (.pair (.pair (.rs 9 .str) (.rs 9 .str)) (.pair (.int .i64) (.pair (.int .i64) (.rs 248 kUp)))) (.rs 203 A9)) (.pair (.rs 218 B2) (.pair (.rs 4 .bool) (.pair (.rs 221 B8) (.pair (.rs 203 A9) (.rs 3 (.int .i64))))))) false,.val false (.int .i64) false]
abbrev C4N:List RK:= [.val false (.int .i64)]
def C4O(f:A8y):Nat×Fn:=(51,⟨C4M,C4N,fun x=>f x.1 x.2.1⟩)
def D82:Fn:=(C4O A66).2
theorem D83(f_w_szServer:A75)(f_w_szHeldS:A3K)(f_w_szClientS:A5U)(f_w_szBoolS:A8w)(f_w_szWantS:A8x)(f_w_szIntS:B2Q):∀ x,(B9 cfg [C1B f_w_szServer,B5t f_w_szHeldS,B7n f_w_szClientS,C4I f_w_szBoolS,C4L f_w_szWantS,C9O f_w_szIntS] (B3 []) 42 [.tmp 4] (Tryz.f51.body.getD .skip) C4M C4N).fn x=B4h f_w_szServer f_w_szHeldS f_w_szClientS f_w_szBoolS f_w_szWantS f_w_szIntS x.1 x.2.1:=by intro x;kernel_rfl
theorem D84:B1 Tryz.prog 51 D82:=sm MO A7 (tc Tryz.call30 D5C (tc Tryz.call97 C4F (tc Tryz.call116 D1P (tc Tryz.call117 D7x (tc Tryz.call118 D81 (tc Tryz.call119 E1W A5)))))) Tryz.func51 (by kernel_rfl) (by decide) (D83 A3w A1E A21 A64 A65 A7w)
abbrev D85:List PK:= [.val false (.int .i64) false,.val false (.int .i64) false,.val false (.int .i64) false]
abbrev D86:List RK:= [.val false .bool]
def P7(f:E5):Nat×Fn:=(120,⟨D85,D86,fun x=>f x.1 x.2.1 x.2.2.1⟩)
def E7A:Fn:=(P7 E2).2
theorem E7B:∀ x,(B9 cfg [] (B3 []) 15 [.tmp 6] (Tryz.f120.body.getD .skip) D85 D86).fn x=C7S x.1 x.2.1 x.2.2.1:=by intro x;kernel_rfl
theorem Q8:B1 Tryz.prog 120 E7A:=sm MO A7 A5 Tryz.func120 (by kernel_rfl) (by decide) (E7B)
abbrev C9P:List PK:= [.val true E8 false]
abbrev C9Q:List RK:= [.val false .bool]
def B9n(f:A1F):Nat×Fn:=(158,⟨C9P,C9Q,fun x=>f x.1⟩)
def E1X:Fn:=(B9n T7).2
theorem E1Y(f_s_l1In:E5):∀ x,(B9 cfg [P7 f_s_l1In] (B3 []) 11 [.tmp 2] (Tryz.f158.body.getD .skip) C9P C9Q).fn x=B9D f_s_l1In x.1:=by intro x;kernel_rfl
theorem C9R:B1 Tryz.prog 158 E1X:=sm MO A7 (tc Tryz.call120 Q8 A5) Tryz.func158 (by kernel_rfl) (by decide) (E1Y E2)
def E1Z:Nat→Option Jn:=B3 [(3,⟨[],lt 4 13 [],false⟩),(58,⟨[.t 3 false [.int .i64]],lt 17 23 [],false⟩)]
abbrev C9S:List PK:= [.val true (.pair (.rs 9 .str) (.rs 9 .str)) false]
abbrev C9T:List RK:= [.val false .bool]
def C9U(f:B2R):Nat×Fn:=(231,⟨C9S,C9T,fun x=>f x.1⟩)
def E1a:Fn:=(C9U A1G).2
theorem E1b:∀ x,(B9 cfg [] E1Z 40 [.tmp 2] (Tryz.f231.body.getD .skip) C9S C9T).fn x=B2S x.1:=by intro x;kernel_rfl
theorem E1c:B1 Tryz.prog 231 E1a:=sm MO A7 A5 Tryz.func231 (by kernel_rfl) (by decide) (E1b)
def E1d:Nat→Option Jn:=B3 [(3,⟨[],lt 10 15 [],false⟩),(15,⟨[.t 8 false [.int .i64]],lt 25 15 [.t 9],true⟩),(122,⟨[.t 8 false [.int .i64],.t 9 false [.int .i64]],lt 25 15 [],false⟩)]
abbrev C9V:List PK:= [.val false (.rs 5 (.int .u8)) false,.val false (.int .i64) false,.val false (.int .i64) false]
abbrev C9W:List RK:= [.val false (.int .i64),.val false .bool]
def C9X(f:B2T):Nat×Fn:=(282,⟨C9V,C9W,fun x=>f x.1 x.2.1 x.2.2.1⟩)
def E1e:Fn:=(C9X A51).2
theorem E1f(f_s_l1In:E5):∀ x,(B9 cfg [P7 f_s_l1In] E1d 41 [.tmp 6,.tmp 7] (Tryz.f282.body.getD .skip) C9V C9W).fn x=B9E f_s_l1In x.1 x.2.1 x.2.2.1:=by intro x;kernel_rfl
theorem E1g:B1 Tryz.prog 282 E1e:=sm MO A7 (tc Tryz.call120 Q8 A5) Tryz.func282 (by kernel_rfl) (by decide) (E1f E2)
def E4k:Nat→Option Jn:=B3 [(3,⟨[],lt 3 21 [],false⟩),(26,⟨[.t 3 false [.int .i64]],lt 4 20 [],false⟩)]
abbrev D3T:List PK:= [.val false .str false]
abbrev D3U:List RK:= [.val false .bool]
def A3T(f:O4):Nat×Fn:=(160,⟨D3T,D3U,fun x=>f x.1⟩)
def E4l:Fn:=(A3T M8).2
theorem E4m(f_s_l1In:E5):∀ x,(B9 cfg [P7 f_s_l1In] E4k 27 [.tmp 2] (Tryz.f160.body.getD .skip) D3T D3U).fn x=C2I f_s_l1In x.1:=by intro x;kernel_rfl
theorem A5F:B1 Tryz.prog 160 E4l:=sm MO A7 (tc Tryz.call120 Q8 A5) Tryz.func160 (by kernel_rfl) (by decide) (E4m E2)
def E4n:Nat→Option Jn:=B3 [(3,⟨[],lt 3 16 [],false⟩),(943,⟨[.t 43 false [.bool]],[.t 44,.t 45],true⟩)]
abbrev D3V:List PK:= [.val true (.pair (.int .i64) (.pair (.int .i64) (.pair (.int .i64) (.pair .str (.pair (.int .i64) (.rs 5 (.int .u8))))))) false]
abbrev D3W:List RK:= [.val false .bool]
def D3X(f:B6a):Nat×Fn:=(283,⟨D3V,D3W,fun x=>f x.1⟩)
def E4o:Fn:=(D3X B0x).2
theorem E4p(f_s_l1In:E5)(f_s_l11Id:O4):∀ x,(B9 cfg [P7 f_s_l1In,A3T f_s_l11Id] E4n 55 [.tmp 2] (Tryz.f283.body.getD .skip) D3V D3W).fn x=C2J f_s_l1In f_s_l11Id x.1:=by intro x;kernel_rfl
theorem E4q:B1 Tryz.prog 283 E4o:=sm MO A7 (tc Tryz.call120 Q8 (tc Tryz.call160 A5F A5)) Tryz.func283 (by kernel_rfl) (by decide) (E4p E2 M8)
def E8U:Nat→Option Jn:=B3 [(7,⟨[.t 3 false [.int .i64]],lt 4 28 [],true⟩),(58,⟨[.t 3 false [.int .i64],.t 4 false [.int .i64]],lt 5 27 [],false⟩),(7462,⟨[.t 3 false [.int .i64],.t 5 false [.int .i64]],lt 20 12 [.t 6],false⟩)]
abbrev E3F:List PK:= [.val false (.rs 5 (.int .u8)) false]
abbrev E3G:List RK:= [.val false (.int .i64)]
def C6i(f:A90):Nat×Fn:=(152,⟨E3F,E3G,fun x=>f x.1⟩)
def E8V:Fn:=(C6i A76).2
theorem E8W:∀ x,(B9 cfg [] E8U 34 [.tmp 2] (Tryz.f152.body.getD .skip) E3F E3G).fn x=D4B x.1:=by intro x;kernel_rfl
theorem D5G:B1 Tryz.prog 152 E8V:=sm MO A7 A5 Tryz.func152 (by kernel_rfl) (by decide) (E8W)
def E1h:Nat→Option Jn:=B3 [(7,⟨[.t 1 false [.int .i64]],[.t 12,.t 13],true⟩),(250,⟨[.t 7 false [.own 100001000],.t 8 false [.int .i64],.r 100001000 5 (.int .u8)],lt 20 13 [.r 11,.r 31,.r 32],false⟩)]
abbrev C9Y:List PK:= [.val false (.rs 5 (.int .u8)) false,.val false (.int .i64) false,.val false (.int .i64) false]
abbrev C9Z:List RK:= [.val false (.sl 5 (.int .u8))]
def C9a(f:B2U):Nat×Fn:=(306,⟨C9Y,C9Z,fun x=>f x.1 x.2.1 x.2.2.1⟩)
def E1i:Fn:=(C9a A7x).2
theorem E1j(f_s_l1In:E5):∀ x,(B9 cfg [P7 f_s_l1In] E1h 34 [.tmp 6] (Tryz.f306.body.getD .skip) C9Y C9Z).fn x=B9F f_s_l1In x.1 x.2.1 x.2.2.1:=by intro x;kernel_rfl
theorem E1k:B1 Tryz.prog 306 E1i:=sm MO A7 (tc Tryz.call120 Q8 A5) Tryz.func306 (by kernel_rfl) (by decide) (E1j E2)
abbrev C9b:List PK:= [.val true (.pair (.int .i64) (.pair (.int .i64) (.pair (.int .i64) (.pair .str (.pair (.int .i64) (.rs 5 (.int .u8))))))) false]
abbrev C9c:List RK:= [.val false .str]
def B9o(f:A52):Nat×Fn:=(284,⟨C9b,C9c,fun x=>f x.1⟩)
def E1l:Fn:=(B9o A37).2
theorem E1m(f_s_Crc:A90)(f_s_PutBig:B2U):∀ x,(B9 cfg [C6i f_s_Crc,C9a f_s_PutBig] (B3 []) 38 [.tmp 2] (Tryz.f284.body.getD .skip) C9b C9c).fn x=B9G f_s_Crc f_s_PutBig x.1:=by intro x;kernel_rfl
theorem C9d:B1 Tryz.prog 284 E1l:=sm MO A7 (tc Tryz.call152 D5G (tc Tryz.call306 E1k A5)) Tryz.func284 (by kernel_rfl) (by decide) (E1m A76 A7x)
def E1n:Nat→Option Jn:=B3 [(255,⟨[],lt 42 21 [],false⟩),(4095,⟨[],lt 87 15 [],false⟩)]
abbrev C9e:List PK:= [.val false .str false]
abbrev C9f:List RK:= [.val true A6z,.val false .bool]
def B9p(f:A1H):Nat×Fn:=(235,⟨C9e,C9f,fun x=>f x.1⟩)
def E1o:Fn:=(B9p O0).2
theorem E1p(f_s_GetBig:B2T)(f_s_RecOk:B6a)(f_s_l13Put:A52):∀ x,(B9 cfg [C9X f_s_GetBig,D3X f_s_RecOk,B9o f_s_l13Put] E1n 127 [.cell 2 194,.tmp 3] (Tryz.f235.body.getD .skip) C9e C9f).fn x=B9H f_s_GetBig f_s_RecOk f_s_l13Put x.1:=by intro x;kernel_rfl
theorem C9g:B1 Tryz.prog 235 E1o:=sm MO A7 (tc Tryz.call282 E1g (tc Tryz.call283 E4q (tc Tryz.call284 C9d A5))) Tryz.func235 (by kernel_rfl) (by decide) (E1p A51 B0x A37)
def D5H:Nat→Option Jn:=B3 [(122,⟨[.t 3 false [.own 100000000],.t 4 false [.int .i64],.t 5 false [.int .i64],.r 100000000 194 A6z],lt 40 6 (lt 9 30 [.b 6,.r 8,.r 42,.r 43,.r 94213,.t 6,.t 7]),false⟩)]
abbrev C1F:List PK:= [.val true (.pair (.rs 9 .str) (.rs 9 .str)) false]
abbrev C1G:List RK:= [.val false (.sl 194 A6z)]
def C1H(f:A77):Nat×Fn:=(232,⟨C1F,C1G,fun x=>f x.1⟩)
def D5I:Fn:=(C1H A1n).2
theorem D5J(f_s_GetRec:A1H):∀ x,(B9 cfg [B9p f_s_GetRec] D5H 47 [.tmp 2] (Tryz.f232.body.getD .skip) C1F C1G).fn x=C0G f_s_GetRec x.1:=by intro x;kernel_rfl
theorem D5K:B1 Tryz.prog 232 D5I:=sm MO A7 (tc Tryz.call235 C9g A5) Tryz.func232 (by kernel_rfl) (by decide) (D5J O0)
def E4r:Nat→Option Jn:=B3 [(26,⟨[.t 5 false [.int .i64]],lt 6 13 [],false⟩)]
abbrev D3Y:List PK:= [.val false (.rs 109 kUp) false,.val false .str false]
abbrev D3Z:List RK:= [.val false (.int .i64)]
def A5G(f:Q9):Nat×Fn:=(206,⟨D3Y,D3Z,fun x=>f x.1 x.2.1⟩)
def E4s:Fn:=(A5G O5).2
theorem E4t:∀ x,(B9 cfg [] E4r 20 [.tmp 4] (Tryz.f206.body.getD .skip) D3Y D3Z).fn x=C2K x.1 x.2.1:=by intro x;kernel_rfl
theorem A7T:B1 Tryz.prog 206 E4s:=sm MO A7 A5 Tryz.func206 (by kernel_rfl) (by decide) (E4t)
def C9h:Nat→Option Jn:=B3 [(58,⟨[.t 3 false [.own 100000000],.t 4 false [.int .i64],.r 100000000 109 kUp],lt 7 19 [.b 5,.r 6,.r 17,.r 20,.r 24,.r 25,.t 5],false⟩)]
abbrev B5u:List PK:= [.val false (.rs 109 kUp) false]
abbrev B5v:List RK:= [.val false (.sl 109 kUp)]
def A8X(f:L6):Nat×Fn:=(230,⟨B5u,B5v,fun x=>f x.1⟩)
def C9i:Fn:=(A8X K2).2
theorem C9j:∀ x,(B9 cfg [] C9h 27 [.tmp 2] (Tryz.f230.body.getD .skip) B5u B5v).fn x=A3z x.1:=by intro x;kernel_rfl
theorem B5w:B1 Tryz.prog 230 C9i:=sm MO A7 A5 Tryz.func230 (by kernel_rfl) (by decide) (C9j)
def A8Y:Nat→Option Jn:=B3 [(58,⟨[.t 3 false [.own 100000000],.t 4 false [.int .i64],.r 100000000 109 (.pair .str (.pair (.int .i64) (.pair (.rs 5 (.int .u8)) .bool)))],lt 7 19 [.b 5,.r 6,.r 17,.r 20,.r 24,.r 25,.t 5],false⟩)]
abbrev A1T:List PK:= [.val false (.rs 109 kUp) false]
abbrev A1U:List RK:= [.val false (.sl 109 (.pair .str (.pair (.int .i64) (.pair (.rs 5 (.int .u8)) .bool))))]
def U3(f:L6):Nat×Fn:=(230,⟨A1T,A1U,fun x=>f x.1⟩)
def A8Z:Fn:=(U3 K2).2
theorem A8a:∀ x,(B9 C8E [] A8Y 27 [.tmp 2] (Tryz.f230.body.getD .skip) A1T A1U).fn x=A3z x.1:=by intro x;kernel_rfl
theorem A1V:B1 Tryz.prog 230 A8Z:=sm MO A5t A5 Tryz.func230 (by kernel_rfl) (by decide) (A8a)
end
end Go.Proofs.YtpdcljonclhhpaaGreat.Ev
