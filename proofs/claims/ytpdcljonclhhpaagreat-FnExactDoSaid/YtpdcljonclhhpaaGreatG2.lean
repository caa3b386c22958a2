/- Each function of the program does what its plain function says. -/
import Derived.Test.YtpdcljonclhhpaaGreatG1
import Derived.Test.YtpdcljonclhhpaaGreatFind
set_option maxRecDepth 100000
namespace Go.Proofs.YtpdcljonclhhpaaGreat.Ev
def C3j:Nat→Option Jn:=B3 [(3,⟨[],lt 9 8 [],false⟩)]
abbrev B1v:List PK:= [.ptr A3z,.val false .str false,.val false (.int .i64) false]
abbrev B1w:List RK:= [.val false (.int .i64)]
noncomputable def B1x(f:A1o):Nat×Fn:=(222,⟨B1v,B1w,fun x=>f x.1 x.2.1 x.2.2.1⟩)
noncomputable def C3k:Fn:=(B1x Y8).2
theorem C3l(f_i_inRange:C4)(f_i_idOk:S2)(f_i_Store_left:L7)(f_i_Store_write_r97_0:F2)(f_i_Store_find:H5):∀ x,(B6 (cfg.withPk 276 ⟨kUp,4,f_i_Store_find⟩) [I2 f_i_inRange,A71 f_i_idOk,A1b f_i_Store_left,P6 f_i_Store_write_r97_0] C3j 39 [.tmp 6] (Tryz.f222.body.getD .skip) B1v B1w).fn x=A5O f_i_inRange f_i_idOk f_i_Store_left f_i_Store_write_r97_0 f_i_Store_find x.1 x.2.1 x.2.2.1:=by intro x;kernel_rfl
theorem C3m:B0 Tryz.prog 222 C3k:=sm MO (A84 A6 (fun args w=>Tryz.call276 args w) Z9) (tc Tryz.call80 J1 (tc Tryz.call147 A96 (tc Tryz.call277 A4v (tc Tryz.call278 V0 A5)))) Tryz.func222 (by kernel_rfl) (by decide) (C3l C7 Q5 K4 C8 G1)
def C6i:Nat→Option Jn:=B3 [(3,⟨[],lt 12 9 [],false⟩),(15,⟨[.b 1000 [.own 215040,.own 215041,.int .i64,.int .i64,.own 215044],.r 215040 9 .str,.r 215041 9 .str,.r 215044 109 kUp],lt 27 31 [.r 1000,.r 1001,.r 1004],false⟩),(243,⟨[.t 30 false [.bool]],lt 31 18 [],true⟩),(250,⟨[.b 6 [.int .i64],.b 1000 [.own 100003000,.own 100003001,.int .i64,.int .i64,.own 100003002],.r 100003000 9 .str,.r 100003001 9 .str,.r 100003002 109 kUp],lt 60 10 [.r 215040,.r 215041,.r 215044,.r 272384,.r 272385,.r 272388,.t 11],false⟩)]
abbrev B4C:List PK:= [.ptr A3z,.val false .str false,.val false (.int .i64) false,.val false (.rs 5 (.int .u8)) false]
abbrev B4D:List RK:= [.val false (.int .i64)]
noncomputable def B4E(f:A2q):Nat×Fn:=(223,⟨B4C,B4D,fun x=>f x.1 x.2.1 x.2.2.1 x.2.2.2.1⟩)
noncomputable def C6j:Fn:=(B4E A0O).2
theorem C6k(f_i_inRange:C4)(f_i_idOk:S2)(f_i_Store_left:L7)(f_i_Store_write_r97_0:F2)(f_i_Store_find:H5):∀ x,(B6 (((cfg.withPk 276 ⟨kUp,4,f_i_Store_find⟩).withCk 279 304).withPt [244]) [I2 f_i_inRange,A71 f_i_idOk,A1b f_i_Store_left,P6 f_i_Store_write_r97_0] C6i 70 [.tmp 8] (Tryz.f223.body.getD .skip) B4C B4D).fn x=A79 f_i_inRange f_i_idOk f_i_Store_left f_i_Store_write_r97_0 f_i_Store_find x.1 x.2.1 x.2.2.1 x.2.2.2.1:=by intro x;kernel_rfl
theorem C6l:B0 Tryz.prog 223 C6j:=sm MO (E5D (l:= [244]) (E5C (A84 A6 (fun args w=>Tryz.call276 args w) Z9) (fun args w=>Tryz.call279 args w) E9k) ⟨⟨_,Tryz.underlying244,rfl⟩,trivial⟩) (tc Tryz.call80 J1 (tc Tryz.call147 A96 (tc Tryz.call277 A4v (tc Tryz.call278 V0 A5)))) Tryz.func223 (by kernel_rfl) (by decide) (C6k C7 Q5 K4 C8 G1)
abbrev B4F:List PK:= [.ptr A1l,.val false (.int .i64) false,.val false .str false]
abbrev B4G:List RK:= [.val true E9]
noncomputable def A3E(f:O5):Nat×Fn:=(224,⟨B4F,B4G,fun x=>f x.1 x.2.1 x.2.2.1⟩)
noncomputable def C6m:Fn:=(A3E M2).2
theorem C6n(f_i_Store_find:H5):∀ x,(B6 (cfg.withPk 276 ⟨kUp,4,f_i_Store_find⟩) [] (B3 []) 22 [.cell 6 126] (Tryz.f224.body.getD .skip) B4F B4G).fn x=A7A f_i_Store_find x.1 x.2.1 x.2.2.1:=by intro x;kernel_rfl
theorem A7Q:B0 Tryz.prog 224 C6m:=sm MO (A84 A6 (fun args w=>Tryz.call276 args w) Z9) A5 Tryz.func224 (by kernel_rfl) (by decide) (C6n G1)
def C3n:Nat→Option Jn:=B3 [(15,⟨[.b 7 [.str,.int .i64,.any,.bool],.b 1000 [.own 100000000,.own 100000001,.int .i64,.int .i64,.own 100000002],.r 100000000 9 .str,.r 100000001 9 .str,.r 100000002 109 kUp],lt 18 25 [.r 1000,.r 1001,.r 1004,.r 169984,.r 169985,.r 169988],false⟩)]
abbrev B1y:List PK:= [.ptr A3z,.val false .str false,.val false (.int .i64) false]
abbrev B1z:List RK:= [.val false (.int .i64)]
noncomputable def B20(f:A1p):Nat×Fn:=(225,⟨B1y,B1z,fun x=>f x.1 x.2.1 x.2.2.1⟩)
noncomputable def C3o:Fn:=(B20 Y9).2
theorem C3p(f_i_idOk:S2)(f_i_Store_left:L7)(f_i_Store_write_r97_0:F2)(f_i_Crc:A9Y)(f_i_Store_find:H5):∀ x,(B6 (cfg.withPk 276 ⟨kUp,4,f_i_Store_find⟩) [A71 f_i_idOk,A1b f_i_Store_left,P6 f_i_Store_write_r97_0,C7e f_i_Crc] C3n 49 [.tmp 6] (Tryz.f225.body.getD .skip) B1y B1z).fn x=A5P f_i_idOk f_i_Store_left f_i_Store_write_r97_0 f_i_Crc f_i_Store_find x.1 x.2.1 x.2.2.1:=by intro x;kernel_rfl
theorem C3q:B0 Tryz.prog 225 C3o:=sm MO (A84 A6 (fun args w=>Tryz.call276 args w) Z9) (tc Tryz.call147 A96 (tc Tryz.call277 A4v (tc Tryz.call278 V0 (tc Tryz.call280 D5h A5)))) Tryz.func225 (by kernel_rfl) (by decide) (C3p Q5 K4 C8 A7b G1)
abbrev B21:List PK:= [.ptr A3z,.val false .str false]
abbrev B22:List RK:= [.val false (.int .i64)]
noncomputable def B23(f:A1q):Nat×Fn:=(226,⟨B21,B22,fun x=>f x.1 x.2.1⟩)
noncomputable def C3r:Fn:=(B23 Z0).2
theorem C3s(f_i_idOk:S2)(f_i_Store_left:L7)(f_i_Store_write_r97_0:F2)(f_i_Store_find:H5):∀ x,(B6 (cfg.withPk 276 ⟨kUp,4,f_i_Store_find⟩) [A71 f_i_idOk,A1b f_i_Store_left,P6 f_i_Store_write_r97_0] (B3 []) 24 [.tmp 4] (Tryz.f226.body.getD .skip) B21 B22).fn x=A5Q f_i_idOk f_i_Store_left f_i_Store_write_r97_0 f_i_Store_find x.1 x.2.1:=by intro x;kernel_rfl
theorem C3t:B0 Tryz.prog 226 C3r:=sm MO (A84 A6 (fun args w=>Tryz.call276 args w) Z9) (tc Tryz.call147 A96 (tc Tryz.call277 A4v (tc Tryz.call278 V0 A5))) Tryz.func226 (by kernel_rfl) (by decide) (C3s Q5 K4 C8 G1)
def C6o:Nat→Option Jn:=B3 [(115,⟨[.t 20 false [.bool]],lt 21 8 [],true⟩)]
abbrev B4H:List PK:= [.ptr A1l,.val true L5 false]
abbrev B4I:List RK:= [.val true E9]
noncomputable def B4J(f:A2r):Nat×Fn:=(227,⟨B4H,B4I,fun x=>f x.1 x.2.1⟩)
noncomputable def C6p:Fn:=(B4J A0P).2
theorem C6q(f_i_Server_told:O5)(f_i_Store_find:H5):∀ x,(B6 (cfg.withPk 276 ⟨kUp,4,f_i_Store_find⟩) [A3E f_i_Server_told] C6o 37 [.cell 4 126] (Tryz.f227.body.getD .skip) B4H B4I).fn x=A7B f_i_Server_told f_i_Store_find x.1 x.2.1:=by intro x;kernel_rfl
theorem C6r:B0 Tryz.prog 227 C6p:=sm MO (A84 A6 (fun args w=>Tryz.call276 args w) Z9) (tc Tryz.call224 A7Q A5) Tryz.func227 (by kernel_rfl) (by decide) (C6q M2 G1)
def C0U:Nat→Option Jn:=B3 [(107,⟨[.t 11 false [.bool]],[.t 12,.t 13],true⟩)]
abbrev A98:List PK:= [.ptr A1l,.val false (.int .i64) false,.val false .str false]
abbrev A99:List RK:= [.val true E9]
noncomputable def A9A(f:A0E):Nat×Fn:=(228,⟨A98,A99,fun x=>f x.1 x.2.1 x.2.2.1⟩)
noncomputable def C0V:Fn:=(A9A I3).2
theorem C0W(f_i_Server_told:O5):∀ x,(B6 cfg [A3E f_i_Server_told] C0U 24 [.cell 6 126] (Tryz.f228.body.getD .skip) A98 A99).fn x=A3G f_i_Server_told x.1 x.2.1 x.2.2.1:=by intro x;kernel_rfl
theorem C0X:B0 Tryz.prog 228 C0V:=sm MO A6 (tc Tryz.call224 A7Q A5) Tryz.func228 (by kernel_rfl) (by decide) (C0W M2)
def C1h:Nat→Option Jn:=B3 [(15,⟨[.t 7 false [.int .i64],.b 8 [.int .i64,.int .i64],.b 1000 [.own 100000000,.own 100000001,.int .i64,.int .i64,.own 100000002,.own 100000003],.r 100000000 9 .str,.r 100000001 9 .str,.r 100000002 109 kUp,.r 100000003 130 A9],lt 15 46 [.r 1000,.r 1001,.r 1004,.r 1005,.r 104448,.r 104449,.r 104452,.r 153600,.r 153601,.r 153604,.r 169984,.r 169985,.r 169988,.r 169989,.r 210944,.r 210945,.r 210948,.r 247808,.r 247809,.r 247812,.t 10,.t 11],false⟩)]
abbrev B0K:List PK:= [.ptr A1l,.val true L5 false,.val false (.rs 5 (.int .u8)) false]
abbrev B0L:List RK:= [.val true E9]
noncomputable def B0M(f:A0l):Nat×Fn:=(156,⟨B0K,B0L,fun x=>f x.1 x.2.1 x.2.2.1⟩)
noncomputable def C1i:Fn:=(B0M W4).2
theorem C1j(f_i_Store_makeUp:A1o)(f_i_Store_putUp:A2q)(f_i_Server_told:O5)(f_i_Store_doneUp:A1p)(f_i_Store_dropUp:A1q)(f_i_Server_look:A2r)(f_i_Server_refused:A0E):∀ x,(B6 cfg [B1x f_i_Store_makeUp,B4E f_i_Store_putUp,A3E f_i_Server_told,B20 f_i_Store_doneUp,B23 f_i_Store_dropUp,B4J f_i_Server_look,A9A f_i_Server_refused] C1h 69 [.cell 6 126] (Tryz.f156.body.getD .skip) B0K B0L).fn x=A47 f_i_Store_makeUp f_i_Store_putUp f_i_Server_told f_i_Store_doneUp f_i_Store_dropUp f_i_Server_look f_i_Server_refused x.1 x.2.1 x.2.2.1:=by intro x;kernel_rfl
theorem C1k:B0 Tryz.prog 156 C1i:=sm MO A6 (tc Tryz.call222 C3m (tc Tryz.call223 C6l (tc Tryz.call224 A7Q (tc Tryz.call225 C3q (tc Tryz.call226 C3t (tc Tryz.call227 C6r (tc Tryz.call228 C0X A5))))))) Tryz.func156 (by kernel_rfl) (by decide) (C1j Y8 A0O M2 Y9 Z0 A0P I3)
def C3u:Nat→Option Jn:=B3 [(3,⟨[],lt 10 11 [],false⟩)]
abbrev B24:List PK:= [.ptr A1l,.val false (.int .i64) false,.val true L5 false,.val false (.rs 5 (.int .u8)) false]
abbrev B25:List RK:= [.val false .bool]
noncomputable def B26(f:A1r):Nat×Fn:=(88,⟨B24,B25,fun x=>f x.1 x.2.1 x.2.2.1 x.2.2.2.1⟩)
noncomputable def C3v:Fn:=(B26 A1s).2
theorem C3w(f_i_ReqOk:A5M)(f_i_Server_answer:A0l):∀ x,(B6 cfg [C3i f_i_ReqOk,B0M f_i_Server_answer] C3u 37 [.tmp 8] (Tryz.f88.body.getD .skip) B24 B25).fn x=A5R f_i_ReqOk f_i_Server_answer x.1 x.2.1 x.2.2.1 x.2.2.2.1:=by intro x;kernel_rfl
theorem C3x:B0 Tryz.prog 88 C3v:=sm MO A6 (tc Tryz.call79 D4L (tc Tryz.call156 C1k A5)) Tryz.func88 (by kernel_rfl) (by decide) (C3w A3X W4)
abbrev B4K:List PK:= [.ptr A23,.val false (.int .i64) false]
abbrev B4L:List RK:= [.val false .bool]
noncomputable def B4M(f:A2s):Nat×Fn:=(201,⟨B4K,B4L,fun x=>f x.1 x.2.1⟩)
noncomputable def C6s:Fn:=(B4M A0Q).2
theorem C6t(f_i_inRange:C4)(f_i_Server_serve:A1r)(f_slices_Delete_impl_Want_impl_Want:H7):∀ x,(B6 cfg [I2 f_i_inRange,B26 f_i_Server_serve,T5 f_slices_Delete_impl_Want_impl_Want] (B3 []) 44 [.tmp 4] (Tryz.f201.body.getD .skip) B4K B4L).fn x=A7C f_i_inRange f_i_Server_serve f_slices_Delete_impl_Want_impl_Want x.1 x.2.1:=by intro x;kernel_rfl
theorem C6u:B0 Tryz.prog 201 C6s:=sm MO A6 (tc Tryz.call80 J1 (tc Tryz.call88 C3x (tc Tryz.call260 A2Y A5))) Tryz.func201 (by kernel_rfl) (by decide) (C6t C7 A1s H8)
abbrev B8J:List PK:= [.val true (.pair (.rs 9 .str) (.rs 9 .str)) false]
abbrev B8K:List RK:= [.val true A0M]
noncomputable def B8L(f:A5r):Nat×Fn:=(296,⟨B8J,B8K,fun x=>f x.1⟩)
noncomputable def D1y:Fn:=(B8L A29).2
theorem D1z(f_slices_Clone_string_string:G7):∀ x,(B6 cfg [R8 f_slices_Clone_string_string] (B3 []) 10 [.cell 2 26] (Tryz.f296.body.getD .skip) B8J B8K).fn x=B0n f_slices_Clone_string_string x.1:=by intro x;kernel_rfl
theorem D20:B0 Tryz.prog 296 D1y:=sm MO A6 (tc Tryz.call275 A0Z A5) Tryz.func296 (by kernel_rfl) (by decide) (D1z F9)
abbrev A9B:List PK:= [.ptr A1l]
abbrev A9C:List RK:= [.val false (.sl 130 A9)]
noncomputable def A9D(f:A0F):Nat×Fn:=(261,⟨A9B,A9C,fun x=>f x.1⟩)
noncomputable def C0Y:Fn:=(A9D A0G).2
theorem C0Z(f_i_FlushDisk:A5r):∀ x,(B6 cfg [B8L f_i_FlushDisk] (B3 []) 22 [.tmp 2] (Tryz.f261.body.getD .skip) A9B A9C).fn x=A3H f_i_FlushDisk x.1:=by intro x;kernel_rfl
theorem C0a:B0 Tryz.prog 261 C0Y:=sm MO A6 (tc Tryz.call296 D20 A5) Tryz.func261 (by kernel_rfl) (by decide) (C0Z A29)
abbrev B6N:List PK:= [.ptr A23]
abbrev B6O:List RK:= [.val false .bool]
noncomputable def B6P(f:A48):Nat×Fn:=(202,⟨B6N,B6O,fun x=>f x.1⟩)
noncomputable def C9v:Fn:=(B6P A1F).2
theorem C9w(f_i_Server_syncAll:A0F):∀ x,(B6 cfg [A9D f_i_Server_syncAll] (B3 []) 30 [.tmp 2] (Tryz.f202.body.getD .skip) B6N B6O).fn x=A8W f_i_Server_syncAll x.1:=by intro x;kernel_rfl
theorem C9x:B0 Tryz.prog 202 C9v:=sm MO A6 (tc Tryz.call261 C0a A5) Tryz.func202 (by kernel_rfl) (by decide) (C9w A0G)
abbrev B0N:List PK:= [.ptr B1,.val false (.int .i64) false]
abbrev B0O:List RK:= []
noncomputable def B0P(f:A0m):Nat×Fn:=(311,⟨B0N,B0O,fun x=>f x.1 x.2.1⟩)
noncomputable def C1l:Fn:=(B0P W5).2
theorem C1m(f_i_inRange:C4):∀ x,(B6 cfg [I2 f_i_inRange] (B3 []) 32 [] (Tryz.f311.body.getD .skip) B0N B0O).fn x=A49 f_i_inRange x.1 x.2.1:=by intro x;kernel_rfl
theorem C1n:B0 Tryz.prog 311 C1l:=sm MO A6 (tc Tryz.call80 J1 A5) Tryz.func311 (by kernel_rfl) (by decide) (C1m C7)
def C6v:Nat→Option Jn:=B3 [(14,⟨[.t 15 false [.bool]],lt 16 12 [],true⟩),(59,⟨[.t 32 false [.bool]],lt 33 10 [],true⟩),(239,⟨[.t 47 false [.bool]],lt 48 6 [],true⟩),(959,⟨[.t 57 false [.bool]],lt 58 10 [],true⟩),(3839,⟨[.t 71 false [.bool]],lt 72 6 [],true⟩)]
abbrev B4N:List PK:= [.ptr B1,.val true E9 false]
abbrev B4O:List RK:= []
noncomputable def B4P(f:A2t):Nat×Fn:=(297,⟨B4N,B4O,fun x=>f x.1 x.2.1⟩)
noncomputable def C6w:Fn:=(B4P A0R).2
theorem C6x(f_i_Client_howFar:A0m):∀ x,(B6 cfg [B0P f_i_Client_howFar] C6v 88 [] (Tryz.f297.body.getD .skip) B4N B4O).fn x=A7D f_i_Client_howFar x.1 x.2.1:=by intro x;kernel_rfl
theorem C6y:B0 Tryz.prog 297 C6w:=sm MO A6 (tc Tryz.call311 C1n A5) Tryz.func297 (by kernel_rfl) (by decide) (C6x W5)
abbrev C1o:List PK:= [.val true (.pair .str (.pair (.rs 5 (.int .u8)) E9)) false,.val true E9 false]
abbrev C1p:List RK:= [.val true B1]
noncomputable def C1q(f:A7d):Nat×Fn:=(263,⟨C1o,C1p,fun x=>f x.1 x.2.1⟩)
noncomputable def D5x:Fn:=(C1q A4A).2
theorem D5y(f_i_RespOk:X6)(f_i_ClientOk:N7)(f_i_copyClient:N9)(f_i_Client_isOver:L2)(f_i_Client_hear:A2t):∀ x,(B6 cfg [B3q f_i_RespOk,A4o f_i_ClientOk,A4s f_i_copyClient,S7 f_i_Client_isOver,B4P f_i_Client_hear] (B3 []) 23 [.cell 4 79] (Tryz.f263.body.getD .skip) C1o C1p).fn x=B31 f_i_RespOk f_i_ClientOk f_i_copyClient f_i_Client_isOver f_i_Client_hear x.1 x.2.1:=by intro x;kernel_rfl
theorem D5z:B0 Tryz.prog 263 D5x:=sm MO A6 (tc Tryz.call93 C0Q (tc Tryz.call145 A80 (tc Tryz.call190 A97 (tc Tryz.call295 A0L (tc Tryz.call297 C6y A5))))) Tryz.func263 (by kernel_rfl) (by decide) (D5y T9 K8 K3 J3 A0R)
abbrev B6Q:List PK:= [.ptr A23,.val false (.int .i64) false]
abbrev B6R:List RK:= [.val false .bool]
noncomputable def B6S(f:A4B):Nat×Fn:=(203,⟨B6Q,B6R,fun x=>f x.1 x.2.1⟩)
noncomputable def C9y:Fn:=(B6S A1G).2
theorem C9z(f_i_inRange:C4)(f_slices_Delete_impl_Held_impl_Held:H9)(f_i_HearResp:A7d):∀ x,(B6 cfg [I2 f_i_inRange,T6 f_slices_Delete_impl_Held_impl_Held,C1q f_i_HearResp] (B3 []) 85 [.tmp 4] (Tryz.f203.body.getD .skip) B6Q B6R).fn x=A8X f_i_inRange f_slices_Delete_impl_Held_impl_Held f_i_HearResp x.1 x.2.1:=by intro x;kernel_rfl
theorem D00:B0 Tryz.prog 203 C9y:=sm MO A6 (tc Tryz.call80 J1 (tc Tryz.call262 A2c (tc Tryz.call263 D5z A5))) Tryz.func203 (by kernel_rfl) (by decide) (C9z C7 I0 A4A)
abbrev D01:List PK:= [.val true (.pair .str (.pair (.rs 5 (.int .u8)) E9)) false]
abbrev D02:List RK:= [.val true B1]
noncomputable def D03(f:B32):Nat×Fn:=(300,⟨D01,D02,fun x=>f x.1⟩)
noncomputable def E2Z:Fn:=(D03 A8Y).2
theorem E2a(f_i_ClientOk:N7)(f_i_copyClient:N9)(f_i_Client_isOver:L2):∀ x,(B6 cfg [A4o f_i_ClientOk,A4s f_i_copyClient,S7 f_i_Client_isOver] (B3 []) 14 [.cell 2 79] (Tryz.f300.body.getD .skip) D01 D02).fn x=B9x f_i_ClientOk f_i_copyClient f_i_Client_isOver x.1:=by intro x;kernel_rfl
theorem E2b:B0 Tryz.prog 300 E2Z:=sm MO A6 (tc Tryz.call145 A80 (tc Tryz.call190 A97 (tc Tryz.call295 A0L A5))) Tryz.func300 (by kernel_rfl) (by decide) (E2a K8 K3 J3)
abbrev B6T:List PK:= [.ptr A23,.val false (.int .i64) false]
abbrev B6U:List RK:= []
noncomputable def A9E(f:U0):Nat×Fn:=(268,⟨B6T,B6U,fun x=>f x.1 x.2.1⟩)
noncomputable def D04:Fn:=(A9E Q6).2
theorem D05(f_i_CutOff:B32):∀ x,(B6 cfg [D03 f_i_CutOff] (B3 []) 24 [] (Tryz.f268.body.getD .skip) B6T B6U).fn x=A8Z f_i_CutOff x.1 x.2.1:=by intro x;kernel_rfl
theorem B6V:B0 Tryz.prog 268 D04:=sm MO A6 (tc Tryz.call300 E2b A5) Tryz.func268 (by kernel_rfl) (by decide) (D05 A8Y)
abbrev B8M:List PK:= [.ptr A23,.val false (.int .i64) false]
abbrev B8N:List RK:= [.val false .bool]
noncomputable def B8O(f:A5s):Nat×Fn:=(204,⟨B8M,B8N,fun x=>f x.1 x.2.1⟩)
noncomputable def D21:Fn:=(B8O A2A).2
theorem D22(f_i_inRange:C4)(f_slices_DeleteFunc_impl_Want_impl_Want:G3)(f_slices_DeleteFunc_impl_Held_impl_Held:G5)(f_i_World_rest:U0):∀ x,(B6 cfg [I2 f_i_inRange,Q0 f_slices_DeleteFunc_impl_Want_impl_Want,Q1 f_slices_DeleteFunc_impl_Held_impl_Held,A9E f_i_World_rest] (B3 []) 48 [.tmp 4] (Tryz.f204.body.getD .skip) B8M B8N).fn x=B0o f_i_inRange f_slices_DeleteFunc_impl_Want_impl_Want f_slices_DeleteFunc_impl_Held_impl_Held f_i_World_rest x.1 x.2.1:=by intro x;kernel_rfl
theorem D23:B0 Tryz.prog 204 D21:=sm MO A6 (tc Tryz.call80 J1 (tcC Tryz.call265 A0y (tcC Tryz.call267 A12 (tc Tryz.call268 B6V A5)))) Tryz.func204 (by kernel_rfl) (by decide) (D22 C7 G4 G6 Q6)
abbrev C1r:List PK:= [.val true (.pair (.rs 9 .str) (.rs 9 .str)) false]
abbrev C1s:List RK:= [.val false (.int .i64)]
noncomputable def C1t(f:A7e):Nat×Fn:=(312,⟨C1r,C1s,fun x=>f x.1⟩)
noncomputable def D60:Fn:=(C1t A4C).2
theorem D61(f_i_topFrom:A3W):∀ x,(B6 cfg [B6C f_i_topFrom] (B3 []) 6 [.tmp 2] (Tryz.f312.body.getD .skip) C1r C1s).fn x=B33 f_i_topFrom x.1:=by intro x;kernel_rfl
theorem D62:B0 Tryz.prog 312 D60:=sm MO A6 (tc Tryz.call174 C4q A5) Tryz.func312 (by kernel_rfl) (by decide) (D61 A1B)
def D24:Nat→Option Jn:=B3 [(63,⟨[],lt 22 6 [],false⟩)]
abbrev B8P:List PK:= [.val true (.pair (.rs 9 .str) (.rs 9 .str)) false]
abbrev B8Q:List RK:= [.val true A3z,.val false .bool]
noncomputable def B8R(f:A5t):Nat×Fn:=(301,⟨B8P,B8Q,fun x=>f x.1⟩)
noncomputable def D25:Fn:=(B8R X9).2
theorem D26(f_i_DiskOk:A17)(f_i_ScanRecs:A1m)(f_i_FoldRecs:A1n)(f_i_copyDisk:W0)(f_i_TopEpoch:A7e):∀ x,(B6 cfg [B3r f_i_DiskOk,B3s f_i_ScanRecs,B3t f_i_FoldRecs,A81 f_i_copyDisk,C1t f_i_TopEpoch] D24 36 [.cell 2 29,.tmp 3] (Tryz.f301.body.getD .skip) B8P B8Q).fn x=B0p f_i_DiskOk f_i_ScanRecs f_i_FoldRecs f_i_copyDisk f_i_TopEpoch x.1:=by intro x;kernel_rfl
theorem D27:B0 Tryz.prog 301 D25:=sm MO A6 (tc Tryz.call169 C0R (tc Tryz.call170 C1V (tc Tryz.call171 C1Y (tc Tryz.call221 B3u (tc Tryz.call312 D62 A5))))) Tryz.func301 (by kernel_rfl) (by decide) (D26 A18 A0B A0C S3 A4C)
def D63:Nat→Option Jn:=B3 [(122,⟨[.t 16 false [.int .i64],.b 5 [.own 36864,.own 36865],.r 36864 9 .str,.r 36865 9 .str],lt 17 31 [.t 6,.x 35,.x 37,.x 44,.x 46],false⟩),(7833,⟨[.t 28 false [.bool]],lt 19 9 [],true⟩)]
abbrev C1u:List PK:= [.val true (.pair (.rs 9 .str) (.rs 9 .str)) false,.val false (.rs 4 .bool) false]
abbrev C1v:List RK:= [.val true A0M]
noncomputable def C1w(f:A7f):Nat×Fn:=(302,⟨C1u,C1v,fun x=>f x.1 x.2.1⟩)
noncomputable def D64:Fn:=(C1w A1t).2
theorem D65(f_i_DiskOk:A17)(f_i_copyDisk:W0):∀ x,(B6 cfg [B3r f_i_DiskOk,A81 f_i_copyDisk] D63 49 [.cell 4 26] (Tryz.f302.body.getD .skip) C1u C1v).fn x=B34 f_i_DiskOk f_i_copyDisk x.1 x.2.1:=by intro x;kernel_rfl
theorem D66:B0 Tryz.prog 302 D64:=sm MO A6 (tc Tryz.call169 C0R (tc Tryz.call221 B3u A5)) Tryz.func302 (by kernel_rfl) (by decide) (D65 A18 S3)
abbrev B27:List PK:= [.ptr A1l,.val false (.rs 4 .bool) false]
abbrev B28:List RK:= [.val false .bool]
noncomputable def B29(f:A1u):Nat×Fn:=(269,⟨B27,B28,fun x=>f x.1 x.2.1⟩)
noncomputable def C3y:Fn:=(B29 A1v).2
theorem C3z(f_i_OpenStore:A5t)(f_i_FallDisk:A7f):∀ x,(B6 cfg [B8R f_i_OpenStore,C1w f_i_FallDisk] (B3 []) 24 [.tmp 4] (Tryz.f269.body.getD .skip) B27 B28).fn x=A5S f_i_OpenStore f_i_FallDisk x.1 x.2.1:=by intro x;kernel_rfl
theorem C40:B0 Tryz.prog 269 C3y:=sm MO A6 (tc Tryz.call301 D27 (tc Tryz.call302 D66 A5)) Tryz.func269 (by kernel_rfl) (by decide) (C3z X9 A1t)
def C6z:Nat→Option Jn:=B3 [(122,⟨[.t 23 false [.int .i64],.b 1000 [.own 100000000,.own 100000001,.int .i64,.int .i64,.own 100000002,.own 100000003,.own 100000004,.own 100000005,.own 100000006,.own 100000007,.own 100000008],.r 100000000 9 .str,.r 100000001 9 .str,.r 100000002 109 kUp,.r 100000003 130 A9,.r 100000004 79 B1,.r 100000005 4 .bool,.r 100000006 113 B7,.r 100000007 130 A9,.r 100000008 3 (.int .i64)],lt 24 6 [.r 1006,.r 1007,.r 1010,.r 47104,.r 47105,.r 47108,.r 47109,.r 120832,.r 120833,.r 120836,.r 120837,.r 120838,.r 120839,.r 120840,.r 120841,.r 120842,.t 5],false⟩)]
abbrev B4Q:List PK:= [.ptr A23,.val false (.rs 4 .bool) false]
abbrev B4R:List RK:= [.val false .bool]
noncomputable def B4S(f:A2u):Nat×Fn:=(205,⟨B4Q,B4R,fun x=>f x.1 x.2.1⟩)
noncomputable def C70:Fn:=(B4S A0S).2
theorem C71(f_i_World_rest:U0)(f_i_Server_crash:A1u):∀ x,(B6 cfg [A9E f_i_World_rest,B29 f_i_Server_crash] C6z 30 [.tmp 4] (Tryz.f205.body.getD .skip) B4Q B4R).fn x=A7E f_i_World_rest f_i_Server_crash x.1 x.2.1:=by intro x;kernel_rfl
theorem C72:B0 Tryz.prog 205 C70:=sm MO A6 (tc Tryz.call268 B6V (tc Tryz.call269 C40 A5)) Tryz.func205 (by kernel_rfl) (by decide) (C71 Q6 A1v)
abbrev C1x:List PK:= [.ptr A23,.val true (.pair (.int .i64) (.pair (.int .i64) (.rs 4 .bool))) false]
abbrev C1y:List RK:= [.val false .bool]
noncomputable def C1z(f:A7g):Nat×Fn:=(112,⟨C1x,C1y,fun x=>f x.1 x.2.1⟩)
noncomputable def D67:Fn:=(C1z A4E).2
theorem D68(f_i_World_send:A46)(f_i_World_serve:A2s)(f_i_World_sync:A48)(f_i_World_tell:A4B)(f_i_World_cut:A5s)(f_i_World_crash:A2u):∀ x,(B6 cfg [B6K f_i_World_send,B4M f_i_World_serve,B6P f_i_World_sync,B6S f_i_World_tell,B8O f_i_World_cut,B4S f_i_World_crash] (B3 []) 41 [.tmp 4] (Tryz.f112.body.getD .skip) C1x C1y).fn x=B35 f_i_World_send f_i_World_serve f_i_World_sync f_i_World_tell f_i_World_cut f_i_World_crash x.1 x.2.1:=by intro x;kernel_rfl
theorem D69:B0 Tryz.prog 112 D67:=sm MO A6 (tc Tryz.call200 C9q (tc Tryz.call201 C6u (tc Tryz.call202 C9x (tc Tryz.call203 D00 (tc Tryz.call204 D23 (tc Tryz.call205 C72 A5)))))) Tryz.func112 (by kernel_rfl) (by decide) (D68 A1E A0Q A1F A1G A2A A0S)
abbrev E8Q:List PK:= [.val true (.pair (.pair (.pair (.pair (.rs 9 .str) (.rs 9 .str)) (.pair (.int .i64) (.pair (.int .i64) (.rs 109 kUp)))) (.rs 130 A9)) (.pair (.rs 79 B1) (.pair (.rs 4 .bool) (.pair (.rs 113 B7) (.pair (.rs 130 A9) (.rs 3 (.int .i64))))))) false,.val true (.pair (.int .i64) (.pair (.int .i64) (.rs 4 .bool))) false]
abbrev E8R:List RK:= [.val true A23,.val false .bool]
noncomputable def E8S(f:D5A):Nat×Fn:=(46,⟨E8Q,E8R,fun x=>f x.1 x.2.1⟩)
noncomputable def F0o:Fn:=(E8S C8M).2
theorem F0p(f_i_WorldOk:A9a)(f_i_copyWorld:A5q)(f_i_World_do:A7g):∀ x,(B6 cfg [C4w f_i_WorldOk,B8I f_i_copyWorld,C1z f_i_World_do] (B3 []) 18 [.cell 4 38,.tmp 5] (Tryz.f46.body.getD .skip) E8Q E8R).fn x=E1K f_i_WorldOk f_i_copyWorld f_i_World_do x.1 x.2.1:=by intro x;kernel_rfl
theorem F0q:B0 Tryz.prog 46 F0o:=sm MO A6 (tc Tryz.call23 D8r (tc Tryz.call107 D1x (tc Tryz.call112 D69 A5))) Tryz.func46 (by kernel_rfl) (by decide) (F0p A3Y A28 A4E)
abbrev D8w:List PK:= [.val false (.int .i64) false,.val false (.int .i64) false,.val false (.int .i64) false]
abbrev D8x:List RK:= [.val false .bool]
noncomputable def P7(f:E5):Nat×Fn:=(120,⟨D8w,D8x,fun x=>f x.1 x.2.1 x.2.2.1⟩)
noncomputable def E8T:Fn:=(P7 E3).2
theorem E8U:∀ x,(B6 cfg [] (B3 []) 15 [.tmp 6] (Tryz.f120.body.getD .skip) D8w D8x).fn x=C8N x.1 x.2.1 x.2.2.1:=by intro x;kernel_rfl
theorem R0:B0 Tryz.prog 120 E8T:=sm MO A6 A5 Tryz.func120 (by kernel_rfl) (by decide) (E8U)
abbrev D06:List PK:= [.val true E9 false]
abbrev D07:List RK:= [.val false .bool]
noncomputable def C0b(f:A1H):Nat×Fn:=(158,⟨D06,D07,fun x=>f x.1⟩)
noncomputable def E2c:Fn:=(C0b U1).2
theorem E2d(f_s_l1In:E5):∀ x,(B6 cfg [P7 f_s_l1In] (B3 []) 11 [.tmp 2] (Tryz.f158.body.getD .skip) D06 D07).fn x=B9y f_s_l1In x.1:=by intro x;kernel_rfl
theorem D08:B0 Tryz.prog 158 E2c:=sm MO A6 (tc Tryz.call120 R0 A5) Tryz.func158 (by kernel_rfl) (by decide) (E2d E3)
def E2e:Nat→Option Jn:=B3 [(3,⟨[],lt 4 13 [],false⟩),(58,⟨[.t 3 false [.int .i64]],lt 17 23 [],false⟩)]
abbrev D09:List PK:= [.val true (.pair (.rs 9 .str) (.rs 9 .str)) false]
abbrev D0A:List RK:= [.val false .bool]
noncomputable def B40(f:A1I):Nat×Fn:=(231,⟨D09,D0A,fun x=>f x.1⟩)
noncomputable def E2f:Fn:=(B40 R7).2
theorem E2g:∀ x,(B6 cfg [] E2e 40 [.tmp 2] (Tryz.f231.body.getD .skip) D09 D0A).fn x=B36 x.1:=by intro x;kernel_rfl
theorem C0c:B0 Tryz.prog 231 E2f:=sm MO A6 A5 Tryz.func231 (by kernel_rfl) (by decide) (E2g)
def E2h:Nat→Option Jn:=B3 [(3,⟨[],lt 10 15 [],false⟩),(15,⟨[.t 8 false [.int .i64]],lt 25 15 [.t 9],true⟩),(122,⟨[.t 8 false [.int .i64],.t 9 false [.int .i64]],lt 25 15 [],false⟩)]
abbrev D0B:List PK:= [.val false (.rs 5 (.int .u8)) false,.val false (.int .i64) false,.val false (.int .i64) false]
abbrev D0C:List RK:= [.val false (.int .i64),.val false .bool]
noncomputable def D0D(f:B37):Nat×Fn:=(282,⟨D0B,D0C,fun x=>f x.1 x.2.1 x.2.2.1⟩)
noncomputable def E2i:Fn:=(D0D A5T).2
theorem E2j(f_s_l1In:E5):∀ x,(B6 cfg [P7 f_s_l1In] E2h 41 [.tmp 6,.tmp 7] (Tryz.f282.body.getD .skip) D0B D0C).fn x=B9z f_s_l1In x.1 x.2.1 x.2.2.1:=by intro x;kernel_rfl
theorem E2k:B0 Tryz.prog 282 E2i:=sm MO A6 (tc Tryz.call120 R0 A5) Tryz.func282 (by kernel_rfl) (by decide) (E2j E3)
def E5z:Nat→Option Jn:=B3 [(3,⟨[],lt 3 21 [],false⟩),(26,⟨[.t 3 false [.int .i64]],lt 4 20 [],false⟩)]
abbrev D4M:List PK:= [.val false .str false]
abbrev D4N:List RK:= [.val false .bool]
noncomputable def A3j(f:O1):Nat×Fn:=(160,⟨D4M,D4N,fun x=>f x.1⟩)
noncomputable def E60:Fn:=(A3j N0).2
theorem E61(f_s_l1In:E5):∀ x,(B6 cfg [P7 f_s_l1In] E5z 27 [.tmp 2] (Tryz.f160.body.getD .skip) D4M D4N).fn x=C3D f_s_l1In x.1:=by intro x;kernel_rfl
theorem A5g:B0 Tryz.prog 160 E60:=sm MO A6 (tc Tryz.call120 R0 A5) Tryz.func160 (by kernel_rfl) (by decide) (E61 E3)
def E62:Nat→Option Jn:=B3 [(3,⟨[],lt 3 16 [],false⟩),(943,⟨[.t 43 false [.bool]],[.t 44,.t 45],true⟩)]
abbrev D4O:List PK:= [.val true (.pair (.int .i64) (.pair (.int .i64) (.pair (.int .i64) (.pair .str (.pair (.int .i64) (.rs 5 (.int .u8))))))) false]
abbrev D4P:List RK:= [.val false .bool]
noncomputable def D4Q(f:B7I):Nat×Fn:=(283,⟨D4O,D4P,fun x=>f x.1⟩)
noncomputable def E63:Fn:=(D4Q B1g).2
theorem E64(f_s_l1In:E5)(f_s_l11Id:O1):∀ x,(B6 cfg [P7 f_s_l1In,A3j f_s_l11Id] E62 55 [.tmp 2] (Tryz.f283.body.getD .skip) D4O D4P).fn x=C3E f_s_l1In f_s_l11Id x.1:=by intro x;kernel_rfl
theorem E65:B0 Tryz.prog 283 E63:=sm MO A6 (tc Tryz.call120 R0 (tc Tryz.call160 A5g A5)) Tryz.func283 (by kernel_rfl) (by decide) (E64 E3 N0)
def E9p:Nat→Option Jn:=B3 [(7,⟨[.t 3 false [.int .i64]],lt 4 28 [],true⟩),(58,⟨[.t 3 false [.int .i64],.t 4 false [.int .i64]],lt 5 27 [],false⟩),(7462,⟨[.t 3 false [.int .i64],.t 5 false [.int .i64]],lt 20 12 [.t 6],false⟩)]
abbrev E4c:List PK:= [.val false (.rs 5 (.int .u8)) false]
abbrev E4d:List RK:= [.val false (.int .i64)]
noncomputable def C7f(f:A9d):Nat×Fn:=(152,⟨E4c,E4d,fun x=>f x.1⟩)
noncomputable def E9q:Fn:=(C7f A7h).2
theorem E9r:∀ x,(B6 cfg [] E9p 34 [.tmp 2] (Tryz.f152.body.getD .skip) E4c E4d).fn x=D5B x.1:=by intro x;kernel_rfl
theorem D6A:B0 Tryz.prog 152 E9q:=sm MO A6 A5 Tryz.func152 (by kernel_rfl) (by decide) (E9r)
def E2l:Nat→Option Jn:=B3 [(7,⟨[.t 1 false [.int .i64]],[.t 12,.t 13],true⟩),(250,⟨[.t 7 false [.own 100001000],.t 8 false [.int .i64],.r 100001000 5 (.int .u8)],lt 20 13 [.r 11,.r 31,.r 32],false⟩)]
abbrev D0E:List PK:= [.val false (.rs 5 (.int .u8)) false,.val false (.int .i64) false,.val false (.int .i64) false]
abbrev D0F:List RK:= [.val false (.sl 5 (.int .u8))]
noncomputable def D0G(f:B38):Nat×Fn:=(306,⟨D0E,D0F,fun x=>f x.1 x.2.1 x.2.2.1⟩)
noncomputable def E2m:Fn:=(D0G A8a).2
theorem E2n(f_s_l1In:E5):∀ x,(B6 cfg [P7 f_s_l1In] E2l 34 [.tmp 6] (Tryz.f306.body.getD .skip) D0E D0F).fn x=C00 f_s_l1In x.1 x.2.1 x.2.2.1:=by intro x;kernel_rfl
theorem E2o:B0 Tryz.prog 306 E2m:=sm MO A6 (tc Tryz.call120 R0 A5) Tryz.func306 (by kernel_rfl) (by decide) (E2n E3)
abbrev D0H:List PK:= [.val true (.pair (.int .i64) (.pair (.int .i64) (.pair (.int .i64) (.pair .str (.pair (.int .i64) (.rs 5 (.int .u8))))))) false]
abbrev D0I:List RK:= [.val false .str]
noncomputable def C0d(f:A5U):Nat×Fn:=(284,⟨D0H,D0I,fun x=>f x.1⟩)
noncomputable def E2p:Fn:=(C0d A3I).2
theorem E2q(f_s_Crc:A9d)(f_s_PutBig:B38):∀ x,(B6 cfg [C7f f_s_Crc,D0G f_s_PutBig] (B3 []) 38 [.tmp 2] (Tryz.f284.body.getD .skip) D0H D0I).fn x=C01 f_s_Crc f_s_PutBig x.1:=by intro x;kernel_rfl
theorem D0J:B0 Tryz.prog 284 E2p:=sm MO A6 (tc Tryz.call152 D6A (tc Tryz.call306 E2o A5)) Tryz.func284 (by kernel_rfl) (by decide) (E2q A7h A8a)
def E2r:Nat→Option Jn:=B3 [(255,⟨[],lt 42 21 [],false⟩),(4095,⟨[],lt 87 15 [],false⟩)]
abbrev D0K:List PK:= [.val false .str false]
abbrev D0L:List RK:= [.val true A7a,.val false .bool]
noncomputable def B41(f:U2):Nat×Fn:=(235,⟨D0K,D0L,fun x=>f x.1⟩)
noncomputable def E2s:Fn:=(B41 K5).2
theorem E2t(f_s_GetBig:B37)(f_s_RecOk:B7I)(f_s_l13Put:A5U):∀ x,(B6 cfg [D0D f_s_GetBig,D4Q f_s_RecOk,C0d f_s_l13Put] E2r 127 [.cell 2 194,.tmp 3] (Tryz.f235.body.getD .skip) D0K D0L).fn x=C02 f_s_GetBig f_s_RecOk f_s_l13Put x.1:=by intro x;kernel_rfl
theorem C0e:B0 Tryz.prog 235 E2s:=sm MO A6 (tc Tryz.call282 E2k (tc Tryz.call283 E65 (tc Tryz.call284 D0J A5))) Tryz.func235 (by kernel_rfl) (by decide) (E2t A5T B1g A3I)
def D6B:Nat→Option Jn:=B3 [(122,⟨[.t 3 false [.own 100000000],.t 4 false [.int .i64],.t 5 false [.int .i64],.r 100000000 194 A7a],lt 40 6 (lt 9 30 [.b 6,.r 8,.r 42,.r 43,.r 94213,.t 6,.t 7]),false⟩)]
abbrev C20:List PK:= [.val true (.pair (.rs 9 .str) (.rs 9 .str)) false]
abbrev C21:List RK:= [.val false (.sl 194 A7a)]
noncomputable def B42(f:A1w):Nat×Fn:=(232,⟨C20,C21,fun x=>f x.1⟩)
noncomputable def D6C:Fn:=(B42 W6).2
theorem D6D(f_s_GetRec:U2):∀ x,(B6 cfg [B41 f_s_GetRec] D6B 47 [.tmp 2] (Tryz.f232.body.getD .skip) C20 C21).fn x=C12 f_s_GetRec x.1:=by intro x;kernel_rfl
theorem C22:B0 Tryz.prog 232 D6C:=sm MO A6 (tc Tryz.call235 C0e A5) Tryz.func232 (by kernel_rfl) (by decide) (D6D K5)
def E66:Nat→Option Jn:=B3 [(26,⟨[.t 5 false [.int .i64]],lt 6 13 [],false⟩)]
abbrev D4R:List PK:= [.val false (.rs 109 kUp) false,.val false .str false]
abbrev D4S:List RK:= [.val false (.int .i64)]
noncomputable def A5h(f:R1):Nat×Fn:=(206,⟨D4R,D4S,fun x=>f x.1 x.2.1⟩)
noncomputable def E67:Fn:=(A5h O2).2
theorem E68:∀ x,(B6 cfg [] E66 20 [.tmp 4] (Tryz.f206.body.getD .skip) D4R D4S).fn x=C3F x.1 x.2.1:=by intro x;kernel_rfl
theorem A8A:B0 Tryz.prog 206 E67:=sm MO A6 A5 Tryz.func206 (by kernel_rfl) (by decide) (E68)
def D0M:Nat→Option Jn:=B3 [(58,⟨[.t 3 false [.own 100000000],.t 4 false [.int .i64],.r 100000000 109 kUp],lt 7 19 [.b 5,.r 6,.r 17,.r 20,.r 24,.r 25,.t 5],false⟩)]
abbrev B6W:List PK:= [.val false (.rs 109 kUp) false]
abbrev B6X:List RK:= [.val false (.sl 109 kUp)]
noncomputable def A9F(f:L8):Nat×Fn:=(230,⟨B6W,B6X,fun x=>f x.1⟩)
noncomputable def D0N:Fn:=(A9F K6).2
theorem D0O:∀ x,(B6 cfg [] D0M 27 [.tmp 2] (Tryz.f230.body.getD .skip) B6W B6X).fn x=A4G x.1:=by intro x;kernel_rfl
theorem B6Y:B0 Tryz.prog 230 D0N:=sm MO A6 A5 Tryz.func230 (by kernel_rfl) (by decide) (D0O)
def A9G:Nat→Option Jn:=B3 [(58,⟨[.t 3 false [.own 100000000],.t 4 false [.int .i64],.r 100000000 109 (.pair .str (.pair (.int .i64) (.pair (.rs 5 (.int .u8)) .bool)))],lt 7 19 [.b 5,.r 6,.r 17,.r 20,.r 24,.r 25,.t 5],false⟩)]
abbrev A1c:List PK:= [.val false (.rs 109 kUp) false]
abbrev A1d:List RK:= [.val false (.sl 109 (.pair .str (.pair (.int .i64) (.pair (.rs 5 (.int .u8)) .bool))))]
noncomputable def U8(f:L8):Nat×Fn:=(230,⟨A1c,A1d,fun x=>f x.1⟩)
noncomputable def A9H:Fn:=(U8 K6).2
theorem A9I:∀ x,(B6 C3c [] A9G 27 [.tmp 2] (Tryz.f230.body.getD .skip) A1c A1d).fn x=A4G x.1:=by intro x;kernel_rfl
theorem A1e:B0 Tryz.prog 230 A9H:=sm MO A3C A5 Tryz.func230 (by kernel_rfl) (by decide) (A9I)
def B2A:Nat→Option Jn:=B3 [(15,⟨[.t 5 false [.own 11],.t 6 false [.int .i64],.r 11 109 (.pair .str (.pair (.int .i64) (.pair (.rs 5 (.int .u8)) .bool)))],lt 15 23 [.x 21,.x 33,.x 35],true⟩),(60,⟨[.t 5 false [.own 11],.t 6 false [.int .i64],.r 11 109 (.pair .str (.pair (.int .i64) (.pair (.rs 5 (.int .u8)) .bool)))],lt 15 23 [.x 21,.x 33,.x 35],false⟩),(120,⟨[],lt 15 13 [.x 21],false⟩)]
abbrev A3k:List PK:= [.val false (.rs 109 kUp) false,.val true (.pair .str (.pair (.int .i64) (.pair (.rs 5 (.int .u8)) .bool))) false]
abbrev A3l:List RK:= [.val false (.sl 109 (.pair .str (.pair (.int .i64) (.pair (.rs 5 (.int .u8)) .bool))))]
noncomputable def A3m(f:R2):Nat×Fn:=(305,⟨A3k,A3l,fun x=>f x.1 x.2.1⟩)
noncomputable def B2B:Fn:=(A3m N1).2
theorem B2C(f_s_l14CopyUps:L8):∀ x,(B6 C3c [U8 f_s_l14CopyUps] B2A 43 [.tmp 4] (Tryz.f305.body.getD .skip) A3k A3l).fn x=Z1 f_s_l14CopyUps x.1 x.2.1:=by intro x;kernel_rfl
theorem B2D:B0 Tryz.prog 305 B2B:=sm MO A3C (tc Tryz.call230 A1e A5) Tryz.func305 (by kernel_rfl) (by decide) (B2C K6)
def C41:Nat→Option Jn:=B3 [(4074,⟨[],lt 43 27 [],false⟩)]
abbrev B2E:List PK:= [.val false (.rs 109 kUp) false,.val true (.pair (.int .i64) (.pair (.int .i64) (.pair (.int .i64) (.pair .str (.pair (.int .i64) (.rs 5 (.int .u8))))))) false]
abbrev B2F:List RK:= [.val false (.rs 109 (.pair .str (.pair (.int .i64) (.pair (.rs 5 (.int .u8)) .bool)))),.val false .bool]
noncomputable def A5i(f:P8):Nat×Fn:=(281,⟨B2E,B2F,fun x=>f x.1 x.2.1⟩)
noncomputable def C42:Fn:=(A5i N2).2
theorem C43(f_s_l14At:R1)(f_s_l14CopyUps:L8)(f_s_l14Make_r98_0_r99_0:R2):∀ x,(B6 cfg [A5h f_s_l14At,A9F f_s_l14CopyUps,A3m f_s_l14Make_r98_0_r99_0] C41 114 [.tmp 4,.tmp 5] (Tryz.f281.body.getD .skip) B2E B2F).fn x=A5V f_s_l14At f_s_l14CopyUps f_s_l14Make_r98_0_r99_0 x.1 x.2.1:=by intro x;kernel_rfl
theorem B2G:B0 Tryz.prog 281 C42:=sm MO A6 (tc Tryz.call206 A8A (tc Tryz.call230 B6Y (tc Tryz.call305 B2D A5))) Tryz.func281 (by kernel_rfl) (by decide) (C43 O2 K6 N1)
def D0P:Nat→Option Jn:=B3 [(58,⟨[.t 5 false [.int .i64]],lt 11 58 [],false⟩)]
abbrev B6Z:List PK:= [.val false (.rs 109 kUp) false,.val false (.rs 109 kUp) false]
abbrev B6a:List RK:= [.val false .bool]
noncomputable def B6b(f:A4H):Nat×Fn:=(234,⟨B6Z,B6a,fun x=>f x.1 x.2.1⟩)
noncomputable def D0Q:Fn:=(B6b A1J).2
theorem D0R:∀ x,(B6 cfg [] D0P 69 [.tmp 4] (Tryz.f234.body.getD .skip) B6Z B6a).fn x=A8b x.1 x.2.1:=by intro x;kernel_rfl
theorem D0S:B0 Tryz.prog 234 D0Q:=sm MO A6 A5 Tryz.func234 (by kernel_rfl) (by decide) (D0R)
def C0f:Nat→Option Jn:=B3 [(7,⟨[.t 4 false [.ro 109 (.pair .str (.pair (.int .i64) (.pair (.rs 5 (.int .u8)) .bool)))]],lt 5 21 [.r 8,.t 27],false⟩),(58,⟨[.t 4 false [.ro 109 (.pair .str (.pair (.int .i64) (.pair (.rs 5 (.int .u8)) .bool)))],.t 5 false [.int .i64]],lt 6 20 [.r 8,.t 27],false⟩)]
abbrev A9J:List PK:= [.val false (.rs 194 A7a) false]
abbrev A9K:List RK:= [.val false (.rs 109 kUp),.val false .bool]
noncomputable def A3Q(f:P9):Nat×Fn:=(233,⟨A9J,A9K,fun x=>f x.1⟩)
noncomputable def C0g:Fn:=(A3Q M6).2
theorem C0h(f_s_l14One_r99_0:P8):∀ x,(B6 cfg [A5i f_s_l14One_r99_0] C0f 29 [.tmp 2,.tmp 3] (Tryz.f233.body.getD .skip) A9J A9K).fn x=A3J f_s_l14One_r99_0 x.1:=by intro x;kernel_rfl
theorem A9L:B0 Tryz.prog 233 C0g:=sm MO A6 (tc Tryz.call281 B2G A5) Tryz.func233 (by kernel_rfl) (by decide) (C0h N2)
def D8y:Nat→Option Jn:=B3 [(3,⟨[],lt 9 10 [],false⟩),(31,⟨[],lt 27 33 [],false⟩),(506,⟨[.t 6 false [.int .i64]],lt 62 26 [.b 7,.r 319493,.t 7,.t 8],false⟩)]
abbrev C50:List PK:= [.val true (.pair (.pair (.rs 9 .str) (.rs 9 .str)) (.pair (.int .i64) (.pair (.int .i64) (.rs 109 kUp)))) false]
abbrev C51:List RK:= [.val false .bool]
noncomputable def A3n(f:O6):Nat×Fn:=(159,⟨C50,C51,fun x=>f x.1⟩)
noncomputable def D8z:Fn:=(A3n G0).2
theorem D90(f_s_l1In:E5)(f_s_DiskOk:A1I)(f_s_ScanRecs:A1w)(f_s_FoldRecs_r99_0:P9)(f_s_l14SameUps:A4H)(f_s_GetRec:U2):∀ x,(B6 cfg [P7 f_s_l1In,B40 f_s_DiskOk,B42 f_s_ScanRecs,A3Q f_s_FoldRecs_r99_0,B6b f_s_l14SameUps,B41 f_s_GetRec] D8y 88 [.tmp 2] (Tryz.f159.body.getD .skip) C50 C51).fn x=A9f f_s_l1In f_s_DiskOk f_s_ScanRecs f_s_FoldRecs_r99_0 f_s_l14SameUps f_s_GetRec x.1:=by intro x;kernel_rfl
theorem A72:B0 Tryz.prog 159 D8z:=sm MO A6 (tc Tryz.call120 R0 (tc Tryz.call231 C0c (tc Tryz.call232 C22 (tc Tryz.call233 A9L (tc Tryz.call234 D0S (tc Tryz.call235 C0e A5)))))) Tryz.func159 (by kernel_rfl) (by decide) (D90 E3 R7 W6 M6 A1J K5)
def D6E:Nat→Option Jn:=B3 [(3,⟨[],lt 3 16 [],false⟩),(26,⟨[.t 3 false [.int .i64]],lt 4 15 [],false⟩)]
abbrev C23:List PK:= [.val true (.pair (.pair (.pair (.rs 9 .str) (.rs 9 .str)) (.pair (.int .i64) (.pair (.int .i64) (.rs 109 kUp)))) (.rs 130 A9)) false]
abbrev C24:List RK:= [.val false .bool]
noncomputable def C25(f:A7i):Nat×Fn:=(90,⟨C23,C24,fun x=>f x.1⟩)
noncomputable def D6F:Fn:=(C25 A4I).2
theorem D6G(f_s_RespOk:A1H)(f_s_StoreOk:O6):∀ x,(B6 cfg [C0b f_s_RespOk,A3n f_s_StoreOk] D6E 28 [.tmp 2] (Tryz.f90.body.getD .skip) C23 C24).fn x=B39 f_s_RespOk f_s_StoreOk x.1:=by intro x;kernel_rfl
theorem D6H:B0 Tryz.prog 90 D6F:=sm MO A6 (tc Tryz.call158 D08 (tc Tryz.call159 A72 A5)) Tryz.func90 (by kernel_rfl) (by decide) (D6G U1 G0)
abbrev C52:List PK:= [.val false (.int .i64) false]
abbrev C53:List RK:= [.val false (.int .i64)]
noncomputable def C54(f:A9g):Nat×Fn:=(161,⟨C52,C53,fun x=>f x.1⟩)
noncomputable def D91:Fn:=(C54 A9h).2
theorem D92:∀ x,(B6 cfg [] (B3 []) 9 [.tmp 2] (Tryz.f161.body.getD .skip) C52 C53).fn x=B5G x.1:=by intro x;kernel_rfl
theorem D93:B0 Tryz.prog 161 D91:=sm MO A6 A5 Tryz.func161 (by kernel_rfl) (by decide) (D92)
def E69:Nat→Option Jn:=B3 [(3,⟨[],lt 4 10 [],false⟩)]
abbrev D4T:List PK:= [.val true L5 false]
abbrev D4U:List RK:= [.val false .bool]
noncomputable def D4V(f:B1i):Nat×Fn:=(91,⟨D4T,D4U,fun x=>f x.1⟩)
noncomputable def E6A:Fn:=(D4V A5X).2
theorem E6B(f_s_l1In:E5)(f_s_l11Id:O1)(f_s_l11Most:A9g):∀ x,(B6 cfg [P7 f_s_l1In,A3j f_s_l11Id,C54 f_s_l11Most] E69 26 [.tmp 2] (Tryz.f91.body.getD .skip) D4T D4U).fn x=C3G f_s_l1In f_s_l11Id f_s_l11Most x.1:=by intro x;kernel_rfl
theorem E6C:B0 Tryz.prog 91 E6A:=sm MO A6 (tc Tryz.call120 R0 (tc Tryz.call160 A5g (tc Tryz.call161 D93 A5))) Tryz.func91 (by kernel_rfl) (by decide) (E6B E3 N0 A9h)
abbrev C26:List PK:= [.val true (.pair .str (.pair (.rs 5 (.int .u8)) E9)) false]
abbrev C27:List RK:= [.val false .bool]
noncomputable def A82(f:S5):Nat×Fn:=(215,⟨C26,C27,fun x=>f x.1⟩)
noncomputable def D6I:Fn:=(A82 H3).2
theorem D6J(f_s_l1In:E5)(f_s_l11Id:O1):∀ x,(B6 cfg [P7 f_s_l1In,A3j f_s_l11Id] (B3 []) 25 [.tmp 2] (Tryz.f215.body.getD .skip) C26 C27).fn x=B3A f_s_l1In f_s_l11Id x.1:=by intro x;kernel_rfl
theorem B43:B0 Tryz.prog 215 D6I:=sm MO A6 (tc Tryz.call120 R0 (tc Tryz.call160 A5g A5)) Tryz.func215 (by kernel_rfl) (by decide) (D6J E3 N0)
def D0T:Nat→Option Jn:=B3 [(7,⟨[],lt 9 30 [.t 4,.t 5],false⟩),(58,⟨[.t 4 false [.int .i64]],lt 9 30 [.t 5],false⟩),(7462,⟨[.t 5 false [.int .i64]],lt 21 18 [],false⟩)]
abbrev B6c:List PK:= [.val true (.pair (.pair (.pair (.pair (.rs 9 .str) (.rs 9 .str)) (.pair (.int .i64) (.pair (.int .i64) (.rs 109 kUp)))) (.rs 130 A9)) (.pair (.rs 79 B1) (.pair (.rs 4 .bool) (.pair (.rs 113 B7) (.pair (.rs 130 A9) (.rs 3 (.int .i64))))))) false]
abbrev B6d:List RK:= [.val false .bool]
noncomputable def B6e(f:A4J):Nat×Fn:=(141,⟨B6c,B6d,fun x=>f x.1⟩)
noncomputable def D0U:Fn:=(B6e U3).2
theorem D0V(f_s_ClientOk:S5):∀ x,(B6 cfg [A82 f_s_ClientOk] D0T 55 [.tmp 2] (Tryz.f141.body.getD .skip) B6c B6d).fn x=A4K f_s_ClientOk x.1:=by intro x;kernel_rfl
theorem D0W:B0 Tryz.prog 141 D0U:=sm MO A6 (tc Tryz.call215 B43 A5) Tryz.func141 (by kernel_rfl) (by decide) (D0V H3)
def E2u:Nat→Option Jn:=B3 [(26,⟨[.t 5 false [.int .i64]],lt 6 26 [],false⟩)]
abbrev D0X:List PK:= [.val true (.pair (.pair (.pair (.pair (.rs 9 .str) (.rs 9 .str)) (.pair (.int .i64) (.pair (.int .i64) (.rs 109 kUp)))) (.rs 130 A9)) (.pair (.rs 79 B1) (.pair (.rs 4 .bool) (.pair (.rs 113 B7) (.pair (.rs 130 A9) (.rs 3 (.int .i64))))))) false,.val false (.rs 130 A9) false]
abbrev D0Y:List RK:= [.val false .bool]
noncomputable def D0Z(f:B3C):Nat×Fn:=(142,⟨D0X,D0Y,fun x=>f x.1 x.2.1⟩)
noncomputable def E2v:Fn:=(D0Z A8c).2
theorem E2w(f_s_l1In:E5)(f_s_RespOk:A1H):∀ x,(B6 cfg [P7 f_s_l1In,C0b f_s_RespOk] E2u 32 [.tmp 4] (Tryz.f142.body.getD .skip) D0X D0Y).fn x=C03 f_s_l1In f_s_RespOk x.1 x.2.1:=by intro x;kernel_rfl
theorem E2x:B0 Tryz.prog 142 E2v:=sm MO A6 (tc Tryz.call120 R0 (tc Tryz.call158 D08 A5)) Tryz.func142 (by kernel_rfl) (by decide) (E2w E3 U1)
def D94:Nat→Option Jn:=B3 [(3,⟨[],lt 4 36 [],false⟩),(58,⟨[.t 3 false [.int .i64]],lt 40 29 [],false⟩)]
abbrev C55:List PK:= [.val true (.pair (.pair (.pair (.pair (.rs 9 .str) (.rs 9 .str)) (.pair (.int .i64) (.pair (.int .i64) (.rs 109 kUp)))) (.rs 130 A9)) (.pair (.rs 79 B1) (.pair (.rs 4 .bool) (.pair (.rs 113 B7) (.pair (.rs 130 A9) (.rs 3 (.int .i64))))))) false]
abbrev C56:List RK:= [.val false .bool]
noncomputable def C57(f:A9i):Nat×Fn:=(70,⟨C55,C56,fun x=>f x.1⟩)
noncomputable def D95:Fn:=(C57 A01).2
theorem D96(f_s_ServerOk:A7i)(f_s_ReqOk:B1i)(f_s_l1In:E5)(f_s_l18Clients:A4J)(f_s_l18Who:B3C):∀ x,(B6 cfg [C25 f_s_ServerOk,D4V f_s_ReqOk,P7 f_s_l1In,B6e f_s_l18Clients,D0Z f_s_l18Who] D94 69 [.tmp 2] (Tryz.f70.body.getD .skip) C55 C56).fn x=A9j f_s_ServerOk f_s_ReqOk f_s_l1In f_s_l18Clients f_s_l18Who x.1:=by intro x;kernel_rfl
theorem D97:B0 Tryz.prog 70 D95:=sm MO A6 (tc Tryz.call90 D6H (tc Tryz.call91 E6C (tc Tryz.call120 R0 (tc Tryz.call141 D0W (tc Tryz.call142 E2x A5))))) Tryz.func70 (by kernel_rfl) (by decide) (D96 A4I A5X E3 U3 A8c)
abbrev C58:List PK:= [.val true (.pair (.rs 9 .str) (.rs 9 .str)) false]
abbrev C59:List RK:= [.val true A0M]
noncomputable def A73(f:W8):Nat×Fn:=(229,⟨C58,C59,fun x=>f x.1⟩)
noncomputable def D98:Fn:=(A73 S9).2
theorem D99:∀ x,(B6 cfg [] (B3 []) 12 [.cell 2 26] (Tryz.f229.body.getD .skip) C58 C59).fn x=B5H x.1:=by intro x;kernel_rfl
theorem B0Q:B0 Tryz.prog 229 D98:=sm MO A6 A5 Tryz.func229 (by kernel_rfl) (by decide) (D99)
abbrev C5A:List PK:= [.val true (.pair (.pair (.rs 9 .str) (.rs 9 .str)) (.pair (.int .i64) (.pair (.int .i64) (.rs 109 kUp)))) false]
abbrev C5B:List RK:= [.val true A3z]
noncomputable def A74(f:N3):Nat×Fn:=(157,⟨C5A,C5B,fun x=>f x.1⟩)
noncomputable def D9A:Fn:=(A74 L3).2
theorem D9B(f_s_l12Copy:W8)(f_s_l14CopyUps:L8):∀ x,(B6 cfg [A73 f_s_l12Copy,A9F f_s_l14CopyUps] (B3 []) 14 [.cell 2 29] (Tryz.f157.body.getD .skip) C5A C5B).fn x=A9k f_s_l12Copy f_s_l14CopyUps x.1:=by intro x;kernel_rfl
theorem B0R:B0 Tryz.prog 157 D9A:=sm MO A6 (tc Tryz.call229 B0Q (tc Tryz.call230 B6Y A5)) Tryz.func157 (by kernel_rfl) (by decide) (D9B S9 K6)
abbrev C5C:List PK:= [.val true (.pair .str (.pair (.rs 5 (.int .u8)) E9)) false]
abbrev C5D:List RK:= [.val true B1]
noncomputable def B6f(f:A1K):Nat×Fn:=(193,⟨C5C,C5D,fun x=>f x.1⟩)
noncomputable def D9C:Fn:=(B6f W9).2
theorem D9D:∀ x,(B6 cfg [] (B3 []) 9 [.cell 2 79] (Tryz.f193.body.getD .skip) C5C C5D).fn x=B5J x.1:=by intro x;kernel_rfl
theorem C5E:B0 Tryz.prog 193 D9C:=sm MO A6 A5 Tryz.func193 (by kernel_rfl) (by decide) (D9D)
end Go.Proofs.YtpdcljonclhhpaaGreat.Ev
