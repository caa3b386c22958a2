/- Each function of the program does what its plain function says. -/
import Derived.Test.YtpdcljonclhhpaaGreatG2
set_option linter.unusedVariables false
set_option maxRecDepth 100000
namespace Go.Proofs.YtpdcljonclhhpaaGreat.Ev
noncomputable section
abbrev B94:List PK:= [.val true (.pair (.pair (.pair (.rs 9 .str) (.rs 9 .str)) (.pair (.int .i64) (.pair (.int .i64) (.rs 109 kUp)))) (.rs 130 B0)) false]
abbrev B95:List RK:= [.val true C4y]
def B2s(f:S5):Nat×Fn:=(89,⟨B94,B95,fun x=>f x.1⟩)
def C8K:Fn:=(B2s Q0).2
theorem C8L(f_s_l14Copy:I9):∀ x,(C5 cfg [B8n f_s_l14Copy] (B4 []) 11 [.cell 2 32] (Tryz.f89.body.getD .skip) B94 B95).fn x=A7b f_s_l14Copy x.1:=by intro x;kernel_rfl
theorem B96:B3 Tryz.prog 89 C8K:=sm MO B6 (tc Tryz.call157 C83 A6) Tryz.func89 (by kernel_rfl) (by decide) (C8L H7)
abbrev A5o:List PK:= [.val true (.pair (.pair (.rs 9 .str) (.rs 9 .str)) (.pair (.int .i64) (.pair (.int .i64) (.rs 109 kUp)))) false]
abbrev A5p:List RK:= [.val true (.pair V5 (.pair (.int .i64) (.pair (.int .i64) (.sl 109 (.pair .str (.pair (.int .i64) (.pair (.rs 5 (.int .u8)) .bool)))))))]
def A1o(f:A0q):Nat×Fn:=(273,⟨A5o,A5p,fun x=>f x.1⟩)
def B3Z:Fn:=(A1o Y5).2
theorem B3a(f_s_l14Copy:I9)(f_s_StoreOk:L6)(f_s_FlushDisk:A0o):∀ x,(C5 A1l [H4 f_s_l14Copy,A1S f_s_StoreOk,A8I f_s_FlushDisk] (B4 []) 13 [.cell 2 29] (Tryz.f273.body.getD .skip) A5o A5p).fn x=A4n f_s_l14Copy f_s_StoreOk f_s_FlushDisk x.1:=by intro x;kernel_rfl
theorem A5q:B3 Tryz.prog 273 B3Z:=sm MO H6 (tc Tryz.call157 K0 (tc Tryz.call159 A2w (tc Tryz.call252 B43 A6))) Tryz.func273 (by kernel_rfl) (by decide) (B3a H7 D3 Y2)
abbrev A32:List PK:= [.val true (.pair (.pair (.pair (.rs 9 .str) (.rs 9 .str)) (.pair (.int .i64) (.pair (.int .i64) (.rs 109 kUp)))) (.rs 130 B0)) false]
abbrev A33:List RK:= [.val true (.pair (.pair V5 (.pair (.int .i64) (.pair (.int .i64) (.sl 109 (.pair .str (.pair (.int .i64) (.pair (.rs 5 (.int .u8)) .bool))))))) (.sl 130 B0))]
def A02(f:S5):Nat×Fn:=(89,⟨A32,A33,fun x=>f x.1⟩)
def A98:Fn:=(A02 Q0).2
theorem A99(f_s_l14Copy:I9):∀ x,(C5 A1l [H4 f_s_l14Copy] (B4 []) 11 [.cell 2 32] (Tryz.f89.body.getD .skip) A32 A33).fn x=A7b f_s_l14Copy x.1:=by intro x;kernel_rfl
theorem A34:B3 Tryz.prog 89 A98:=sm MO H6 (tc Tryz.call157 K0 A6) Tryz.func89 (by kernel_rfl) (by decide) (A99 H7)
abbrev A7w:List PK:= [.val true (.pair (.pair (.pair (.rs 9 .str) (.rs 9 .str)) (.pair (.int .i64) (.pair (.int .i64) (.rs 109 kUp)))) (.rs 130 B0)) false]
abbrev A7x:List RK:= [.val true (.pair (.pair V5 (.pair (.int .i64) (.pair (.int .i64) (.sl 109 (.pair .str (.pair (.int .i64) (.pair (.rs 5 (.int .u8)) .bool))))))) (.sl 130 B0)),.val false (.sl 130 B0)]
def A7y(f:X7):Nat×Fn:=(217,⟨A7w,A7x,fun x=>f x.1⟩)
def B6f:Fn:=(A7y T1).2
theorem B6g(f_s_l15Copy:S5)(f_s_ServerOk:R7)(f_s_SyncStore:A0q):∀ x,(C5 A1l [A02 f_s_l15Copy,A3c f_s_ServerOk,A1o f_s_SyncStore] (B4 []) 23 [.cell 2 32,.tmp 3] (Tryz.f217.body.getD .skip) A7w A7x).fn x=A3S f_s_l15Copy f_s_ServerOk f_s_SyncStore x.1:=by intro x;kernel_rfl
theorem B6h:B3 Tryz.prog 217 B6f:=sm MO H6 (tc Tryz.call89 A34 (tc Tryz.call90 A68 (tc Tryz.call273 A5q A6))) Tryz.func217 (by kernel_rfl) (by decide) (B6g Q0 J3 Y5)
abbrev A0z:List PK:= [.val true (.pair (.pair V5 (.pair (.int .i64) (.pair (.int .i64) (.sl 109 (.pair .str (.pair (.int .i64) (.pair (.rs 5 (.int .u8)) .bool))))))) (.sl 130 B0)) true,.val false (.rs 4 .bool) false]
abbrev A10:List RK:= [.val true (.pair (.pair V5 (.pair (.int .i64) (.pair (.int .i64) (.sl 109 (.pair .str (.pair (.int .i64) (.pair (.rs 5 (.int .u8)) .bool))))))) (.sl 130 B0)),.val false .bool]
def A11(f:J4):Nat×Fn:=(218,⟨A0z,A10,fun x=>f x.1 x.2.1⟩)
def A6B:Fn:=(A11 G6).2
theorem A6C(f_s_l15Copy:S5)(f_s_ServerOk:R7)(f_s_OpenStore_r98_0:J0)(f_s_FallDisk:X6):∀ x,(C5 A1l [B2s f_s_l15Copy,A3c f_s_ServerOk,Z3 f_s_OpenStore_r98_0,A6A f_s_FallDisk] (B4 []) 28 [.cell 4 32,.tmp 5] (Tryz.f218.body.getD .skip) A0z A10).fn x=U2 f_s_l15Copy f_s_ServerOk f_s_OpenStore_r98_0 f_s_FallDisk x.1 x.2.1:=by intro x;kernel_rfl
theorem A6D:B3 Tryz.prog 218 A6B:=sm MO H6 (tc Tryz.call89 B96 (tc Tryz.call90 A68 (tc Tryz.call257 A1m (tc Tryz.call258 B0Y A6)))) Tryz.func218 (by kernel_rfl) (by decide) (A6C Q0 J3 E5 R8)
def B9L:Nat→Option Jn:=B4 [(7,⟨[],lt 15 14 [],false⟩)]
abbrev B0w:List PK:= [.val true (.pair (.pair (.pair (.rs 9 .str) (.rs 9 .str)) (.pair (.int .i64) (.pair (.int .i64) (.rs 109 kUp)))) (.rs 130 B0)) false,.val false (.int .i64) false,.val true W6 false,.val false (.rs 5 (.int .u8)) false]
abbrev B0x:List RK:= [.val true (.pair (.pair V5 (.pair (.int .i64) (.pair (.int .i64) (.sl 109 (.pair .str (.pair (.int .i64) (.pair (.rs 5 (.int .u8)) .bool))))))) (.sl 130 B0)),.val false .bool]
def B0y(f:A0Y):Nat×Fn:=(26,⟨B0w,B0x,fun x=>f x.1 x.2.1 x.2.2.1 x.2.2.2.1⟩)
def B9M:Fn:=(B0y W9).2
theorem B9N(f_s_l15Copy:S5)(f_s_ServerOk:R7)(f_s_ReqOk:A4J)(f_s_l15Does_r94_0_r98_0:T0):∀ x,(C5 A1l [A02 f_s_l15Copy,A3c f_s_ServerOk,B7O f_s_ReqOk,A31 f_s_l15Does_r94_0_r98_0] B9L 49 [.cell 8 32,.tmp 9] (Tryz.f26.body.getD .skip) B0w B0x).fn x=A5R f_s_l15Copy f_s_ServerOk f_s_ReqOk f_s_l15Does_r94_0_r98_0 x.1 x.2.1 x.2.2.1 x.2.2.2.1:=by intro x;kernel_rfl
theorem B9O:B3 Tryz.prog 26 B9M:=sm MO H6 (tc Tryz.call89 A34 (tc Tryz.call90 A68 (tc Tryz.call91 C4a (tc Tryz.call92 A97 A6)))) Tryz.func26 (by kernel_rfl) (by decide) (B9N Q0 J3 A2m O0)
def C8M:Nat→Option Jn:=B4 [(7,⟨[.b 3 [.own 40960,.own 40961,.int .i64,.int .i64,.own 40964,.own 40965,.own 100000000,.own 13,.nil,.own 17,.own 21],.r 13 4 .bool,.r 17 130 B0,.r 21 3 (.int .i64),.r 40960 9 .str,.r 40961 9 .str,.r 40964 109 kUp,.r 40965 130 B0,.r 100000000 79 A9],lt 23 18 [.r 38,.r 39,.r 155649,.t 4],true⟩),(58,⟨[.t 4 false [.int .i64],.b 3 [.own 40960,.own 40961,.int .i64,.int .i64,.own 40964,.own 40965,.own 100000000,.own 13,.nil,.own 17,.own 21],.r 13 4 .bool,.r 17 130 B0,.r 21 3 (.int .i64),.r 40960 9 .str,.r 40961 9 .str,.r 40964 109 kUp,.r 40965 130 B0,.r 100000000 79 A9],lt 23 18 [.r 38,.r 39,.r 155649],false⟩),(122,⟨[.t 5 false [.int .i64],.b 3 [.own 40960,.own 40961,.int .i64,.int .i64,.own 40964,.own 40965,.own 100000000,.own 13,.own 100002001,.own 17,.own 21],.r 13 4 .bool,.r 17 130 B0,.r 21 3 (.int .i64),.r 40960 9 .str,.r 40961 9 .str,.r 40964 109 kUp,.r 40965 130 B0,.r 100000000 79 A9,.r 100002001 113 H0],lt 41 23 [.b 6,.r 53,.r 56,.r 61,.r 62,.t 6],false⟩)]
abbrev B97:List PK:= [.val true (.pair (.pair (.pair (.pair (.rs 9 .str) (.rs 9 .str)) (.pair (.int .i64) (.pair (.int .i64) (.rs 109 kUp)))) (.rs 130 B0)) (.pair (.rs 79 A9) (.pair (.rs 4 .bool) (.pair (.rs 113 H0) (.pair (.rs 130 B0) (.rs 3 (.int .i64))))))) false]
abbrev B98:List RK:= [.val true A2O]
def B99(f:A7c):Nat×Fn:=(109,⟨B97,B98,fun x=>f x.1⟩)
def C8N:Fn:=(B99 A59).2
theorem C8O(f_s_l15Copy:S5)(f_s_l17Copy:V0):∀ x,(C5 cfg [B2s f_s_l15Copy,A7v f_s_l17Copy] C8M 65 [.cell 2 38] (Tryz.f109.body.getD .skip) B97 B98).fn x=B28 f_s_l15Copy f_s_l17Copy x.1:=by intro x;kernel_rfl
theorem C8P:B3 Tryz.prog 109 C8N:=sm MO B6 (tc Tryz.call89 B96 (tc Tryz.call193 B2l A6)) Tryz.func109 (by kernel_rfl) (by decide) (C8O Q0 L7)
def B9P:Nat→Option Jn:=B4 [(7,⟨[.t 3 false [.int .i64]],lt 8 20 [.t 4],true⟩),(58,⟨[.t 3 false [.int .i64],.t 4 false [.int .i64]],lt 8 20 [],false⟩),(116,⟨[],lt 8 8 [],false⟩)]
abbrev B0z:List PK:= [.val false (.rs 5 (.int .u8)) false]
abbrev B10:List RK:= [.new (.pair (.rs 5 (.int .u8)) E7)]
def B11(f:B3D):Nat×Fn:=(67,⟨B0z,B10,fun x=>f x.1⟩)
def B9Q:Fn:=(B11 A8j).2
theorem B9R:∀ x,(C5 cfg [] B9P 32 [.tmp 2] (Tryz.f67.body.getD .skip) B0z B10).fn x=B70 x.1:=by intro x;kernel_rfl
theorem B9S:B3 Tryz.prog 67 B9Q:=sm MO B6 A6 Tryz.func67 (by kernel_rfl) (by decide) (B9R)
abbrev B12:List PK:= [.ptr (.pair (.rs 5 (.int .u8)) E7)]
abbrev B13:List RK:= [.val false (.int .i64)]
def A5Y(f:A2T):Nat×Fn:=(153,⟨B12,B13,fun x=>f x.1⟩)
def B9T:Fn:=(A5Y A1G).2
theorem B9U:∀ x,(C5 cfg [] (B4 []) 58 [.tmp 2] (Tryz.f153.body.getD .skip) B12 B13).fn x=B4h x.1:=by intro x;kernel_rfl
theorem B14:B3 Tryz.prog 153 B9T:=sm MO B6 A6 Tryz.func153 (by kernel_rfl) (by decide) (B9U)
abbrev A9A:List PK:= [.ptr (.pair (.rs 5 (.int .u8)) E7),.val false (.int .i64) false]
abbrev A9B:List RK:= [.val false (.int .i64)]
def E0(f:C4):Nat×Fn:=(86,⟨A9A,A9B,fun x=>f x.1 x.2.1⟩)
def B7b:Fn:=(E0 C1).2
theorem B7c(f_s_l1Byte:A2T):∀ x,(C5 cfg [A5Y f_s_l1Byte] (B4 []) 31 [.tmp 4] (Tryz.f86.body.getD .skip) A9A A9B).fn x=A7U f_s_l1Byte x.1 x.2.1:=by intro x;kernel_rfl
theorem E4:B3 Tryz.prog 86 B7b:=sm MO B6 (tc Tryz.call153 B14 A6) Tryz.func86 (by kernel_rfl) (by decide) (B7c A1G)
abbrev B2t:List PK:= [.ptr (.pair (.rs 5 (.int .u8)) E7),.val false (.rs 3 (.int .i64)) false]
abbrev B2u:List RK:= [.val false (.int .i64)]
def I3(f:F8):Nat×Fn:=(115,⟨B2t,B2u,fun x=>f x.1 x.2.1⟩)
def C2p:Fn:=(I3 F2).2
theorem C2q(f_s_l1Below:C4):∀ x,(C5 cfg [E0 f_s_l1Below] (B4 []) 12 [.tmp 4] (Tryz.f115.body.getD .skip) B2t B2u).fn x=B71 f_s_l1Below x.1 x.2.1:=by intro x;kernel_rfl
theorem K7:B3 Tryz.prog 115 C2p:=sm MO B6 (tc Tryz.call86 E4 A6) Tryz.func115 (by kernel_rfl) (by decide) (C2q C1)
def B7d:Nat→Option Jn:=B4 [(58,⟨[.t 5 false [.own 100000000],.t 6 false [.int .i64],.b 1000 [.ro 5 (.int .u8),.int .i64,.int .i64],.r 100000000 5 (.int .u8)],lt 8 11 [.r 7,.r 17,.r 18],false⟩)]
abbrev A9C:List PK:= [.ptr (.pair (.rs 5 (.int .u8)) E7),.val false (.int .i64) false]
abbrev A9D:List RK:= [.val false (.sl 5 (.int .u8))]
def A1i(f:L2):Nat×Fn:=(139,⟨A9C,A9D,fun x=>f x.1 x.2.1⟩)
def B7e:Fn:=(A1i F3).2
theorem B7f(f_s_l1Byte:A2T):∀ x,(C5 cfg [A5Y f_s_l1Byte] B7d 20 [.tmp 4] (Tryz.f139.body.getD .skip) A9C A9D).fn x=A4P f_s_l1Byte x.1 x.2.1:=by intro x;kernel_rfl
theorem A4b:B3 Tryz.prog 139 B7e:=sm MO B6 (tc Tryz.call153 B14 A6) Tryz.func139 (by kernel_rfl) (by decide) (B7f A1G)
abbrev B15:List PK:= [.ptr (.pair (.rs 5 (.int .u8)) E7),.val false (.int .i64) false]
abbrev B16:List RK:= [.val false .bool]
def X0(f:O8):Nat×Fn:=(84,⟨B15,B16,fun x=>f x.1 x.2.1⟩)
def B9V:Fn:=(X0 L4).2
theorem B9W(f_s_l1Below:C4):∀ x,(C5 cfg [E0 f_s_l1Below] (B4 []) 9 [.tmp 4] (Tryz.f84.body.getD .skip) B15 B16).fn x=B4i f_s_l1Below x.1 x.2.1:=by intro x;kernel_rfl
theorem A0e:B3 Tryz.prog 84 B9V:=sm MO B6 (tc Tryz.call86 E4 A6) Tryz.func84 (by kernel_rfl) (by decide) (B9W C1)
def A9E:Nat→Option Jn:=B4 [(3,⟨[.b 1000 [.ro 5 (.int .u8),.int .i64,.int .i64]],lt 34 3 (lt 30 3 (lt 19 4 (lt 7 6 [.t 44,.t 45]))),false⟩),(26,⟨[.t 9 false [.bool]],lt 10 3 [],true⟩),(107,⟨[.t 19 false [.bool]],lt 20 3 [],true⟩),(122,⟨[.t 6 false [.int .i64],.b 5 [.int .i64,.int .i64,.own 100005000],.b 1000 [.ro 5 (.int .u8),.int .i64,.int .i64],.r 100005000 4 .bool],lt 53 11 [.r 61,.r 62],false⟩),(431,⟨[.t 30 false [.bool]],[.t 31,.t 32],true⟩),(1727,⟨[.t 34 false [.bool]],[.t 35,.t 36],true⟩)]
abbrev A35:List PK:= [.ptr (.pair (.rs 5 (.int .u8)) E7),.val true (.pair (.pair (.pair (.pair (.rs 9 .str) (.rs 9 .str)) (.pair (.int .i64) (.pair (.int .i64) (.rs 109 (.pair .str (.pair (.int .i64) (.pair (.rs 5 (.int .u8)) .bool))))))) (.sl 130 B0)) (.pair (.sl 79 (.pair .str (.pair (.rs 5 (.int .u8)) E7))) (.pair (.sl 4 .bool) (.pair (.sl 113 (.pair (.int .i64) (.pair W6 (.rs 5 (.int .u8))))) (.pair (.sl 130 B0) (.sl 3 (.int .i64))))))) true]
abbrev A36:List RK:= [.val true C92]
def A37(f:O1):Nat×Fn:=(110,⟨A35,A36,fun x=>f x.1 x.2.1⟩)
def A9F:Fn:=(A37 J9).2
theorem A9G(f_s_l1Once:O8)(f_s_l1Below:C4):∀ x,(C5 cfg [X0 f_s_l1Once,E0 f_s_l1Below] A9E 65 [.cell 4 77] (Tryz.f110.body.getD .skip) A35 A36).fn x=Z8 f_s_l1Once f_s_l1Below x.1 x.2.1:=by intro x;kernel_rfl
theorem A9H:B3 Tryz.prog 110 A9F:=sm MO B6 (tc Tryz.call84 A0e (tc Tryz.call86 E4 A6)) Tryz.func110 (by kernel_rfl) (by decide) (A9G L4 C1)
def B0Z:Nat→Option Jn:=B4 [(15,⟨[.t 5 false [.own 100000000],.b 1000 [.ro 5 (.int .u8),.int .i64,.int .i64],.r 100000000 79 A9],lt 12 21 [.r 10,.r 13,.r 27,.r 31,.r 32,.r 122880,.r 126977,.t 7,.x 23],true⟩),(122,⟨[.t 5 false [.own 100000000],.t 7 false [.int .i64],.b 1000 [.ro 5 (.int .u8),.int .i64,.int .i64],.r 100000000 79 A9],lt 15 18 [.r 10,.r 27,.r 31,.r 32,.r 122880,.r 126977,.x 23],false⟩),(506,⟨[.t 9 false [.int .i64],.b 8 [.ro 9 .str,.ro 9 .str,.int .i64,.int .i64,.ro 109 (.pair .str (.pair (.int .i64) (.pair (.rs 5 (.int .u8)) .bool))),.own 100002001,.own 100002002,.own 100002003,.own 100002004,.own 100002005,.own 100002006],.b 1000 [.ro 5 (.int .u8),.int .i64,.int .i64],.r 100002001 130 B0,.r 100002002 79 (.pair .str (.pair (.rs 5 (.int .u8)) E7)),.r 100002003 4 .bool,.r 100002004 113 (.pair (.int .i64) (.pair W6 (.rs 5 (.int .u8)))),.r 100002005 130 B0,.r 100002006 3 (.int .i64)],lt 38 8 [.r 143360,.r 143361,.r 143364,.r 143365,.r 143366,.r 143367,.r 143368,.r 143369,.r 143370,.r 184322,.r 190469,.r 190470,.r 190471,.r 190472,.r 190473,.r 190474,.t 34],false⟩)]
abbrev A3e:List PK:= [.ptr (.pair (.rs 5 (.int .u8)) E7),.val false (.int .i64) false]
abbrev A3f:List RK:= [.val true (.pair (.pair (.pair (.pair (.rs 9 .str) (.rs 9 .str)) (.pair (.int .i64) (.pair (.int .i64) (.rs 109 kUp)))) (.sl 130 B0)) (.pair (.sl 79 (.pair .str (.pair (.rs 5 (.int .u8)) E7))) (.pair (.sl 4 .bool) (.pair (.sl 113 (.pair (.int .i64) (.pair W6 (.rs 5 (.int .u8))))) (.pair (.sl 130 B0) (.sl 3 (.int .i64)))))))]
def A3g(f:U3):Nat×Fn:=(68,⟨A3e,A3f,fun x=>f x.1 x.2.1⟩)
def B0a:Fn:=(A3g O9).2
theorem B0b(f_s_l1Below:C4)(f_s_l18Event_r0_0_r95_1:O1)(f_s_l18Do_W:A58)(f_s_l1Int:F8)(f_s_ClientNew:A1w)(f_s_l1Bytes_r0_0:L2)(f_s_WorldNew_r98_0_r99_0:R9):∀ x,(C5 cfg [E0 f_s_l1Below,A37 f_s_l18Event_r0_0_r95_1,B93 f_s_l18Do_W,I3 f_s_l1Int,B4C f_s_ClientNew,A1i f_s_l1Bytes_r0_0,A2A f_s_WorldNew_r98_0_r99_0] B0Z 47 [.cell 4 38] (Tryz.f68.body.getD .skip) A3e A3f).fn x=A0O f_s_l1Below f_s_l18Event_r0_0_r95_1 f_s_l18Do_W f_s_l1Int f_s_ClientNew f_s_l1Bytes_r0_0 f_s_WorldNew_r98_0_r99_0 x.1 x.2.1:=by intro x;kernel_rfl
theorem B0c:B3 Tryz.prog 68 B0a:=sm MO B6 (tc Tryz.call86 E4 (tc Tryz.call110 A9H (tc Tryz.call111 C8J (tc Tryz.call115 K7 (tc Tryz.call138 C3Z (tc Tryz.call139 A4b (tc Tryz.call140 A8Q A6))))))) Tryz.func68 (by kernel_rfl) (by decide) (B0b C1 J9 A2q F2 Y3 F3 M4)
def B7g:Nat→Option Jn:=B4 [(58,⟨[.t 3 false [.own 100000000],.t 4 false [.int .i64],.b 1000 [.ro 5 (.int .u8),.int .i64,.int .i64],.r 100000000 4 .bool],lt 8 9 [.r 5,.r 15,.r 16],false⟩)]
abbrev A9I:List PK:= [.ptr (.pair (.rs 5 (.int .u8)) E7)]
abbrev A9J:List RK:= [.val false (.sl 4 .bool)]
def A4c(f:R3):Nat×Fn:=(219,⟨A9I,A9J,fun x=>f x.1⟩)
def B7h:Fn:=(A4c O2).2
theorem B7i(f_s_l1Once:O8)(f_s_l1Below:C4):∀ x,(C5 cfg [X0 f_s_l1Once,E0 f_s_l1Below] B7g 18 [.tmp 2] (Tryz.f219.body.getD .skip) A9I A9J).fn x=A4Q f_s_l1Once f_s_l1Below x.1:=by intro x;kernel_rfl
theorem A9K:B3 Tryz.prog 219 B7h:=sm MO B6 (tc Tryz.call84 A0e (tc Tryz.call86 E4 A6)) Tryz.func219 (by kernel_rfl) (by decide) (B7i L4 C1)
abbrev B2v:List PK:= [.ptr (.pair (.rs 5 (.int .u8)) E7),.val false (.rs 9 .str) false]
abbrev B2w:List RK:= [.val false .str]
def A1T(f:A0p):Nat×Fn:=(151,⟨B2v,B2w,fun x=>f x.1 x.2.1⟩)
def C2r:Fn:=(A1T Z7).2
theorem C2s(f_s_l1Below:C4):∀ x,(C5 cfg [E0 f_s_l1Below] (B4 []) 12 [.tmp 4] (Tryz.f151.body.getD .skip) B2v B2w).fn x=B72 f_s_l1Below x.1 x.2.1:=by intro x;kernel_rfl
theorem A3h:B3 Tryz.prog 151 C2r:=sm MO B6 (tc Tryz.call86 E4 A6) Tryz.func151 (by kernel_rfl) (by decide) (C2s C1)
abbrev B17:List PK:= [.ptr (.pair (.rs 5 (.int .u8)) E7)]
abbrev B18:List RK:= [.val true W6]
def A5Z(f:A4O):Nat×Fn:=(150,⟨B17,B18,fun x=>f x.1⟩)
def B9X:Fn:=(A5Z A0N).2
theorem B9Y(f_s_l1Once:O8)(f_s_l1Below:C4)(f_s_l1Int:F8)(f_s_l1Str:A0p)(f_s_l11Most:A2l):∀ x,(C5 cfg [X0 f_s_l1Once,E0 f_s_l1Below,I3 f_s_l1Int,A1T f_s_l1Str,B2f f_s_l11Most] (B4 []) 28 [.cell 2 43] (Tryz.f150.body.getD .skip) B17 B18).fn x=B09 f_s_l1Once f_s_l1Below f_s_l1Int f_s_l1Str f_s_l11Most x.1:=by intro x;kernel_rfl
theorem B19:B3 Tryz.prog 150 B9X:=sm MO B6 (tc Tryz.call84 A0e (tc Tryz.call86 E4 (tc Tryz.call115 K7 (tc Tryz.call151 A3h (tc Tryz.call161 B8Z A6))))) Tryz.func150 (by kernel_rfl) (by decide) (B9Y L4 C1 F2 Z7 U7)
def B9Z:Nat→Option Jn:=B4 [(32443,⟨[.t 61 false [.bool],.b 1000 [.ro 5 (.int .u8),.int .i64,.int .i64]],lt 52 9 [],true⟩)]
abbrev B1A:List PK:= [.ptr (.pair (.rs 5 (.int .u8)) E7),.val true (.pair (.pair (.rs 9 .str) (.rs 9 .str)) (.pair (.int .i64) (.pair (.int .i64) (.rs 109 kUp)))) false]
abbrev B1B:List RK:= [.val true W6,.val false (.sl 5 (.int .u8))]
def B1C(f:A0Z):Nat×Fn:=(83,⟨B1A,B1B,fun x=>f x.1 x.2.1⟩)
def B9a:Fn:=(B1C T8).2
theorem B9b(f_s_l1Once:O8)(f_s_UpAt:O7)(f_s_l1Int:F8)(f_s_l1Bytes_r0_0:L2)(f_s_l11Req:A4O)(f_s_l1Str:A0p)(f_s_Crc:A2H):∀ x,(C5 cfg [X0 f_s_l1Once,A5G f_s_UpAt,I3 f_s_l1Int,A1i f_s_l1Bytes_r0_0,A5Z f_s_l11Req,A1T f_s_l1Str,B3M f_s_Crc] B9Z 84 [.cell 4 43,.tmp 5] (Tryz.f83.body.getD .skip) B1A B1B).fn x=A5S f_s_l1Once f_s_UpAt f_s_l1Int f_s_l1Bytes_r0_0 f_s_l11Req f_s_l1Str f_s_Crc x.1 x.2.1:=by intro x;kernel_rfl
theorem B9c:B3 Tryz.prog 83 B9a:=sm MO B6 (tc Tryz.call84 A0e (tc Tryz.call113 A74 (tc Tryz.call115 K7 (tc Tryz.call139 A4b (tc Tryz.call150 B19 (tc Tryz.call151 A3h (tc Tryz.call152 B6J A6))))))) Tryz.func83 (by kernel_rfl) (by decide) (B9b L4 I1 F2 F3 A0N Z7 A1Z)
def B0d:Nat→Option Jn:=B4 [(58,⟨[.t 6 false [.int .i64],.b 5 [.own 100000000,.own 100000001,.int .i64,.int .i64,.own 100000002,.own 100000003],.b 1000 [.ro 5 (.int .u8),.int .i64,.int .i64],.r 100000000 9 .str,.r 100000001 9 .str,.r 100000002 109 (.pair .str (.pair (.int .i64) (.pair (.rs 5 (.int .u8)) .bool))),.r 100000003 130 B0],lt 18 40 (lt 7 4 [.b 7,.b 9,.r 61440,.r 61441,.r 61444,.r 61445,.r 118912,.r 155648,.r 155649,.r 155652,.r 155653,.r 184320,.r 184321,.r 184324,.r 184325,.r 184448,.r 217088,.r 221184,.r 221185,.r 221188,.r 221189,.t 14]),false⟩)]
abbrev A3i:List PK:= [.ptr (.pair (.rs 5 (.int .u8)) E7),.val false (.int .i64) false]
abbrev A3j:List RK:= [.val true (.pair (.pair V5 (.pair (.int .i64) (.pair (.int .i64) (.sl 109 (.pair .str (.pair (.int .i64) (.pair (.rs 5 (.int .u8)) .bool))))))) (.sl 130 B0))]
def A3k(f:U4):Nat×Fn:=(148,⟨A3i,A3j,fun x=>f x.1 x.2.1⟩)
def B0e:Fn:=(A3k P0).2
theorem B0f(f_s_Serve_r98_0:A0Y)(f_s_l15Req_r0_0:A0Z)(f_s_l1Below:C4)(f_s_l1Int:F8)(f_s_ServerNew_r98_0:P6)(f_s_SyncAll_r98_0:X7)(f_s_CrashServer_r92_0_r98_0:J4)(f_s_l12Kept_r0_0:R3):∀ x,(C5 A1l [B0y f_s_Serve_r98_0,B1C f_s_l15Req_r0_0,E0 f_s_l1Below,I3 f_s_l1Int,A1n f_s_ServerNew_r98_0,A7y f_s_SyncAll_r98_0,A11 f_s_CrashServer_r92_0_r98_0,A4c f_s_l12Kept_r0_0] B0d 59 [.cell 4 32] (Tryz.f148.body.getD .skip) A3i A3j).fn x=A0P f_s_Serve_r98_0 f_s_l15Req_r0_0 f_s_l1Below f_s_l1Int f_s_ServerNew_r98_0 f_s_SyncAll_r98_0 f_s_CrashServer_r92_0_r98_0 f_s_l12Kept_r0_0 x.1 x.2.1:=by intro x;kernel_rfl
theorem B0g:B3 Tryz.prog 148 B0e:=sm MO H6 (tc Tryz.call26 B9O (tc Tryz.call83 B9c (tc Tryz.call86 E4 (tc Tryz.call115 K7 (tc Tryz.call216 A5n (tc Tryz.call217 B6h (tc Tryz.call218 A6D (tc Tryz.call219 A9K A6)))))))) Tryz.func148 (by kernel_rfl) (by decide) (B0f W9 T8 C1 F2 L5 T1 G6 O2)
def A5a:Nat→Option Jn:=B4 [(58,⟨[.t 29 false [.bool]],[.t 30,.t 31],true⟩),(235,⟨[.t 41 false [.bool]],lt 42 4 [],true⟩),(3771,⟨[.t 8 false [.int .i64],.b 1000 [.ro 5 (.int .u8),.int .i64,.int .i64]],lt 55 22 [],true⟩),(15103,⟨[.t 116 false [.bool]],[.t 117,.t 118],true⟩)]
abbrev A0f:List PK:= [.ptr (.pair (.rs 5 (.int .u8)) E7),.val true (.pair V5 (.pair (.int .i64) (.pair (.int .i64) (.sl 109 (.pair .str (.pair (.int .i64) (.pair (.rs 5 (.int .u8)) .bool))))))) false]
abbrev A0g:List RK:= [.val true (.pair V5 (.pair (.int .i64) (.pair (.int .i64) (.sl 109 (.pair .str (.pair (.int .i64) (.pair (.rs 5 (.int .u8)) .bool)))))))]
def A0h(f:I2):Nat×Fn:=(274,⟨A0f,A0g,fun x=>f x.1 x.2.1⟩)
def A5b:Fn:=(A0h F9).2
theorem A5c(f_s_l1Once:O8)(f_s_l1Below:C4)(f_s_UpAt:O7)(f_s_l1Int:F8)(f_s_l1Bytes_r0_0:L2)(f_s_l1Str:A0p)(f_s_Crc:A2H)(f_s_MakeUp_r98_0:N7)(f_s_PutUp_r98_0:P9)(f_s_DoneUp_r98_0:N8)(f_s_DropUp_r98_0:N9)(f_s_l12Kept_r0_0:R3)(f_s_OpenStore_r98_0:J0)(f_s_FallDisk:X6)(f_s_SyncStore:A0q):∀ x,(C5 A1l [X0 f_s_l1Once,E0 f_s_l1Below,A5G f_s_UpAt,I3 f_s_l1Int,A1i f_s_l1Bytes_r0_0,A1T f_s_l1Str,B3M f_s_Crc,A1f f_s_MakeUp_r98_0,A2M f_s_PutUp_r98_0,A1g f_s_DoneUp_r98_0,A1h f_s_DropUp_r98_0,A4c f_s_l12Kept_r0_0,Z3 f_s_OpenStore_r98_0,A6A f_s_FallDisk,A1o f_s_SyncStore] A5a 122 [.cell 4 29] (Tryz.f274.body.getD .skip) A0f A0g).fn x=T9 f_s_l1Once f_s_l1Below f_s_UpAt f_s_l1Int f_s_l1Bytes_r0_0 f_s_l1Str f_s_Crc f_s_MakeUp_r98_0 f_s_PutUp_r98_0 f_s_DoneUp_r98_0 f_s_DropUp_r98_0 f_s_l12Kept_r0_0 f_s_OpenStore_r98_0 f_s_FallDisk f_s_SyncStore x.1 x.2.1:=by intro x;kernel_rfl
theorem A5d:B3 Tryz.prog 274 A5b:=sm MO H6 (tc Tryz.call84 A0e (tc Tryz.call86 E4 (tc Tryz.call113 A74 (tc Tryz.call115 K7 (tc Tryz.call139 A4b (tc Tryz.call151 A3h (tc Tryz.call152 B6J (tc Tryz.call162 A4Y (tc Tryz.call163 A5X (tc Tryz.call164 A4Z (tc Tryz.call165 A4a (tc Tryz.call219 A9K (tc Tryz.call257 A1m (tc Tryz.call258 B0Y (tc Tryz.call273 A5q A6))))))))))))))) Tryz.func274 (by kernel_rfl) (by decide) (A5c L4 C1 I1 F2 F3 Z7 A1Z K9 M6 L0 L1 O2 E5 R8 Y5)
def B0h:Nat→Option Jn:=B4 [(58,⟨[.t 6 false [.int .i64],.b 5 [.own 100000000,.own 100000001,.int .i64,.int .i64,.own 100000002],.b 1000 [.ro 5 (.int .u8),.int .i64,.int .i64],.r 100000000 9 .str,.r 100000001 9 .str,.r 100000002 109 (.pair .str (.pair (.int .i64) (.pair (.rs 5 (.int .u8)) .bool)))],lt 14 7 [.r 45056,.r 45057,.r 45060,.r 86016,.r 86017,.r 86020],false⟩)]
abbrev A3l:List PK:= [.ptr (.pair (.rs 5 (.int .u8)) E7),.val false (.int .i64) false]
abbrev A3m:List RK:= [.val true (.pair V5 (.pair (.int .i64) (.pair (.int .i64) (.sl 109 (.pair .str (.pair (.int .i64) (.pair (.rs 5 (.int .u8)) .bool)))))))]
def A3n(f:U5):Nat×Fn:=(220,⟨A3l,A3m,fun x=>f x.1 x.2.1⟩)
def B0i:Fn:=(A3n P1).2
theorem B0j(f_s_l1Below:C4)(f_s_l1Int:F8)(f_s_StoreNew:A1c)(f_s_l14Some_r0_0_r94_0_r98_0:I2):∀ x,(C5 A1l [E0 f_s_l1Below,I3 f_s_l1Int,A2d f_s_StoreNew,A0h f_s_l14Some_r0_0_r94_0_r98_0] B0h 22 [.cell 4 29] (Tryz.f220.body.getD .skip) A3l A3m).fn x=A0Q f_s_l1Below f_s_l1Int f_s_StoreNew f_s_l14Some_r0_0_r94_0_r98_0 x.1 x.2.1:=by intro x;kernel_rfl
theorem B0k:B3 Tryz.prog 220 B0i:=sm MO H6 (tc Tryz.call86 E4 (tc Tryz.call115 K7 (tc Tryz.call272 A79 (tc Tryz.call274 A5d A6)))) Tryz.func220 (by kernel_rfl) (by decide) (B0j C1 F2 A0M F9)
abbrev A44:List PK:= [.ptr (.pair (.rs 5 (.int .u8)) E7),.val false (.int .i64) false]
abbrev A45:List RK:= [.val true (.pair V5 (.pair (.int .i64) (.pair (.int .i64) (.sl 109 (.pair .str (.pair (.int .i64) (.pair (.rs 5 (.int .u8)) .bool)))))))]
def A46(f:W3):Nat×Fn:=(149,⟨A44,A45,fun x=>f x.1 x.2.1⟩)
def B1O:Fn:=(A46 Q8).2
theorem B1P(f_s_l1Below:C4)(f_s_l1Int:F8)(f_s_l14Draw_r0_0_r98_0:U5):∀ x,(C5 A1l [E0 f_s_l1Below,I3 f_s_l1Int,A3n f_s_l14Draw_r0_0_r98_0] (B4 []) 43 [.cell 4 29] (Tryz.f149.body.getD .skip) A44 A45).fn x=A0s f_s_l1Below f_s_l1Int f_s_l14Draw_r0_0_r98_0 x.1 x.2.1:=by intro x;kernel_rfl
theorem B1Q:B3 Tryz.prog 149 B1O:=sm MO H6 (tc Tryz.call86 E4 (tc Tryz.call115 K7 (tc Tryz.call220 B0k A6))) Tryz.func149 (by kernel_rfl) (by decide) (B1P C1 F2 P1)
abbrev A47:List PK:= [.ptr (.pair (.rs 5 (.int .u8)) E7),.val false (.int .i64) false]
abbrev A48:List RK:= [.val true (.pair (.pair V5 (.pair (.int .i64) (.pair (.int .i64) (.sl 109 (.pair .str (.pair (.int .i64) (.pair (.rs 5 (.int .u8)) .bool))))))) (.sl 130 B0))]
def A49(f:W4):Nat×Fn:=(82,⟨A47,A48,fun x=>f x.1 x.2.1⟩)
def B1R:Fn:=(A49 Q9).2
theorem B1S(f_s_l1Below:C4)(f_s_l1Int:F8)(f_s_l15Draw_r0_0_r98_0:U4)(f_s_l14Any_r0_0_r98_0:W3):∀ x,(C5 A1l [E0 f_s_l1Below,I3 f_s_l1Int,A3k f_s_l15Draw_r0_0_r98_0,A46 f_s_l14Any_r0_0_r98_0] (B4 []) 29 [.cell 4 32] (Tryz.f82.body.getD .skip) A47 A48).fn x=A0t f_s_l1Below f_s_l1Int f_s_l15Draw_r0_0_r98_0 f_s_l14Any_r0_0_r98_0 x.1 x.2.1:=by intro x;kernel_rfl
theorem B1T:B3 Tryz.prog 82 B1R:=sm MO H6 (tc Tryz.call86 E4 (tc Tryz.call115 K7 (tc Tryz.call148 B0g (tc Tryz.call149 B1Q A6)))) Tryz.func82 (by kernel_rfl) (by decide) (B1S C1 F2 P0 Q8)
abbrev B1D:List PK:= [.ptr (.pair (.rs 5 (.int .u8)) E7)]
abbrev B1E:List RK:= [.val true W6]
def B1F(f:B0A):Nat×Fn:=(85,⟨B1D,B1E,fun x=>f x.1⟩)
def B9d:Fn:=(B1F A6p).2
theorem B9e(f_s_l1Below:C4)(f_s_l1Int:F8)(f_s_l11Req:A4O)(f_s_l1Str:A0p):∀ x,(C5 cfg [E0 f_s_l1Below,I3 f_s_l1Int,A5Z f_s_l11Req,A1T f_s_l1Str] (B4 []) 27 [.cell 2 43] (Tryz.f85.body.getD .skip) B1D B1E).fn x=B4n f_s_l1Below f_s_l1Int f_s_l11Req f_s_l1Str x.1:=by intro x;kernel_rfl
theorem B9f:B3 Tryz.prog 85 B9d:=sm MO B6 (tc Tryz.call86 E4 (tc Tryz.call115 K7 (tc Tryz.call150 B19 (tc Tryz.call151 A3h A6)))) Tryz.func85 (by kernel_rfl) (by decide) (B9e C1 F2 A0N Z7)
abbrev A9L:List PK:= [.ptr (.pair (.rs 5 (.int .u8)) E7)]
abbrev A9M:List RK:= [.val true E7]
def A9N(f:A7d):Nat×Fn:=(250,⟨A9L,A9M,fun x=>f x.1⟩)
def B7j:Fn:=(A9N A5A).2
theorem B7k(f_s_l1Int:F8):∀ x,(C5 cfg [I3 f_s_l1Int] (B4 []) 10 [.cell 2 126] (Tryz.f250.body.getD .skip) A9L A9M).fn x=B29 f_s_l1Int x.1:=by intro x;kernel_rfl
theorem B7l:B3 Tryz.prog 250 B7j:=sm MO B6 (tc Tryz.call115 K7 A6) Tryz.func250 (by kernel_rfl) (by decide) (B7k F2)
def B0l:Nat→Option Jn:=B4 [(15,⟨[.t 5 false [.int .i64],.b 1000 [.ro 5 (.int .u8),.int .i64,.int .i64]],lt 8 9 [],true⟩)]
abbrev A3o:List PK:= [.ptr (.pair (.rs 5 (.int .u8)) E7),.val true (.pair (.pair (.pair (.pair (.rs 9 .str) (.rs 9 .str)) (.pair (.int .i64) (.pair (.int .i64) (.rs 109 kUp)))) (.rs 130 B0)) (.pair (.rs 79 A9) (.pair (.rs 4 .bool) (.pair (.rs 113 H0) (.pair (.rs 130 B0) (.rs 3 (.int .i64))))))) false]
abbrev A3p:List RK:= [.val true (.pair (.pair (.pair V5 (.pair (.int .i64) (.pair (.int .i64) (.rs 109 (.pair .str (.pair (.int .i64) (.pair (.rs 5 (.int .u8)) .bool))))))) (.sl 130 B0)) (.pair (.sl 79 A9) (.pair (.sl 4 .bool) (.pair (.sl 113 H0) (.pair (.sl 130 B0) (.sl 3 (.int .i64)))))))]
def A3q(f:P2):Nat×Fn:=(187,⟨A3o,A3p,fun x=>f x.1 x.2.1⟩)
def B0m:Fn:=(A3q L3).2
theorem B0n(f_s_l15Any_r0_0_r98_0:W4)(f_s_l11Any:B0A)(f_s_l1Below:C4)(f_s_l18Copy:A7c)(f_s_l1Int:F8)(f_s_l11Resp:A7d):∀ x,(C5 cfg [A49 f_s_l15Any_r0_0_r98_0,B1F f_s_l11Any,E0 f_s_l1Below,B99 f_s_l18Copy,I3 f_s_l1Int,A9N f_s_l11Resp] B0l 101 [.cell 4 38] (Tryz.f187.body.getD .skip) A3o A3p).fn x=A0R f_s_l15Any_r0_0_r98_0 f_s_l11Any f_s_l1Below f_s_l18Copy f_s_l1Int f_s_l11Resp x.1 x.2.1:=by intro x;kernel_rfl
theorem B0o:B3 Tryz.prog 187 B0m:=sm MO B6 (tc Tryz.call82 B1T (tc Tryz.call85 B9f (tc Tryz.call86 E4 (tc Tryz.call109 C8P (tc Tryz.call115 K7 (tc Tryz.call250 B7l A6)))))) Tryz.func187 (by kernel_rfl) (by decide) (B0n Q9 A6p C1 A59 F2 A5A)
def B7m:Nat→Option Jn:=B4 [(122,⟨[.t 5 false [.int .i64],.b 4 [.ro 9 .str,.ro 9 .str,.int .i64,.int .i64,.ro 109 (.pair .str (.pair (.int .i64) (.pair (.rs 5 (.int .u8)) .bool))),.own 100000000,.ro 79 (.pair .str (.pair (.rs 5 (.int .u8)) E7)),.own 100000001,.ro 113 (.pair (.int .i64) (.pair W6 (.rs 5 (.int .u8)))),.own 100000002,.own 100000003],.b 32768 [.ro 5 (.int .u8),.int .i64,.int .i64],.r 100000000 130 B0,.r 100000001 4 .bool,.r 100000002 130 B0,.r 100000003 3 (.int .i64)],lt 14 7 [.r 49157,.r 49158,.r 49159,.r 49160,.r 49161,.r 49162,.r 86016,.r 86017,.r 86021,.r 86022,.r 86023,.r 86024,.r 86025,.r 86026,.t 11],false⟩)]
abbrev A9O:List PK:= [.val false (.rs 5 (.int .u8)) false]
abbrev A9P:List RK:= [.val true (.pair (.pair (.pair (.pair (.rs 9 .str) (.rs 9 .str)) (.pair (.int .i64) (.pair (.int .i64) (.rs 109 kUp)))) (.sl 130 B0)) (.pair (.rs 79 A9) (.pair (.sl 4 .bool) (.pair (.rs 113 H0) (.pair (.sl 130 B0) (.sl 3 (.int .i64)))))))]
def A9Q(f:A1e):Nat×Fn:=(106,⟨A9O,A9P,fun x=>f x.1⟩)
def B7n:Fn:=(A9Q Z9).2
theorem B7o(f_s_l1New:B3D)(f_s_l18Draw_r0_0_r99_0:U3)(f_s_l1Size:B08)(f_s_l1Below:C4)(f_s_l18Bend_r0_0_r99_0:P2):∀ x,(C5 cfg [B11 f_s_l1New,A3g f_s_l18Draw_r0_0_r99_0,C2o f_s_l1Size,E0 f_s_l1Below,A3q f_s_l18Bend_r0_0_r99_0] B7m 22 [.cell 2 38] (Tryz.f106.body.getD .skip) A9O A9P).fn x=A4R f_s_l1New f_s_l18Draw_r0_0_r99_0 f_s_l1Size f_s_l1Below f_s_l18Bend_r0_0_r99_0 x.1:=by intro x;kernel_rfl
theorem B7p:B3 Tryz.prog 106 B7n:=sm MO B6 (tc Tryz.call67 B9S (tc Tryz.call68 B0c (tc Tryz.call69 D0l (tc Tryz.call86 E4 (tc Tryz.call187 B0o A6))))) Tryz.func106 (by kernel_rfl) (by decide) (B7o A8j O9 A6o C1 L3)
abbrev A7A:List PK:= [.val false (.rs 5 (.int .u8)) false]
abbrev A7B:List RK:= [.val true (.pair (.pair (.pair (.pair (.rs 9 .str) (.rs 9 .str)) (.pair (.int .i64) (.pair (.int .i64) (.rs 109 kUp)))) (.sl 130 B0)) (.pair (.rs 79 A9) (.pair (.sl 4 .bool) (.pair (.rs 113 H0) (.pair (.sl 130 B0) (.sl 3 (.int .i64)))))))]
def A7C(f:A0S):Nat×Fn:=(40,⟨A7A,A7B,fun x=>f x.1⟩)
def B5H:Fn:=(A7C A0T).2
theorem B5I(f_s_l19Any_r99_0:A1e):∀ x,(C5 cfg [A9Q f_s_l19Any_r99_0] (B4 []) 5 [.cell 2 38] (Tryz.f40.body.getD .skip) A7A A7B).fn x=A2a f_s_l19Any_r99_0 x.1:=by intro x;kernel_rfl
theorem B5J:B3 Tryz.prog 40 B5H:=sm MO B6 (tc Tryz.call106 B7p A6) Tryz.func40 (by kernel_rfl) (by decide) (B5I Z9)
def D0m:Nat→Option Jn:=B4 [(31,⟨[.t 5 false [.bool]],lt 12 18 [],true⟩)]
abbrev B0p:List PK:= [.val false (.rs 5 (.int .u8)) false]
abbrev C2t:List RK:= [.val false .bool]
def D0n(f:C0s):Nat×Fn:=(6,⟨B0p,C2t,fun x=>f x.1⟩)
def F_w_FnSafe:Fn:=(D0n B4p).2
theorem D0o(f_w_big:B9s)(f_i_Safe:B5f)(f_s_Safe:B5i)(f_i_Begins:A4E)(f_i_NotLost:A2i)(f_i_Ends:A8d)(f_i_NoneFails:A0k)(f_i_WorldOk:A2k)(f_s_DrawSafe_r99_0:A0S):∀ x,(C5 cfg [D1a f_w_big,C7Y f_i_Safe,C7u f_s_Safe,B52 f_i_Begins,B2W f_i_NotLost,C1b f_i_Ends,A8H f_i_NoneFails,B2Y f_i_WorldOk,A7C f_s_DrawSafe_r99_0] D0m 48 [.tmp 2] (Tryz.f6.body.getD .skip) B0p C2t).fn x=B4o f_w_big f_i_Safe f_s_Safe f_i_Begins f_i_NotLost f_i_Ends f_i_NoneFails f_i_WorldOk f_s_DrawSafe_r99_0 x.1:=by intro x;kernel_rfl
theorem D0p:B3 Tryz.prog 6 F_w_FnSafe:=sm MO B6 (tc Tryz.call15 D6X (tc Tryz.call17 D5F (tc Tryz.call18 D5Q (tc Tryz.call19 C1a (tc Tryz.call20 B8G (tc Tryz.call21 C78 (tc Tryz.call22 B3r (tc Tryz.call23 B8U (tc Tryz.call40 B5J A6))))))))) Tryz.func6 (by kernel_rfl) (by decide) (D0o B9t B5g B5j A2Q A04 A6Y Y1 A05 A0T)
end
end Go.Proofs.YtpdcljonclhhpaaGreat.Ev
