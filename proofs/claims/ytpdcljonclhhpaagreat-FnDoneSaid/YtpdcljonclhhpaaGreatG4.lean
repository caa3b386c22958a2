/- Each function of the program does what its plain function says. -/
import Derived.Test.YtpdcljonclhhpaaGreatG3
set_option linter.unusedVariables false
set_option maxRecDepth 100000
namespace Go.Proofs.YtpdcljonclhhpaaGreat.Ev
noncomputable section
def C9P:Nat->Option Jn:=B4 [(7,⟨[.t 3 false [.int .i64]],lt 8 20 [.t 4],true⟩),(58,⟨[.t 3 false [.int .i64],.t 4 false [.int .i64]],lt 8 20 [],false⟩),(116,⟨[],lt 8 8 [],false⟩)]
abbrev B7s:List PK:= [.val false (.rs 5 (.int .u8)) false]
abbrev B7t:List RK:= [.new (.pair (.rs 5 (.int .u8)) D8)]
def B7u(f:C0s):Nat×Fn:=(67,⟨B7s,B7t,fun x=>f x.1⟩)
def C9Q:Fn:=(B7u B4T).2
theorem C9R:∀ x,(C4 cfg [] C9P 32 [.tmp 2] (Tryz.f67.body.getD .skip) B7s B7t).fn x=C5w x.1:=by intro x;kernel_rfl
theorem C9S:B1 Tryz.prog 67 C9Q:=sm MO B2 A7 Tryz.func67 (by kernel_rfl) (by decide) (C9R)
abbrev B7v:List PK:= [.ptr (.pair (.rs 5 (.int .u8)) D8)]
abbrev B7w:List RK:= [.val false (.int .i64)]
def B0Q(f:A60):Nat×Fn:=(153,⟨B7v,B7w,fun x=>f x.1⟩)
def C9T:Fn:=(B0Q A3u).2
theorem C9U:∀ x,(C4 cfg [] (B4 []) 58 [.tmp 2] (Tryz.f153.body.getD .skip) B7v B7w).fn x=C31 x.1:=by intro x;kernel_rfl
theorem B80:B1 Tryz.prog 153 C9T:=sm MO B2 A7 Tryz.func153 (by kernel_rfl) (by decide) (C9U)
abbrev B5M:List PK:= [.ptr (.pair (.rs 5 (.int .u8)) D8),.val false (.int .i64) false]
abbrev B5N:List RK:= [.val false (.int .i64)]
def E8(f:D4):Nat×Fn:=(86,⟨B5M,B5N,fun x=>f x.1 x.2.1⟩)
def C76:Fn:=(E8 C0).2
theorem C77(f_s_l1Byte:A60):∀ x,(C4 cfg [B0Q f_s_l1Byte] (B4 []) 31 [.tmp 4] (Tryz.f86.body.getD .skip) B5M B5N).fn x=B2p f_s_l1Byte x.1 x.2.1:=by intro x;kernel_rfl
theorem F8:B1 Tryz.prog 86 C76:=sm MO B2 (tc Tryz.call153 B80 A7) Tryz.func86 (by kernel_rfl) (by decide) (C77 A3u)
abbrev C0W:List PK:= [.ptr (.pair (.rs 5 (.int .u8)) D8),.val false (.rs 3 (.int .i64)) false]
abbrev C0a:List RK:= [.val false (.int .i64)]
def K1(f:G9):Nat×Fn:=(115,⟨C0W,C0a,fun x=>f x.1 x.2.1⟩)
def D3T:Fn:=(K1 G5).2
theorem D3U(f_s_l1Below:D4):∀ x,(C4 cfg [E8 f_s_l1Below] (B4 []) 12 [.tmp 4] (Tryz.f115.body.getD .skip) C0W C0a).fn x=C63 f_s_l1Below x.1 x.2.1:=by intro x;kernel_rfl
theorem L6:B1 Tryz.prog 115 D3T:=sm MO B2 (tc Tryz.call86 F8 A7) Tryz.func115 (by kernel_rfl) (by decide) (D3U C0)
def C78:Nat->Option Jn:=B4 [(58,⟨[.t 5 false [.own 100000000],.t 6 false [.int .i64],.b 1000 [.ro 5 (.int .u8),.int .i64,.int .i64],.r 100000000 5 (.int .u8)],lt 8 11 [.r 7,.r 17,.r 18],false⟩)]
abbrev B5O:List PK:= [.ptr (.pair (.rs 5 (.int .u8)) D8),.val false (.int .i64) false]
abbrev B5P:List RK:= [.val false (.sl 5 (.int .u8))]
def A4m(f:O9):Nat×Fn:=(139,⟨B5O,B5P,fun x=>f x.1 x.2.1⟩)
def C79:Fn:=(A4m H0).2
theorem C7A(f_s_l1Byte:A60):∀ x,(C4 cfg [B0Q f_s_l1Byte] C78 20 [.tmp 4] (Tryz.f139.body.getD .skip) B5O B5P).fn x=A8p f_s_l1Byte x.1 x.2.1:=by intro x;kernel_rfl
theorem A96:B1 Tryz.prog 139 C79:=sm MO B2 (tc Tryz.call153 B80 A7) Tryz.func139 (by kernel_rfl) (by decide) (C7A A3u)
abbrev B81:List PK:= [.ptr (.pair (.rs 5 (.int .u8)) D8),.val false (.int .i64) false]
abbrev B82:List RK:= [.val false .bool]
def V0(f:K9):Nat×Fn:=(84,⟨B81,B82,fun x=>f x.1 x.2.1⟩)
def C9V:Fn:=(V0 I8).2
theorem C9W(f_s_l1Below:D4):∀ x,(C4 cfg [E8 f_s_l1Below] (B4 []) 9 [.tmp 4] (Tryz.f84.body.getD .skip) B81 B82).fn x=C32 f_s_l1Below x.1 x.2.1:=by intro x;kernel_rfl
theorem A0a:B1 Tryz.prog 84 C9V:=sm MO B2 (tc Tryz.call86 F8 A7) Tryz.func84 (by kernel_rfl) (by decide) (C9W C0)
def B5Q:Nat->Option Jn:=B4 [(3,⟨[.b 1000 [.ro 5 (.int .u8),.int .i64,.int .i64]],lt 34 3 (lt 30 3 (lt 19 4 (lt 7 6 [.t 44,.t 45]))),false⟩),(26,⟨[.t 9 false [.bool]],lt 10 3 [],true⟩),(107,⟨[.t 19 false [.bool]],lt 20 3 [],true⟩),(122,⟨[.t 6 false [.int .i64],.b 5 [.int .i64,.int .i64,.own 100005000],.b 1000 [.ro 5 (.int .u8),.int .i64,.int .i64],.r 100005000 4 .bool],lt 53 11 [.r 61,.r 62],false⟩),(431,⟨[.t 30 false [.bool]],[.t 31,.t 32],true⟩),(1727,⟨[.t 34 false [.bool]],[.t 35,.t 36],true⟩)]
abbrev A6l:List PK:= [.ptr (.pair (.rs 5 (.int .u8)) D8),.val true (.pair (.pair (.pair (.pair (.rs 9 .str) (.rs 9 .str)) (.pair (.int .i64) (.pair (.int .i64) (.rs 109 (.pair .str (.pair (.int .i64) (.pair (.rs 5 (.int .u8)) .bool))))))) (.sl 130 A9)) (.pair (.sl 79 (.pair .str (.pair (.rs 5 (.int .u8)) D8))) (.pair (.sl 4 .bool) (.pair (.sl 113 (.pair (.int .i64) (.pair A06 (.rs 5 (.int .u8))))) (.pair (.sl 130 A9) (.sl 3 (.int .i64))))))) true]
abbrev A6m:List RK:= [.val true D0q]
def A6n(f:S6):Nat×Fn:=(110,⟨A6l,A6m,fun x=>f x.1 x.2.1⟩)
def B5R:Fn:=(A6n N2).2
theorem B5S(f_s_l1Once:K9)(f_s_l1Below:D4):∀ x,(C4 cfg [V0 f_s_l1Once,E8 f_s_l1Below] B5Q 65 [.cell 4 77] (Tryz.f110.body.getD .skip) A6l A6m).fn x=A21 f_s_l1Once f_s_l1Below x.1 x.2.1:=by intro x;kernel_rfl
theorem B5T:B1 Tryz.prog 110 B5R:=sm MO B2 (tc Tryz.call84 A0a (tc Tryz.call86 F8 A7)) Tryz.func110 (by kernel_rfl) (by decide) (B5S I8 C0)
def B76:Nat->Option Jn:=B4 [(15,⟨[.t 5 false [.own 100000000],.b 1000 [.ro 5 (.int .u8),.int .i64,.int .i64],.r 100000000 79 B3],lt 12 21 [.r 10,.r 13,.r 27,.r 31,.r 32,.r 122880,.r 126977,.t 7,.x 23],true⟩),(122,⟨[.t 5 false [.own 100000000],.t 7 false [.int .i64],.b 1000 [.ro 5 (.int .u8),.int .i64,.int .i64],.r 100000000 79 B3],lt 15 18 [.r 10,.r 27,.r 31,.r 32,.r 122880,.r 126977,.x 23],false⟩),(506,⟨[.t 9 false [.int .i64],.b 8 [.ro 9 .str,.ro 9 .str,.int .i64,.int .i64,.ro 109 (.pair .str (.pair (.int .i64) (.pair (.rs 5 (.int .u8)) .bool))),.own 100002001,.own 100002002,.own 100002003,.own 100002004,.own 100002005,.own 100002006],.b 1000 [.ro 5 (.int .u8),.int .i64,.int .i64],.r 100002001 130 A9,.r 100002002 79 (.pair .str (.pair (.rs 5 (.int .u8)) D8)),.r 100002003 4 .bool,.r 100002004 113 (.pair (.int .i64) (.pair A06 (.rs 5 (.int .u8)))),.r 100002005 130 A9,.r 100002006 3 (.int .i64)],lt 38 8 [.r 143360,.r 143361,.r 143364,.r 143365,.r 143366,.r 143367,.r 143368,.r 143369,.r 143370,.r 184322,.r 190469,.r 190470,.r 190471,.r 190472,.r 190473,.r 190474,.t 34],false⟩)]
abbrev A7n:List PK:= [.ptr (.pair (.rs 5 (.int .u8)) D8),.val false (.int .i64) false]
abbrev A7o:List RK:= [.val true (.pair (.pair (.pair (.pair (.rs 9 .str) (.rs 9 .str)) (.pair (.int .i64) (.pair (.int .i64) (.rs 109 kUp)))) (.sl 130 A9)) (.pair (.sl 79 (.pair .str (.pair (.rs 5 (.int .u8)) D8))) (.pair (.sl 4 .bool) (.pair (.sl 113 (.pair (.int .i64) (.pair A06 (.rs 5 (.int .u8))))) (.pair (.sl 130 A9) (.sl 3 (.int .i64)))))))]
def A7p(f:A0h):Nat×Fn:=(68,⟨A7n,A7o,fun x=>f x.1 x.2.1⟩)
def B77:Fn:=(A7p T4).2
theorem B78(f_s_l1Below:D4)(f_s_l18Event_r0_0_r95_1:S6)(f_s_l18Do_W:A44)(f_s_l1Int:G9)(f_s_ClientNew:A55)(f_s_l1Bytes_r0_0:O9)(f_s_WorldNew_r98_0_r99_0:A09):∀ x,(C4 cfg [E8 f_s_l1Below,A6n f_s_l18Event_r0_0_r95_1,C0U f_s_l18Do_W,K1 f_s_l1Int,C2S f_s_ClientNew,A4m f_s_l1Bytes_r0_0,A5a f_s_WorldNew_r98_0_r99_0] B76 47 [.cell 4 38] (Tryz.f68.body.getD .skip) A7n A7o).fn x=A2e f_s_l1Below f_s_l18Event_r0_0_r95_1 f_s_l18Do_W f_s_l1Int f_s_ClientNew f_s_l1Bytes_r0_0 f_s_WorldNew_r98_0_r99_0 x.1 x.2.1:=by intro x;kernel_rfl
theorem B79:B1 Tryz.prog 68 B77:=sm MO B2 (tc Tryz.call86 F8 (tc Tryz.call110 B5T (tc Tryz.call111 C8e (tc Tryz.call115 L6 (tc Tryz.call138 D4U (tc Tryz.call139 A96 (tc Tryz.call140 B4F A7))))))) Tryz.func68 (by kernel_rfl) (by decide) (B78 C0 N2 A0q G5 A1d H0 Q3)
def C7B:Nat->Option Jn:=B4 [(58,⟨[.t 3 false [.own 100000000],.t 4 false [.int .i64],.b 1000 [.ro 5 (.int .u8),.int .i64,.int .i64],.r 100000000 4 .bool],lt 8 9 [.r 5,.r 15,.r 16],false⟩)]
abbrev B5U:List PK:= [.ptr (.pair (.rs 5 (.int .u8)) D8)]
abbrev B5V:List RK:= [.val false (.sl 4 .bool)]
def A97(f:A03):Nat×Fn:=(219,⟨B5U,B5V,fun x=>f x.1⟩)
def C7C:Fn:=(A97 S7).2
theorem C7D(f_s_l1Once:K9)(f_s_l1Below:D4):∀ x,(C4 cfg [V0 f_s_l1Once,E8 f_s_l1Below] C7B 18 [.tmp 2] (Tryz.f219.body.getD .skip) B5U B5V).fn x=A8q f_s_l1Once f_s_l1Below x.1:=by intro x;kernel_rfl
theorem B5W:B1 Tryz.prog 219 C7C:=sm MO B2 (tc Tryz.call84 A0a (tc Tryz.call86 F8 A7)) Tryz.func219 (by kernel_rfl) (by decide) (C7D I8 C0)
abbrev C0b:List PK:= [.ptr (.pair (.rs 5 (.int .u8)) D8),.val false (.rs 9 .str) false]
abbrev C0c:List RK:= [.val false .str]
def A4I(f:A3D):Nat×Fn:=(151,⟨C0b,C0c,fun x=>f x.1 x.2.1⟩)
def D3V:Fn:=(A4I A20).2
theorem D3W(f_s_l1Below:D4):∀ x,(C4 cfg [E8 f_s_l1Below] (B4 []) 12 [.tmp 4] (Tryz.f151.body.getD .skip) C0b C0c).fn x=C65 f_s_l1Below x.1 x.2.1:=by intro x;kernel_rfl
theorem A7q:B1 Tryz.prog 151 D3V:=sm MO B2 (tc Tryz.call86 F8 A7) Tryz.func151 (by kernel_rfl) (by decide) (D3W C0)
abbrev B83:List PK:= [.ptr (.pair (.rs 5 (.int .u8)) D8)]
abbrev B84:List RK:= [.val true A06]
def B0R(f:A8o):Nat×Fn:=(150,⟨B83,B84,fun x=>f x.1⟩)
def C9a:Fn:=(B0R A2d).2
theorem C9b(f_s_l1Once:K9)(f_s_l1Below:D4)(f_s_l1Int:G9)(f_s_l1Str:A3D)(f_s_l11Most:A6M):∀ x,(C4 cfg [V0 f_s_l1Once,E8 f_s_l1Below,K1 f_s_l1Int,A4I f_s_l1Str,C0J f_s_l11Most] (B4 []) 28 [.cell 2 43] (Tryz.f150.body.getD .skip) B83 B84).fn x=B6P f_s_l1Once f_s_l1Below f_s_l1Int f_s_l1Str f_s_l11Most x.1:=by intro x;kernel_rfl
theorem B85:B1 Tryz.prog 150 C9a:=sm MO B2 (tc Tryz.call84 A0a (tc Tryz.call86 F8 (tc Tryz.call115 L6 (tc Tryz.call151 A7q (tc Tryz.call161 C8S A7))))) Tryz.func150 (by kernel_rfl) (by decide) (C9b I8 C0 G5 A20 A0p)
def C9c:Nat->Option Jn:=B4 [(32443,⟨[.t 61 false [.bool],.b 1000 [.ro 5 (.int .u8),.int .i64,.int .i64]],lt 52 9 [],true⟩)]
abbrev B86:List PK:= [.ptr (.pair (.rs 5 (.int .u8)) D8),.val true (.pair (.pair (.rs 9 .str) (.rs 9 .str)) (.pair (.int .i64) (.pair (.int .i64) (.rs 109 kUp)))) false]
abbrev B87:List RK:= [.val true A06,.val false (.sl 5 (.int .u8))]
def B88(f:A2s):Nat×Fn:=(83,⟨B86,B87,fun x=>f x.1 x.2.1⟩)
def C9d:Fn:=(B88 A0U).2
theorem C9e(f_s_l1Once:K9)(f_s_UpAt:A53)(f_s_l1Int:G9)(f_s_l1Bytes_r0_0:O9)(f_s_l11Req:A8o)(f_s_l1Str:A3D)(f_s_Crc:A5p):∀ x,(C4 cfg [V0 f_s_l1Once,C0H f_s_UpAt,K1 f_s_l1Int,A4m f_s_l1Bytes_r0_0,B0R f_s_l11Req,A4I f_s_l1Str,C1K f_s_Crc] C9c 84 [.cell 4 43,.tmp 5] (Tryz.f83.body.getD .skip) B86 B87).fn x=B0I f_s_l1Once f_s_UpAt f_s_l1Int f_s_l1Bytes_r0_0 f_s_l11Req f_s_l1Str f_s_Crc x.1 x.2.1:=by intro x;kernel_rfl
theorem C9f:B1 Tryz.prog 83 C9d:=sm MO B2 (tc Tryz.call84 A0a (tc Tryz.call113 C5G (tc Tryz.call115 L6 (tc Tryz.call139 A96 (tc Tryz.call150 B85 (tc Tryz.call151 A7q (tc Tryz.call152 C5A A7))))))) Tryz.func83 (by kernel_rfl) (by decide) (C9e I8 A1P G5 H0 A2d A20 A4b)
def B7A:Nat->Option Jn:=B4 [(58,⟨[.t 6 false [.int .i64],.b 5 [.own 100000000,.own 100000001,.int .i64,.int .i64,.own 100000002,.own 100000003],.b 1000 [.ro 5 (.int .u8),.int .i64,.int .i64],.r 100000000 9 .str,.r 100000001 9 .str,.r 100000002 109 (.pair .str (.pair (.int .i64) (.pair (.rs 5 (.int .u8)) .bool))),.r 100000003 130 A9],lt 18 40 (lt 7 4 [.b 7,.b 9,.r 61440,.r 61441,.r 61444,.r 61445,.r 118912,.r 155648,.r 155649,.r 155652,.r 155653,.r 184320,.r 184321,.r 184324,.r 184325,.r 184448,.r 217088,.r 221184,.r 221185,.r 221188,.r 221189,.t 14]),false⟩)]
abbrev A7r:List PK:= [.ptr (.pair (.rs 5 (.int .u8)) D8),.val false (.int .i64) false]
abbrev A7s:List RK:= [.val true (.pair (.pair A0C (.pair (.int .i64) (.pair (.int .i64) (.sl 109 (.pair .str (.pair (.int .i64) (.pair (.rs 5 (.int .u8)) .bool))))))) (.sl 130 A9))]
def A7t(f:A0i):Nat×Fn:=(148,⟨A7r,A7s,fun x=>f x.1 x.2.1⟩)
def B7B:Fn:=(A7t T5).2
theorem B7C(f_s_Serve_r98_0:A2r)(f_s_l15Req_r0_0:A2s)(f_s_l1Below:D4)(f_s_l1Int:G9)(f_s_ServerNew_r98_0:U5)(f_s_SyncAll_r98_0:A1R)(f_s_CrashServer_r92_0_r98_0:M8)(f_s_l12Kept_r0_0:A03):∀ x,(C4 A4i [B7r f_s_Serve_r98_0,B88 f_s_l15Req_r0_0,E8 f_s_l1Below,K1 f_s_l1Int,A4q f_s_ServerNew_r98_0,B3c f_s_SyncAll_r98_0,A3T f_s_CrashServer_r92_0_r98_0,A97 f_s_l12Kept_r0_0] B7A 59 [.cell 4 32] (Tryz.f148.body.getD .skip) A7r A7s).fn x=A2f f_s_Serve_r98_0 f_s_l15Req_r0_0 f_s_l1Below f_s_l1Int f_s_ServerNew_r98_0 f_s_SyncAll_r98_0 f_s_CrashServer_r92_0_r98_0 f_s_l12Kept_r0_0 x.1 x.2.1:=by intro x;kernel_rfl
theorem B7D:B1 Tryz.prog 148 B7B:=sm MO J7 (tc Tryz.call26 C9O (tc Tryz.call83 C9f (tc Tryz.call86 F8 (tc Tryz.call115 L6 (tc Tryz.call216 B0i (tc Tryz.call217 C5c (tc Tryz.call218 B1F (tc Tryz.call219 B5W A7)))))))) Tryz.func148 (by kernel_rfl) (by decide) (B7C A1G A0U C0 G5 P2 A0N I9 S7)
def B0S:Nat->Option Jn:=B4 [(58,⟨[.t 29 false [.bool]],[.t 30,.t 31],true⟩),(235,⟨[.t 41 false [.bool]],lt 42 4 [],true⟩),(3771,⟨[.t 8 false [.int .i64],.b 1000 [.ro 5 (.int .u8),.int .i64,.int .i64]],lt 55 22 [],true⟩),(15103,⟨[.t 116 false [.bool]],[.t 117,.t 118],true⟩)]
abbrev A34:List PK:= [.ptr (.pair (.rs 5 (.int .u8)) D8),.val true (.pair A0C (.pair (.int .i64) (.pair (.int .i64) (.sl 109 (.pair .str (.pair (.int .i64) (.pair (.rs 5 (.int .u8)) .bool))))))) false]
abbrev A35:List RK:= [.val true (.pair A0C (.pair (.int .i64) (.pair (.int .i64) (.sl 109 (.pair .str (.pair (.int .i64) (.pair (.rs 5 (.int .u8)) .bool)))))))]
def A36(f:L5):Nat×Fn:=(274,⟨A34,A35,fun x=>f x.1 x.2.1⟩)
def B0T:Fn:=(A36 I5).2
theorem B0U(f_s_l1Once:K9)(f_s_l1Below:D4)(f_s_UpAt:A53)(f_s_l1Int:G9)(f_s_l1Bytes_r0_0:O9)(f_s_l1Str:A3D)(f_s_Crc:A5p)(f_s_MakeUp_r98_0:S1)(f_s_PutUp_r98_0:U8)(f_s_DoneUp_r98_0:S2)(f_s_DropUp_r98_0:S3)(f_s_l12Kept_r0_0:A03)(f_s_OpenStore_r98_0:M2)(f_s_FallDisk:A1Q)(f_s_SyncStore:A3E):∀ x,(C4 A4i [V0 f_s_l1Once,E8 f_s_l1Below,C0H f_s_UpAt,K1 f_s_l1Int,A4m f_s_l1Bytes_r0_0,A4I f_s_l1Str,C1K f_s_Crc,A4j f_s_MakeUp_r98_0,A5t f_s_PutUp_r98_0,A4k f_s_DoneUp_r98_0,A4l f_s_DropUp_r98_0,A97 f_s_l12Kept_r0_0,A1q f_s_OpenStore_r98_0,B1B f_s_FallDisk,A4r f_s_SyncStore] B0S 122 [.cell 4 29] (Tryz.f274.body.getD .skip) A34 A35).fn x=A0V f_s_l1Once f_s_l1Below f_s_UpAt f_s_l1Int f_s_l1Bytes_r0_0 f_s_l1Str f_s_Crc f_s_MakeUp_r98_0 f_s_PutUp_r98_0 f_s_DoneUp_r98_0 f_s_DropUp_r98_0 f_s_l12Kept_r0_0 f_s_OpenStore_r98_0 f_s_FallDisk f_s_SyncStore x.1 x.2.1:=by intro x;kernel_rfl
theorem B0V:B1 Tryz.prog 274 B0T:=sm MO J7 (tc Tryz.call84 A0a (tc Tryz.call86 F8 (tc Tryz.call113 C5G (tc Tryz.call115 L6 (tc Tryz.call139 A96 (tc Tryz.call151 A7q (tc Tryz.call152 C5A (tc Tryz.call162 A93 (tc Tryz.call163 B0P (tc Tryz.call164 A94 (tc Tryz.call165 A95 (tc Tryz.call219 B5W (tc Tryz.call257 A4p (tc Tryz.call258 B75 (tc Tryz.call273 B0l A7))))))))))))))) Tryz.func274 (by kernel_rfl) (by decide) (B0U I8 C0 A1P G5 H0 A20 A4b O6 Q8 O7 O8 S7 C5 Q9 A1g)
def B7E:Nat->Option Jn:=B4 [(58,⟨[.t 6 false [.int .i64],.b 5 [.own 100000000,.own 100000001,.int .i64,.int .i64,.own 100000002],.b 1000 [.ro 5 (.int .u8),.int .i64,.int .i64],.r 100000000 9 .str,.r 100000001 9 .str,.r 100000002 109 (.pair .str (.pair (.int .i64) (.pair (.rs 5 (.int .u8)) .bool)))],lt 14 7 [.r 45056,.r 45057,.r 45060,.r 86016,.r 86017,.r 86020],false⟩)]
abbrev A7u:List PK:= [.ptr (.pair (.rs 5 (.int .u8)) D8),.val false (.int .i64) false]
abbrev A7v:List RK:= [.val true (.pair A0C (.pair (.int .i64) (.pair (.int .i64) (.sl 109 (.pair .str (.pair (.int .i64) (.pair (.rs 5 (.int .u8)) .bool)))))))]
def A7w(f:A0j):Nat×Fn:=(220,⟨A7u,A7v,fun x=>f x.1 x.2.1⟩)
def B7F:Fn:=(A7w T6).2
theorem B7G(f_s_l1Below:D4)(f_s_l1Int:G9)(f_s_StoreNew:A4e)(f_s_l14Some_r0_0_r94_0_r98_0:L5):∀ x,(C4 A4i [E8 f_s_l1Below,K1 f_s_l1Int,A6C f_s_StoreNew,A36 f_s_l14Some_r0_0_r94_0_r98_0] B7E 22 [.cell 4 29] (Tryz.f220.body.getD .skip) A7u A7v).fn x=A2g f_s_l1Below f_s_l1Int f_s_StoreNew f_s_l14Some_r0_0_r94_0_r98_0 x.1 x.2.1:=by intro x;kernel_rfl
theorem B7H:B1 Tryz.prog 220 B7F:=sm MO J7 (tc Tryz.call86 F8 (tc Tryz.call115 L6 (tc Tryz.call272 B2V (tc Tryz.call274 B0V A7)))) Tryz.func220 (by kernel_rfl) (by decide) (B7G C0 G5 A2b I5)
abbrev A8H:List PK:= [.ptr (.pair (.rs 5 (.int .u8)) D8),.val false (.int .i64) false]
abbrev A8I:List RK:= [.val true (.pair A0C (.pair (.int .i64) (.pair (.int .i64) (.sl 109 (.pair .str (.pair (.int .i64) (.pair (.rs 5 (.int .u8)) .bool)))))))]
def A8J(f:A19):Nat×Fn:=(149,⟨A8H,A8I,fun x=>f x.1 x.2.1⟩)
def B8N:Fn:=(A8J W5).2
theorem B8O(f_s_l1Below:D4)(f_s_l1Int:G9)(f_s_l14Draw_r0_0_r98_0:A0j):∀ x,(C4 A4i [E8 f_s_l1Below,K1 f_s_l1Int,A7w f_s_l14Draw_r0_0_r98_0] (B4 []) 43 [.cell 4 29] (Tryz.f149.body.getD .skip) A8H A8I).fn x=A3H f_s_l1Below f_s_l1Int f_s_l14Draw_r0_0_r98_0 x.1 x.2.1:=by intro x;kernel_rfl
theorem B8P:B1 Tryz.prog 149 B8N:=sm MO J7 (tc Tryz.call86 F8 (tc Tryz.call115 L6 (tc Tryz.call220 B7H A7))) Tryz.func149 (by kernel_rfl) (by decide) (B8O C0 G5 T6)
abbrev A8K:List PK:= [.ptr (.pair (.rs 5 (.int .u8)) D8),.val false (.int .i64) false]
abbrev A8L:List RK:= [.val true (.pair (.pair A0C (.pair (.int .i64) (.pair (.int .i64) (.sl 109 (.pair .str (.pair (.int .i64) (.pair (.rs 5 (.int .u8)) .bool))))))) (.sl 130 A9))]
def A8M(f:A1A):Nat×Fn:=(82,⟨A8K,A8L,fun x=>f x.1 x.2.1⟩)
def B8Q:Fn:=(A8M W6).2
theorem B8R(f_s_l1Below:D4)(f_s_l1Int:G9)(f_s_l15Draw_r0_0_r98_0:A0i)(f_s_l14Any_r0_0_r98_0:A19):∀ x,(C4 A4i [E8 f_s_l1Below,K1 f_s_l1Int,A7t f_s_l15Draw_r0_0_r98_0,A8J f_s_l14Any_r0_0_r98_0] (B4 []) 29 [.cell 4 32] (Tryz.f82.body.getD .skip) A8K A8L).fn x=A3I f_s_l1Below f_s_l1Int f_s_l15Draw_r0_0_r98_0 f_s_l14Any_r0_0_r98_0 x.1 x.2.1:=by intro x;kernel_rfl
theorem B8S:B1 Tryz.prog 82 B8Q:=sm MO J7 (tc Tryz.call86 F8 (tc Tryz.call115 L6 (tc Tryz.call148 B7D (tc Tryz.call149 B8P A7)))) Tryz.func82 (by kernel_rfl) (by decide) (B8R C0 G5 T5 W5)
abbrev B89:List PK:= [.ptr (.pair (.rs 5 (.int .u8)) D8)]
abbrev B8A:List RK:= [.val true A06]
def B8B(f:B6Q):Nat×Fn:=(85,⟨B89,B8A,fun x=>f x.1⟩)
def C9g:Fn:=(B8B B1w).2
theorem C9h(f_s_l1Below:D4)(f_s_l1Int:G9)(f_s_l11Req:A8o)(f_s_l1Str:A3D):∀ x,(C4 cfg [E8 f_s_l1Below,K1 f_s_l1Int,B0R f_s_l11Req,A4I f_s_l1Str] (B4 []) 27 [.cell 2 43] (Tryz.f85.body.getD .skip) B89 B8A).fn x=C3C f_s_l1Below f_s_l1Int f_s_l11Req f_s_l1Str x.1:=by intro x;kernel_rfl
theorem C9i:B1 Tryz.prog 85 C9g:=sm MO B2 (tc Tryz.call86 F8 (tc Tryz.call115 L6 (tc Tryz.call150 B85 (tc Tryz.call151 A7q A7)))) Tryz.func85 (by kernel_rfl) (by decide) (C9h C0 G5 A2d A20)
abbrev B5a:List PK:= [.ptr (.pair (.rs 5 (.int .u8)) D8)]
abbrev B5b:List RK:= [.val true D8]
def B5c(f:B36):Nat×Fn:=(250,⟨B5a,B5b,fun x=>f x.1⟩)
def C7E:Fn:=(B5c A9l).2
theorem C7F(f_s_l1Int:G9):∀ x,(C4 cfg [K1 f_s_l1Int] (B4 []) 10 [.cell 2 126] (Tryz.f250.body.getD .skip) B5a B5b).fn x=B9B f_s_l1Int x.1:=by intro x;kernel_rfl
theorem C7G:B1 Tryz.prog 250 C7E:=sm MO B2 (tc Tryz.call115 L6 A7) Tryz.func250 (by kernel_rfl) (by decide) (C7F G5)
def B7I:Nat->Option Jn:=B4 [(15,⟨[.t 5 false [.int .i64],.b 1000 [.ro 5 (.int .u8),.int .i64,.int .i64]],lt 8 9 [],true⟩)]
abbrev A80:List PK:= [.ptr (.pair (.rs 5 (.int .u8)) D8),.val true (.pair (.pair (.pair (.pair (.rs 9 .str) (.rs 9 .str)) (.pair (.int .i64) (.pair (.int .i64) (.rs 109 kUp)))) (.rs 130 A9)) (.pair (.rs 79 B3) (.pair (.rs 4 .bool) (.pair (.rs 113 E5) (.pair (.rs 130 A9) (.rs 3 (.int .i64))))))) false]
abbrev A81:List RK:= [.val true (.pair (.pair (.pair A0C (.pair (.int .i64) (.pair (.int .i64) (.rs 109 (.pair .str (.pair (.int .i64) (.pair (.rs 5 (.int .u8)) .bool))))))) (.sl 130 A9)) (.pair (.sl 79 B3) (.pair (.sl 4 .bool) (.pair (.sl 113 E5) (.pair (.sl 130 A9) (.sl 3 (.int .i64)))))))]
def A82(f:A0k):Nat×Fn:=(187,⟨A80,A81,fun x=>f x.1 x.2.1⟩)
def B7J:Fn:=(A82 T7).2
theorem B7K(f_s_l15Any_r0_0_r98_0:A1A)(f_s_l11Any:B6Q)(f_s_l1Below:D4)(f_s_l18Copy:A45)(f_s_l1Int:G9)(f_s_l11Resp:B36):∀ x,(C4 cfg [A8M f_s_l15Any_r0_0_r98_0,B8B f_s_l11Any,E8 f_s_l1Below,C8k f_s_l18Copy,K1 f_s_l1Int,B5c f_s_l11Resp] B7I 101 [.cell 4 38] (Tryz.f187.body.getD .skip) A80 A81).fn x=A2h f_s_l15Any_r0_0_r98_0 f_s_l11Any f_s_l1Below f_s_l18Copy f_s_l1Int f_s_l11Resp x.1 x.2.1:=by intro x;kernel_rfl
theorem B7L:B1 Tryz.prog 187 B7J:=sm MO B2 (tc Tryz.call82 B8S (tc Tryz.call85 C9i (tc Tryz.call86 F8 (tc Tryz.call109 E0A (tc Tryz.call115 L6 (tc Tryz.call250 C7G A7)))))) Tryz.func187 (by kernel_rfl) (by decide) (B7K W6 B1w C0 A2C G5 A9l)
abbrev A8N:List PK:= [.ptr (.pair (.rs 5 (.int .u8)) D8),.val false (.int .i64) false]
abbrev A8O:List RK:= [.val true (.pair (.pair (.pair (.pair (.rs 9 .str) (.rs 9 .str)) (.pair (.int .i64) (.pair (.int .i64) (.rs 109 kUp)))) (.sl 130 A9)) (.pair (.rs 79 (.pair .str (.pair (.rs 5 (.int .u8)) D8))) (.pair (.sl 4 .bool) (.pair (.rs 113 (.pair (.int .i64) (.pair A06 (.rs 5 (.int .u8))))) (.pair (.sl 130 A9) (.sl 3 (.int .i64)))))))]
def A8P(f:A1B):Nat×Fn:=(114,⟨A8N,A8O,fun x=>f x.1 x.2.1⟩)
def B8T:Fn:=(A8P W7).2
theorem B8U(f_s_l18Draw_r0_0_r99_0:A0h)(f_s_l1Once:K9)(f_s_l18Bend_r0_0_r99_0:A0k):∀ x,(C4 cfg [A7p f_s_l18Draw_r0_0_r99_0,V0 f_s_l1Once,A82 f_s_l18Bend_r0_0_r99_0] (B4 []) 15 [.cell 4 38] (Tryz.f114.body.getD .skip) A8N A8O).fn x=A3J f_s_l18Draw_r0_0_r99_0 f_s_l1Once f_s_l18Bend_r0_0_r99_0 x.1 x.2.1:=by intro x;kernel_rfl
theorem B8V:B1 Tryz.prog 114 B8T:=sm MO B2 (tc Tryz.call68 B79 (tc Tryz.call84 A0a (tc Tryz.call187 B7L A7))) Tryz.func114 (by kernel_rfl) (by decide) (B8U T4 I8 T7)
def C5d:Nat->Option Jn:=B4 [(3,⟨[.b 1000 [.ro 5 (.int .u8),.int .i64,.int .i64]],lt 34 3 (lt 30 3 (lt 19 4 (lt 7 6 [.t 44,.t 45]))),false⟩),(26,⟨[.t 9 false [.bool]],lt 10 3 [],true⟩),(107,⟨[.t 19 false [.bool]],lt 20 3 [],true⟩),(122,⟨[.t 6 false [.int .i64],.b 5 [.int .i64,.int .i64,.own 100005000],.b 1000 [.ro 5 (.int .u8),.int .i64,.int .i64],.r 100005000 4 .bool],lt 53 11 [.r 61,.r 62],false⟩),(431,⟨[.t 30 false [.bool]],[.t 31,.t 32],true⟩),(1727,⟨[.t 34 false [.bool]],[.t 35,.t 36],true⟩)]
abbrev B3d:List PK:= [.ptr (.pair (.rs 5 (.int .u8)) D8),.val true (.pair (.pair (.pair (.pair (.rs 9 .str) (.rs 9 .str)) (.pair (.int .i64) (.pair (.int .i64) (.rs 109 kUp)))) (.rs 130 A9)) (.pair (.rs 79 B3) (.pair (.rs 4 .bool) (.pair (.rs 113 E5) (.pair (.rs 130 A9) (.rs 3 (.int .i64))))))) false]
abbrev B3e:List RK:= [.val true D0q]
def B3f(f:A3P):Nat×Fn:=(110,⟨B3d,B3e,fun x=>f x.1 x.2.1⟩)
def C5e:Fn:=(B3f A1S).2
theorem C5f(f_s_l1Once:K9)(f_s_l1Below:D4):∀ x,(C4 cfg [V0 f_s_l1Once,E8 f_s_l1Below] C5d 65 [.cell 4 77] (Tryz.f110.body.getD .skip) B3d B3e).fn x=A7N f_s_l1Once f_s_l1Below x.1 x.2.1:=by intro x;kernel_rfl
theorem C5g:B1 Tryz.prog 110 C5e:=sm MO B2 (tc Tryz.call84 A0a (tc Tryz.call86 F8 A7)) Tryz.func110 (by kernel_rfl) (by decide) (C5f I8 C0)
def C7H:Nat->Option Jn:=B4 [(31,⟨[.b 5 [.ro 9 .str,.ro 9 .str,.int .i64,.int .i64,.ro 109 kUp,.ro 130 A9,.ro 79 (.pair .str (.pair (.rs 5 (.int .u8)) D8)),.ro 4 .bool,.ro 113 (.pair (.int .i64) (.pair A06 (.rs 5 (.int .u8)))),.ro 130 A9,.ro 3 (.int .i64)],.b 6 [.int .i64,.int .i64,.own 94210],.b 36864 [.ro 5 (.int .u8),.int .i64,.int .i64],.r 94210 4 .bool],lt 16 7 [.r 53253,.r 53255,.r 53257,.r 53258,.t 12],true⟩)]
abbrev B5d:List PK:= [.val false (.rs 5 (.int .u8)) false]
abbrev B5e:List RK:= [.val true (.pair (.pair (.pair (.pair (.rs 9 .str) (.rs 9 .str)) (.pair (.int .i64) (.pair (.int .i64) (.rs 109 kUp)))) (.rs 130 A9)) (.pair (.rs 79 B3) (.pair (.rs 4 .bool) (.pair (.rs 113 E5) (.pair (.rs 130 A9) (.rs 3 (.int .i64))))))),.val true D0q]
def B5f(f:A4f):Nat×Fn:=(49,⟨B5d,B5e,fun x=>f x.1⟩)
def C7I:Fn:=(B5f A22).2
theorem C7J(f_s_l1New:C0s)(f_s_l1Size:B6E)(f_s_l1Below:D4)(f_s_l18Event_r0_0:A3P)(f_s_l18Any_r0_0_r99_0:A1B)(f_s_l1Int:G9):∀ x,(C4 cfg [B7u f_s_l1New,D2h f_s_l1Size,E8 f_s_l1Below,B3f f_s_l18Event_r0_0,A8P f_s_l18Any_r0_0_r99_0,K1 f_s_l1Int] C7H 38 [.cell 2 38,.cell 3 77] (Tryz.f49.body.getD .skip) B5d B5e).fn x=A8r f_s_l1New f_s_l1Size f_s_l1Below f_s_l18Event_r0_0 f_s_l18Any_r0_0_r99_0 f_s_l1Int x.1:=by intro x;kernel_rfl
theorem C7K:B1 Tryz.prog 49 C7I:=sm MO B2 (tc Tryz.call67 C9S (tc Tryz.call69 E2D (tc Tryz.call86 F8 (tc Tryz.call110 C5g (tc Tryz.call114 B8V (tc Tryz.call115 L6 A7)))))) Tryz.func49 (by kernel_rfl) (by decide) (C7J B4T B1r C0 A1S W7 G5)
abbrev C5h:List PK:= [.val true (.pair (.pair (.pair (.pair (.rs 9 .str) (.rs 9 .str)) (.pair (.int .i64) (.pair (.int .i64) (.rs 109 kUp)))) (.rs 130 A9)) (.pair (.rs 79 B3) (.pair (.rs 4 .bool) (.pair (.rs 113 E5) (.pair (.rs 130 A9) (.rs 3 (.int .i64))))))) false,.val true (.pair (.int .i64) (.pair (.int .i64) (.rs 4 .bool))) false]
abbrev C5i:List RK:= [.val true (.pair (.pair (.pair (.pair (.rs 9 .str) (.rs 9 .str)) (.pair (.int .i64) (.pair (.int .i64) (.rs 109 (.pair .str (.pair (.int .i64) (.pair (.rs 5 (.int .u8)) .bool))))))) (.sl 130 A9)) (.pair (.sl 79 (.pair .str (.pair (.rs 5 (.int .u8)) D8))) (.pair (.sl 4 .bool) (.pair (.sl 113 (.pair (.int .i64) (.pair A06 (.rs 5 (.int .u8))))) (.pair (.sl 130 A9) (.sl 3 (.int .i64))))))),.val false .bool]
def C5j(f:B15):Nat×Fn:=(50,⟨C5h,C5i,fun x=>f x.1 x.2.1⟩)
def D7U:Fn:=(C5j A7O).2
theorem D7V(f_s_WorldOk:A6N)(f_s_l18Copy:A45)(f_s_l18Do_W:A44):∀ x,(C4 cfg [C0N f_s_WorldOk,A6k f_s_l18Copy,C0U f_s_l18Do_W] (B4 []) 20 [.cell 4 38,.tmp 5] (Tryz.f50.body.getD .skip) C5h C5i).fn x=B6R f_s_WorldOk f_s_l18Copy f_s_l18Do_W x.1 x.2.1:=by intro x;kernel_rfl
theorem D7W:B1 Tryz.prog 50 D7U:=sm MO B2 (tc Tryz.call70 C8V (tc Tryz.call109 B5L (tc Tryz.call111 C8e A7))) Tryz.func50 (by kernel_rfl) (by decide) (D7V O3 A2C A0q)
def E2i:Nat->Option Jn:=B4 [(63,⟨[],lt 29 12 [],false⟩),(255,⟨[],lt 70 18 [.t 9,.x 80],false⟩),(2042,⟨[.t 9 false [.int .i64]],lt 70 18 [.x 80],false⟩)]
abbrev B7M:List PK:= [.val false (.rs 5 (.int .u8)) false]
abbrev D3a:List RK:= [.val false .bool]
def E2j(f:D0w):Nat×Fn:=(10,⟨B7M,D3a,fun x=>f x.1⟩)
def F_w_FnDone:Fn:=(E2j C3E).2
theorem E2k(f_w_big:C9w)(f_i_WorldOk:A6K)(f_w_sameUps:B2n)(f_i_Do:D6B)(f_s_DrawDo_r99_0:A4f)(f_s_Do_r99_0:B15):∀ x,(C4 cfg [E3g f_w_big,B9o f_i_WorldOk,C82 f_w_sameUps,E7h f_i_Do,B5f f_s_DrawDo_r99_0,C5j f_s_Do_r99_0] E2i 90 [.tmp 2] (Tryz.f10.body.getD .skip) B7M D3a).fn x=C3D f_w_big f_i_WorldOk f_w_sameUps f_i_Do f_s_DrawDo_r99_0 f_s_Do_r99_0 x.1:=by intro x;kernel_rfl
theorem E2l:B1 Tryz.prog 10 F_w_FnDone:=sm MO B2 (tc Tryz.call15 E96 (tc Tryz.call23 C7w (tc Tryz.call29 D9K (tc Tryz.call46 F0P (tc Tryz.call49 C7K (tc Tryz.call50 D7W A7)))))) Tryz.func10 (by kernel_rfl) (by decide) (E2k D00 A1J A9e D0u A22 A7O)
end
end Go.Proofs.YtpdcljonclhhpaaGreat.Ev
