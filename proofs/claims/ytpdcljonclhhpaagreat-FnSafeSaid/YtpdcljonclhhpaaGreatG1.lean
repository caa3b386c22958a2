/- Each function of the program does what its plain function says. -/
import Derived.Test.YtpdcljonclhhpaaGreatTy
import Derived.Test.YtpdcljonclhhpaaGreatPu
import Derived.Test.YtpdcljonclhhpaaGreatIns
set_option linter.unusedVariables false
set_option maxRecDepth 100000
namespace Go.Proofs.YtpdcljonclhhpaaGreat.Ev
noncomputable section
abbrev A3r:List PK:= [.val false (.sl 109 kUp) false,.val false (.int .i64) false,.val false (.sl 109 kUp) false]
abbrev A3s:List RK:= [.val false (.sl 109 kUp)]
def Z0(f:K1):Nat×Fn:=(290,⟨A3r,A3s,fun x=>f x.1 x.2.1 x.2.2.1⟩)
def A3t:Fn:=(Z0 K2).2
theorem A3u:B3 Tryz.prog 290 A3t:=C5N kUp (by decide)
abbrev A3v:List PK:= [.val false (.sl 109 kUp) false,.val false (.int .i64) false,.val false (.int .i64) false]
abbrev A3w:List RK:= [.val false (.sl 109 kUp)]
def Z1(f:K3):Nat×Fn:=(291,⟨A3v,A3w,fun x=>f x.1 x.2.1 x.2.2.1⟩)
def A3x:Fn:=(Z1 K4).2
theorem A3y:B3 Tryz.prog 291 A3x:=C5L kUp (by decide)
abbrev D1Y:List PK:= [.val false (.rs 5 (.int .u8)) false]
abbrev D1Z:List RK:= [.val false .bool]
def D1a(f:B9s):Nat×Fn:=(15,⟨D1Y,D1Z,fun x=>f x.1⟩)
def D6V:Fn:=(D1a B9t).2
theorem D6W:∀ x,(C5 cfg [] (B4 []) 6 [.tmp 2] (Tryz.f15.body.getD .skip) D1Y D1Z).fn x=C4z x.1:=by intro x;kernel_rfl
theorem D6X:B3 Tryz.prog 15 D6V:=sm MO B6 A6 Tryz.func15 (by kernel_rfl) (by decide) (D6W)
abbrev A22:List PK:= [.val false (.rs 5 (.int .u8)) false]
abbrev A23:List RK:= [.val false (.sl 5 (.int .u8))]
def Y9(f:I5):Nat×Fn:=(191,⟨A22,A23,fun x=>f x.1⟩)
def A8E:Fn:=(Y9 G5).2
theorem A8F:∀ x,(C5 cfg [] (B4 []) 8 [.tmp 2] (Tryz.f191.body.getD .skip) A22 A23).fn x=Y0 x.1:=by intro x;kernel_rfl
theorem A24:B3 Tryz.prog 191 A8E:=sm MO B6 A6 Tryz.func191 (by kernel_rfl) (by decide) (A8F)
abbrev C1U:List PK:= [.val true (.pair .str (.pair (.int .i64) (.pair (.rs 5 (.int .u8)) .bool))) false]
abbrev C1V:List RK:= [.val true kUp]
def C1W(f:A6W):Nat×Fn:=(144,⟨C1U,C1V,fun x=>f x.1⟩)
def C9i:Fn:=(C1W A2P).2
theorem C9j(f_slices_Clone_byte_byte:I5):∀ x,(C5 cfg [Y9 f_slices_Clone_byte_byte] (B4 []) 8 [.cell 2 109] (Tryz.f144.body.getD .skip) C1U C1V).fn x=B4T f_slices_Clone_byte_byte x.1:=by intro x;kernel_rfl
theorem C9k:B3 Tryz.prog 144 C9i:=sm MO B6 (tc Tryz.call191 A24 A6) Tryz.func144 (by kernel_rfl) (by decide) (C9j G5)
def D4w:Nat→Option Jn:=B4 [(3,⟨[],lt 7 12 [.b 7,.t 21],false⟩),(26,⟨[.t 11 false [.int .i64]],lt 12 7 [.b 7,.t 7,.t 21],false⟩)]
abbrev C71:List PK:= [.val true (.pair (.pair (.rs 9 .str) (.rs 9 .str)) (.pair (.int .i64) (.pair (.int .i64) (.rs 109 kUp)))) false,.val false .str false]
abbrev C72:List RK:= [.val true kUp,.val false .bool]
def B62(f:A17):Nat×Fn:=(75,⟨C71,C72,fun x=>f x.1 x.2.1⟩)
def D4x:Fn:=(B62 A0X).2
theorem D4y(f_i_copyUp:A6W):∀ x,(C5 cfg [C1W f_i_copyUp] D4w 23 [.cell 4 109,.tmp 5] (Tryz.f75.body.getD .skip) C71 C72).fn x=C0i f_i_copyUp x.1 x.2.1:=by intro x;kernel_rfl
theorem C1X:B3 Tryz.prog 75 D4x:=sm MO B6 (tc Tryz.call144 C9k A6) Tryz.func75 (by kernel_rfl) (by decide) (D4y A2P)
abbrev B3n:List PK:= [.val false (.rs 5 (.int .u8)) false,.val false (.rs 5 (.int .u8)) false]
abbrev B3o:List RK:= [.val false .bool]
def A4s(f:R6):Nat×Fn:=(77,⟨B3n,B3o,fun x=>f x.1 x.2.1⟩)
def C36:Fn:=(A4s M1).2
theorem C37:∀ x,(C5 cfg [] (B4 []) 10 [.tmp 4] (Tryz.f77.body.getD .skip) B3n B3o).fn x=A1q x.1 x.2.1:=by intro x;kernel_rfl
theorem A8G:B3 Tryz.prog 77 C36:=sm MO B6 A6 Tryz.func77 (by kernel_rfl) (by decide) (C37)
abbrev A7n:List PK:= [.val false (.rs 5 (.int .u8)) false,.val false (.rs 5 (.int .u8)) false]
abbrev A7o:List RK:= [.val false .bool]
def A7p(f:X2):Nat×Fn:=(76,⟨A7n,A7o,fun x=>f x.1 x.2.1⟩)
def B63:Fn:=(A7p S7).2
theorem B64(f_bytes_Equal:R6):∀ x,(C5 cfg [A4s f_bytes_Equal] (B4 []) 18 [.tmp 4] (Tryz.f76.body.getD .skip) A7n A7o).fn x=A3A f_bytes_Equal x.1 x.2.1:=by intro x;kernel_rfl
theorem B65:B3 Tryz.prog 76 B63:=sm MO B6 (tc Tryz.call77 A8G A6) Tryz.func76 (by kernel_rfl) (by decide) (B64 M1)
def C9l:Nat→Option Jn:=B4 [(26,⟨[.t 10 false [.int .i64]],lt 11 30 (lt 4 3 [.b 4,.b 5,.r 86018]),false⟩)]
abbrev C1Y:List PK:= [.val true (.pair (.pair (.pair (.pair (.rs 9 .str) (.rs 9 .str)) (.pair (.int .i64) (.pair (.int .i64) (.rs 109 kUp)))) (.rs 130 B0)) (.pair (.rs 79 A9) (.pair (.rs 4 .bool) (.pair (.rs 113 H0) (.pair (.rs 130 B0) (.rs 3 (.int .i64))))))) false]
abbrev C1Z:List RK:= [.val false .bool]
def B52(f:A4E):Nat×Fn:=(19,⟨C1Y,C1Z,fun x=>f x.1⟩)
def C9m:Fn:=(B52 A2Q).2
theorem C9n(f_i_UpAt:A17)(f_bytes_HasPrefix:X2):∀ x,(C5 cfg [B62 f_i_UpAt,A7p f_bytes_HasPrefix] C9l 41 [.tmp 2] (Tryz.f19.body.getD .skip) C1Y C1Z).fn x=C0j f_i_UpAt f_bytes_HasPrefix x.1:=by intro x;kernel_rfl
theorem C1a:B3 Tryz.prog 19 C9m:=sm MO B6 (tc Tryz.call75 C1X (tc Tryz.call76 B65 A6)) Tryz.func19 (by kernel_rfl) (by decide) (C9n A0X S7)
def C73:Nat→Option Jn:=B4 [(26,⟨[.t 10 false [.int .i64]],lt 11 40 (lt 3 4 [.b 4,.b 5,.r 143362]),false⟩),(1689,⟨[],lt 15 13 [],false⟩)]
abbrev B8E:List PK:= [.val true (.pair (.pair (.pair (.pair (.rs 9 .str) (.rs 9 .str)) (.pair (.int .i64) (.pair (.int .i64) (.rs 109 kUp)))) (.rs 130 B0)) (.pair (.rs 79 A9) (.pair (.rs 4 .bool) (.pair (.rs 113 H0) (.pair (.rs 130 B0) (.rs 3 (.int .i64))))))) false]
abbrev B8F:List RK:= [.val false .bool]
def B2W(f:A2i):Nat×Fn:=(20,⟨B8E,B8F,fun x=>f x.1⟩)
def C74:Fn:=(B2W A04).2
theorem C75(f_i_UpAt:A17):∀ x,(C5 cfg [B62 f_i_UpAt] C73 51 [.tmp 2] (Tryz.f20.body.getD .skip) B8E B8F).fn x=B81 f_i_UpAt x.1:=by intro x;kernel_rfl
theorem B8G:B3 Tryz.prog 20 C74:=sm MO B6 (tc Tryz.call75 C1X A6) Tryz.func20 (by kernel_rfl) (by decide) (C75 A0X)
def D4z:Nat→Option Jn:=B4 [(26,⟨[.t 10 false [.int .i64]],lt 11 33 (lt 4 3 [.b 4,.b 5,.r 86018]),false⟩)]
abbrev C76:List PK:= [.val true (.pair (.pair (.pair (.pair (.rs 9 .str) (.rs 9 .str)) (.pair (.int .i64) (.pair (.int .i64) (.rs 109 kUp)))) (.rs 130 B0)) (.pair (.rs 79 A9) (.pair (.rs 4 .bool) (.pair (.rs 113 H0) (.pair (.rs 130 B0) (.rs 3 (.int .i64))))))) false]
abbrev C77:List RK:= [.val false .bool]
def C1b(f:A8d):Nat×Fn:=(21,⟨C76,C77,fun x=>f x.1⟩)
def D50:Fn:=(C1b A6Y).2
theorem D51(f_i_UpAt:A17)(f_bytes_Equal:R6):∀ x,(C5 cfg [B62 f_i_UpAt,A4s f_bytes_Equal] D4z 44 [.tmp 2] (Tryz.f21.body.getD .skip) C76 C77).fn x=C6Q f_i_UpAt f_bytes_Equal x.1:=by intro x;kernel_rfl
theorem C78:B3 Tryz.prog 21 D50:=sm MO B6 (tc Tryz.call75 C1X (tc Tryz.call77 A8G A6)) Tryz.func21 (by kernel_rfl) (by decide) (D51 A0X M1)
def C38:Nat→Option Jn:=B4 [(26,⟨[.t 8 false [.int .i64]],lt 9 7 [.b 4,.t 4],false⟩)]
abbrev B3p:List PK:= [.val true (.pair (.pair (.pair (.pair (.rs 9 .str) (.rs 9 .str)) (.pair (.int .i64) (.pair (.int .i64) (.rs 109 kUp)))) (.rs 130 B0)) (.pair (.rs 79 A9) (.pair (.rs 4 .bool) (.pair (.rs 113 H0) (.pair (.rs 130 B0) (.rs 3 (.int .i64))))))) false]
abbrev B3q:List RK:= [.val false .bool]
def A8H(f:A0k):Nat×Fn:=(22,⟨B3p,B3q,fun x=>f x.1⟩)
def C39:Fn:=(A8H Y1).2
theorem C3A:∀ x,(C5 cfg [] C38 16 [.tmp 2] (Tryz.f22.body.getD .skip) B3p B3q).fn x=B3i x.1:=by intro x;kernel_rfl
theorem B3r:B3 Tryz.prog 22 C39:=sm MO B6 A6 Tryz.func22 (by kernel_rfl) (by decide) (C3A)
abbrev B8H:List PK:= [.val false (.int .i64) false,.val false (.int .i64) false,.val false (.int .i64) false]
abbrev B8I:List RK:= [.val false .bool]
def V1(f:E9):Nat×Fn:=(80,⟨B8H,B8I,fun x=>f x.1 x.2.1 x.2.2.1⟩)
def C79:Fn:=(V1 F0).2
theorem C7A:∀ x,(C5 cfg [] (B4 []) 15 [.tmp 6] (Tryz.f80.body.getD .skip) B8H B8I).fn x=B82 x.1 x.2.1 x.2.2.1:=by intro x;kernel_rfl
theorem X8:B3 Tryz.prog 80 C79:=sm MO B6 A6 Tryz.func80 (by kernel_rfl) (by decide) (C7A)
abbrev C1c:List PK:= [.val true E7 false]
abbrev C1d:List RK:= [.val false .bool]
def B53(f:A18):Nat×Fn:=(93,⟨C1c,C1d,fun x=>f x.1⟩)
def C9o:Fn:=(B53 A0E).2
theorem C9p(f_i_inRange:E9):∀ x,(C5 cfg [V1 f_i_inRange] (B4 []) 11 [.tmp 2] (Tryz.f93.body.getD .skip) C1c C1d).fn x=B4U f_i_inRange x.1:=by intro x;kernel_rfl
theorem C1e:B3 Tryz.prog 93 C9o:=sm MO B6 (tc Tryz.call80 X8 A6) Tryz.func93 (by kernel_rfl) (by decide) (C9p F0)
abbrev B8J:List PK:= [.val false (.int .i64) false]
abbrev B8K:List RK:= [.val false .bool]
def B2X(f:A2j):Nat×Fn:=(168,⟨B8J,B8K,fun x=>f x.1⟩)
def C7B:Fn:=(B2X A19).2
theorem C7C(f_i_inRange:E9):∀ x,(C5 cfg [V1 f_i_inRange] (B4 []) 5 [.tmp 2] (Tryz.f168.body.getD .skip) B8J B8K).fn x=A7N f_i_inRange x.1:=by intro x;kernel_rfl
theorem B8L:B3 Tryz.prog 168 C7B:=sm MO B6 (tc Tryz.call80 X8 A6) Tryz.func168 (by kernel_rfl) (by decide) (C7C F0)
def C9q:Nat→Option Jn:=B4 [(3,⟨[],lt 4 13 [],false⟩),(58,⟨[.t 20 false [.int .i64]],lt 21 19 [.t 3],false⟩)]
abbrev C1f:List PK:= [.val true (.pair (.rs 9 .str) (.rs 9 .str)) false]
abbrev C1g:List RK:= [.val false .bool]
def C1h(f:A9h):Nat×Fn:=(169,⟨C1f,C1g,fun x=>f x.1⟩)
def C9r:Fn:=(C1h A9i).2
theorem C9s:∀ x,(C5 cfg [] C9q 40 [.tmp 2] (Tryz.f169.body.getD .skip) C1f C1g).fn x=C0k x.1:=by intro x;kernel_rfl
theorem C9t:B3 Tryz.prog 169 C9r:=sm MO B6 A6 Tryz.func169 (by kernel_rfl) (by decide) (C9s)
def C9u:Nat→Option Jn:=B4 [(3,⟨[],lt 11 15 [],false⟩),(15,⟨[.t 8 false [.int .i64]],lt 26 17 [.t 10],true⟩),(122,⟨[.t 8 false [.int .i64],.t 33 false [.int .i64]],lt 34 9 [.t 10],false⟩)]
abbrev C1i:List PK:= [.val false (.rs 5 (.int .u8)) false,.val false (.int .i64) false,.val false (.int .i64) false]
abbrev C1j:List RK:= [.val false (.int .i64),.val false .bool]
def C1k(f:A9j):Nat×Fn:=(307,⟨C1i,C1j,fun x=>f x.1 x.2.1 x.2.2.1⟩)
def C9v:Fn:=(C1k A6Z).2
theorem C9w(f_i_inRange:E9):∀ x,(C5 cfg [V1 f_i_inRange] C9u 44 [.tmp 6,.tmp 7] (Tryz.f307.body.getD .skip) C1i C1j).fn x=B4V f_i_inRange x.1 x.2.1 x.2.2.1:=by intro x;kernel_rfl
theorem C9x:B3 Tryz.prog 307 C9v:=sm MO B6 (tc Tryz.call80 X8 A6) Tryz.func307 (by kernel_rfl) (by decide) (C9w F0)
def B1K:Nat→Option Jn:=B4 [(7,⟨[],lt 20 8 [],false⟩)]
abbrev A41:List PK:= [.ptr A7M,.val false (.int .i64) false]
abbrev A42:List RK:= [.val false (.int .i64)]
def A43(f:W0):Nat×Fn:=(285,⟨A41,A42,fun x=>f x.1 x.2.1⟩)
def B1L:Fn:=(A43 C8).2
theorem B1M(f_i_GetBig:A9j):∀ x,(C5 cfg [C1k f_i_GetBig] B1K 40 [.tmp 4] (Tryz.f285.body.getD .skip) A41 A42).fn x=Q7 f_i_GetBig x.1 x.2.1:=by intro x;kernel_rfl
theorem B1N:B3 Tryz.prog 285 B1L:=sm MO B6 (tc Tryz.call307 C9x A6) Tryz.func285 (by kernel_rfl) (by decide) (B1M A6Z)
def B3Q:Nat→Option Jn:=B4 [(3,⟨[],lt 5 18 [],false⟩)]
abbrev A5g:List PK:= [.ptr A7M,.val false (.int .i64) false]
abbrev A5h:List RK:= [.val false (.sl 5 (.int .u8))]
def A5i(f:Z2):Nat×Fn:=(286,⟨A5g,A5h,fun x=>f x.1 x.2.1⟩)
def B3R:Fn:=(A5i H1).2
theorem B3S(f_slices_Clone_byte_byte:I5):∀ x,(C5 cfg [Y9 f_slices_Clone_byte_byte] B3Q 50 [.tmp 4] (Tryz.f286.body.getD .skip) A5g A5h).fn x=U0 f_slices_Clone_byte_byte x.1 x.2.1:=by intro x;kernel_rfl
theorem B3T:B3 Tryz.prog 286 B3R:=sm MO B6 (tc Tryz.call191 A24 A6) Tryz.func286 (by kernel_rfl) (by decide) (B3S G5)
def D52:Nat→Option Jn:=B4 [(3,⟨[],lt 3 30 [],false⟩),(26,⟨[.t 3 false [.int .i64]],lt 4 29 [],false⟩)]
abbrev C7D:List PK:= [.val false .str false]
abbrev C7E:List RK:= [.val false .bool]
def B66(f:A50):Nat×Fn:=(147,⟨C7D,C7E,fun x=>f x.1⟩)
def D53:Fn:=(B66 A3C).2
theorem D54(f_i_inRange:E9):∀ x,(C5 cfg [V1 f_i_inRange] D52 36 [.tmp 2] (Tryz.f147.body.getD .skip) C7D C7E).fn x=C0l f_i_inRange x.1:=by intro x;kernel_rfl
theorem C1l:B3 Tryz.prog 147 D53:=sm MO B6 (tc Tryz.call80 X8 A6) Tryz.func147 (by kernel_rfl) (by decide) (D54 F0)
def D2q:Nat→Option Jn:=B4 [(3,⟨[],lt 3 22 [],false⟩)]
abbrev C4L:List PK:= [.val true (.pair (.int .i64) (.pair (.int .i64) (.pair (.int .i64) (.pair .str (.pair (.int .i64) (.rs 5 (.int .u8))))))) false]
abbrev C4M:List RK:= [.val false .bool]
def B7N(f:A6F):Nat×Fn:=(287,⟨C4L,C4M,fun x=>f x.1⟩)
def D2r:Fn:=(B7N A4F).2
theorem D2s(f_i_inRange:E9)(f_i_idOk:A50)(f_i_isEpoch:A2j):∀ x,(C5 cfg [V1 f_i_inRange,B66 f_i_idOk,B2X f_i_isEpoch] D2q 58 [.tmp 2] (Tryz.f287.body.getD .skip) C4L C4M).fn x=B6u f_i_inRange f_i_idOk f_i_isEpoch x.1:=by intro x;kernel_rfl
theorem C4N:B3 Tryz.prog 287 D2r:=sm MO B6 (tc Tryz.call80 X8 (tc Tryz.call147 C1l (tc Tryz.call168 B8L A6))) Tryz.func287 (by kernel_rfl) (by decide) (D2s F0 A3C A19)
def D6Y:Nat→Option Jn:=B4 [(7,⟨[.t 3 false [.int .u32]],lt 5 24 [],true⟩),(58,⟨[.t 3 false [.int .u32],.t 9 false [.int .i64]],lt 10 19 [.t 5,.t 6],false⟩),(29902,⟨[.t 3 false [.int .u32],.t 17 false [.int .i64]],lt 18 10 [.t 6],false⟩)]
abbrev D1b:List PK:= [.val false (.rs 5 (.int .u8)) false]
abbrev D1c:List RK:= [.val false (.int .i64)]
def D1d(f:B9u):Nat×Fn:=(280,⟨D1b,D1c,fun x=>f x.1⟩)
def D6Z:Fn:=(D1d B5d).2
theorem D6a:∀ x,(C5 cfg [] D6Y 32 [.tmp 2] (Tryz.f280.body.getD .skip) D1b D1c).fn x=C51 x.1:=by intro x;kernel_rfl
theorem D6b:B3 Tryz.prog 280 D6Z:=sm MO B6 A6 Tryz.func280 (by kernel_rfl) (by decide) (D6a)
def C9y:Nat→Option Jn:=B4 [(58,⟨[.t 0 false [.own 100000000],.t 7 false [.int .i64],.r 100000000 5 (.int .u8)],lt 12 13 [.r 23,.r 24,.r 1000],false⟩)]
abbrev C1m:List PK:= [.val false (.sl 5 (.int .u8)) false,.val false (.int .i64) false,.val false (.int .i64) false]
abbrev C1n:List RK:= [.val false (.sl 5 (.int .u8))]
def C1o(f:A9m):Nat×Fn:=(308,⟨C1m,C1n,fun x=>f x.1 x.2.1 x.2.2.1⟩)
def C9z:Fn:=(C1o A6a).2
theorem D00:∀ x,(C5 cfg [] C9y 26 [.tmp 6] (Tryz.f308.body.getD .skip) C1m C1n).fn x=B4W x.1 x.2.1 x.2.2.1:=by intro x;kernel_rfl
theorem D01:B3 Tryz.prog 308 C9z:=sm MO B6 A6 Tryz.func308 (by kernel_rfl) (by decide) (D00)
abbrev C1p:List PK:= [.val true (.pair (.int .i64) (.pair (.int .i64) (.pair (.int .i64) (.pair .str (.pair (.int .i64) (.rs 5 (.int .u8))))))) false]
abbrev C1q:List RK:= [.val false .str]
def C1r(f:A9n):Nat×Fn:=(288,⟨C1p,C1q,fun x=>f x.1⟩)
def D02:Fn:=(C1r A6b).2
theorem D03(f_i_Crc:B9u)(f_i_RecOk:A6F)(f_i_putBig:A9m):∀ x,(C5 cfg [D1d f_i_Crc,B7N f_i_RecOk,C1o f_i_putBig] (B4 []) 45 [.tmp 2] (Tryz.f288.body.getD .skip) C1p C1q).fn x=B4X f_i_Crc f_i_RecOk f_i_putBig x.1:=by intro x;kernel_rfl
theorem D04:B3 Tryz.prog 288 D02:=sm MO B6 (tc Tryz.call280 D6b (tc Tryz.call287 C4N (tc Tryz.call308 D01 A6))) Tryz.func288 (by kernel_rfl) (by decide) (D03 B5d A4F A6a)
abbrev C1s:List PK:= [.val false .str false]
abbrev C1t:List RK:= [.val true A5w,.val false .bool]
def B54(f:A1A):Nat×Fn:=(238,⟨C1s,C1t,fun x=>f x.1⟩)
def D05:Fn:=(B54 A0F).2
theorem D06(f_i_byteReader_number:W0)(f_i_byteReader_take:Z2)(f_i_RecOk:A6F)(f_i_PutRec:A9n):∀ x,(C5 cfg [A43 f_i_byteReader_number,A5i f_i_byteReader_take,B7N f_i_RecOk,C1r f_i_PutRec] (B4 []) 42 [.cell 2 194,.tmp 3] (Tryz.f238.body.getD .skip) C1s C1t).fn x=B4Y f_i_byteReader_number f_i_byteReader_take f_i_RecOk f_i_PutRec x.1:=by intro x;kernel_rfl
theorem C1u:B3 Tryz.prog 238 D05:=sm MO B6 (tc Tryz.call285 B1N (tc Tryz.call286 B3T (tc Tryz.call287 C4N (tc Tryz.call288 D04 A6)))) Tryz.func238 (by kernel_rfl) (by decide) (D06 C8 H1 A4F A6b)
def C5O:Nat→Option Jn:=B4 [(122,⟨[.t 3 false [.own 100000000],.t 4 false [.int .i64],.t 12 false [.int .i64],.r 100000000 194 A5w],lt 13 30 (lt 5 4 [.b 7,.r 38,.r 39,.r 81925]),false⟩)]
abbrev B67:List PK:= [.val true (.pair (.rs 9 .str) (.rs 9 .str)) false]
abbrev B68:List RK:= [.val false (.sl 194 A5w)]
def B69(f:A5y):Nat×Fn:=(170,⟨B67,B68,fun x=>f x.1⟩)
def C5P:Fn:=(B69 A3E).2
theorem C5Q(f_i_GetRec:A1A):∀ x,(C5 cfg [B54 f_i_GetRec] C5O 44 [.tmp 2] (Tryz.f170.body.getD .skip) B67 B68).fn x=A9o f_i_GetRec x.1:=by intro x;kernel_rfl
theorem C5R:B3 Tryz.prog 170 C5P:=sm MO B6 (tc Tryz.call238 C1u A6) Tryz.func170 (by kernel_rfl) (by decide) (C5Q A0F)
def D55:Nat→Option Jn:=B4 [(7,⟨[.t 6 false [.int .i64]],lt 7 15 [],true⟩),(28,⟨[.t 6 false [.int .i64]],lt 7 15 [],false⟩)]
abbrev C7F:List PK:= [.val false (.rs 109 kUp) false,.val false .str false]
abbrev C7G:List RK:= [.val false (.int .i64),.val false .bool]
def C7H(f:B5e):Nat×Fn:=(289,⟨C7F,C7G,fun x=>f x.1 x.2.1⟩)
def D56:Fn:=(C7H B1o).2
theorem D57:∀ x,(C5 cfg [] D55 36 [.tmp 4,.tmp 5] (Tryz.f289.body.getD .skip) C7F C7G).fn x=C0m x.1 x.2.1:=by intro x;kernel_rfl
theorem D58:B3 Tryz.prog 289 D56:=sm MO B6 A6 Tryz.func289 (by kernel_rfl) (by decide) (D57)
def D59:Nat→Option Jn:=B4 [(58,⟨[],lt 19 6 [],false⟩),(2026,⟨[],lt 43 30 [],false⟩)]
abbrev C7I:List PK:= [.val false (.sl 109 kUp) false,.val true (.pair (.int .i64) (.pair (.int .i64) (.pair (.int .i64) (.pair .str (.pair (.int .i64) (.rs 5 (.int .u8))))))) false]
abbrev C7J:List RK:= [.val false (.sl 109 kUp),.val false .bool]
def C7K(f:B1p):Nat×Fn:=(239,⟨C7I,C7J,fun x=>f x.1 x.2.1⟩)
def D5A:Fn:=(C7K A8f).2
theorem D5B(f_i_upAt:B5e)(f_slices_Insert_impl_Up_impl_Up:K1)(f_slices_Delete_impl_Up_impl_Up:K3):∀ x,(C5 cfg [C7H f_i_upAt,Z0 f_slices_Insert_impl_Up_impl_Up,Z1 f_slices_Delete_impl_Up_impl_Up] D59 113 [.tmp 4,.tmp 5] (Tryz.f239.body.getD .skip) C7I C7J).fn x=C0n f_i_upAt f_slices_Insert_impl_Up_impl_Up f_slices_Delete_impl_Up_impl_Up x.1 x.2.1:=by intro x;kernel_rfl
theorem D5C:B3 Tryz.prog 239 D5A:=sm MO B6 (tc Tryz.call289 D58 (tc Tryz.call290 A3u (tc Tryz.call291 A3y A6))) Tryz.func239 (by kernel_rfl) (by decide) (D5B B1o K2 K4)
def C5S:Nat→Option Jn:=B4 [(7,⟨[.t 4 false [.own 100000000],.r 100000000 109 kUp],lt 6 19 [.b 6,.r 77824],false⟩),(58,⟨[.t 4 false [.own 100000000],.t 11 false [.int .i64],.r 100000000 109 kUp],lt 12 13 (lt 6 3 [.b 6,.r 77824]),false⟩)]
abbrev B6A:List PK:= [.val false (.rs 194 A5w) false]
abbrev B6B:List RK:= [.val false (.sl 109 kUp),.val false .bool]
def B6C(f:A5z):Nat×Fn:=(171,⟨B6A,B6B,fun x=>f x.1⟩)
def C5T:Fn:=(B6C A3G).2
theorem C5U(f_i_fold:B1p):∀ x,(C5 cfg [C7K f_i_fold] C5S 26 [.tmp 2,.tmp 3] (Tryz.f171.body.getD .skip) B6A B6B).fn x=A9p f_i_fold x.1:=by intro x;kernel_rfl
theorem C5V:B3 Tryz.prog 171 C5T:=sm MO B6 (tc Tryz.call239 D5C A6) Tryz.func171 (by kernel_rfl) (by decide) (C5U A8f)
def C7L:Nat→Option Jn:=B4 [(58,⟨[.t 3 false [.int .i64],.t 10 false [.int .i64]],lt 11 14 (lt 5 3 [.b 6,.r 69637]),false⟩)]
abbrev B8M:List PK:= [.val false (.rs 9 .str) false]
abbrev B8N:List RK:= [.val false (.int .i64)]
def B8O(f:A7O):Nat×Fn:=(174,⟨B8M,B8N,fun x=>f x.1⟩)
def C7M:Fn:=(B8O A51).2
theorem C7N(f_i_GetRec:A1A):∀ x,(C5 cfg [B54 f_i_GetRec] C7L 26 [.tmp 2] (Tryz.f174.body.getD .skip) B8M B8N).fn x=B1q f_i_GetRec x.1:=by intro x;kernel_rfl
theorem C7O:B3 Tryz.prog 174 C7M:=sm MO B6 (tc Tryz.call238 C1u A6) Tryz.func174 (by kernel_rfl) (by decide) (C7N A0F)
abbrev C1v:List PK:= [.val true (.pair .str (.pair (.int .i64) (.pair (.rs 5 (.int .u8)) .bool))) false,.val true (.pair .str (.pair (.int .i64) (.pair (.rs 5 (.int .u8)) .bool))) false]
abbrev C1w:List RK:= [.val false .bool]
def C1x(f:A6d):Nat×Fn:=(173,⟨C1v,C1w,fun x=>f x.1 x.2.1⟩)
def D07:Fn:=(C1x A6e).2
theorem D08(f_bytes_Equal:R6):∀ x,(C5 cfg [A4s f_bytes_Equal] (B4 []) 31 [.tmp 4] (Tryz.f173.body.getD .skip) C1v C1w).fn x=B4Z f_bytes_Equal x.1 x.2.1:=by intro x;kernel_rfl
theorem D09:B3 Tryz.prog 173 D07:=sm MO B6 (tc Tryz.call77 A8G A6) Tryz.func173 (by kernel_rfl) (by decide) (D08 M1)
def Q3:Nat→Option Jn:=B4 [(58,⟨[.t 17 false [.int .i64]],lt 18 14 (lt 7 3 [.b 8,.b 9]),false⟩)]
abbrev G7:List PK:= [.val false (.rs 109 kUp) false,.val false (.rs 109 kUp) false,.val false (.fnc 173) false]
abbrev G8:List RK:= [.val false .bool]
def G9(f:C6):Nat×Fn:=(172,⟨G7,G8,fun x=>f x.1 x.2.1 x.2.2.1⟩)
def Q4:Fn:=(G9 C2).2
theorem Q5(f_i_sameUp:A6d):∀ x,(C5 cfg [C1x f_i_sameUp] Q3 32 [.tmp 6] (Tryz.f172.body.getD .skip) G7 G8).fn x=E1 f_i_sameUp x.1 x.2.1 x.2.2.1:=by intro x;kernel_rfl
theorem Q6:B3 Tryz.prog 172 Q4:=sm MO B6 (tc Tryz.call173 D09 A6) Tryz.func172 (by kernel_rfl) (by decide) (Q5 A6e)
def C7P:Nat→Option Jn:=B4 [(3,⟨[],lt 6 10 [],false⟩),(31,⟨[],lt 24 16 [],false⟩),(63,⟨[],lt 40 15 [.x 50],false⟩)]
abbrev B8P:List PK:= [.val true (.pair (.pair (.rs 9 .str) (.rs 9 .str)) (.pair (.int .i64) (.pair (.int .i64) (.rs 109 kUp)))) false]
abbrev B8Q:List RK:= [.val false .bool]
def B8R(f:A7P):Nat×Fn:=(94,⟨B8P,B8Q,fun x=>f x.1⟩)
def C7Q:Fn:=(B8R A1B).2
theorem C7R(f_i_isEpoch:A2j)(f_i_DiskOk:A9h)(f_i_ScanRecs:A5y)(f_i_FoldRecs:A5z)(f_slices_EqualFunc_impl_Up_impl_Up_impl_Up_impl_Up_r1002_173:C6)(f_i_topFrom:A7O):∀ x,(C5 cfg [B2X f_i_isEpoch,C1h f_i_DiskOk,B69 f_i_ScanRecs,B6C f_i_FoldRecs,G9 f_slices_EqualFunc_impl_Up_impl_Up_impl_Up_impl_Up_r1002_173,B8O f_i_topFrom] C7P 65 [.tmp 2] (Tryz.f94.body.getD .skip) B8P B8Q).fn x=B1r f_i_isEpoch f_i_DiskOk f_i_ScanRecs f_i_FoldRecs f_slices_EqualFunc_impl_Up_impl_Up_impl_Up_impl_Up_r1002_173 f_i_topFrom x.1:=by intro x;kernel_rfl
theorem C7S:B3 Tryz.prog 94 C7Q:=sm MO B6 (tc Tryz.call168 B8L (tc Tryz.call169 C9t (tc Tryz.call170 C5R (tc Tryz.call171 C5V (tc Tryz.call172 Q6 (tc Tryz.call174 C7O A6)))))) Tryz.func94 (by kernel_rfl) (by decide) (C7R A19 A9i A3E A3G C2 A51)
def C5W:Nat→Option Jn:=B4 [(3,⟨[],lt 4 13 [.b 4],false⟩),(26,⟨[.t 8 false [.int .i64]],lt 9 8 [.b 4,.t 4],false⟩)]
abbrev B6D:List PK:= [.val true (.pair (.pair (.pair (.rs 9 .str) (.rs 9 .str)) (.pair (.int .i64) (.pair (.int .i64) (.rs 109 kUp)))) (.rs 130 B0)) false]
abbrev B6E:List RK:= [.val false .bool]
def B6F(f:A60):Nat×Fn:=(28,⟨B6D,B6E,fun x=>f x.1⟩)
def C5X:Fn:=(B6F A1Y).2
theorem C5Y(f_i_RespOk:A18)(f_i_StoreOk:A7P):∀ x,(C5 cfg [B53 f_i_RespOk,B8R f_i_StoreOk] C5W 26 [.tmp 2] (Tryz.f28.body.getD .skip) B6D B6E).fn x=A9q f_i_RespOk f_i_StoreOk x.1:=by intro x;kernel_rfl
theorem C5Z:B3 Tryz.prog 28 C5X:=sm MO B6 (tc Tryz.call93 C1e (tc Tryz.call94 C7S A6)) Tryz.func28 (by kernel_rfl) (by decide) (C5Y A0E A1B)
abbrev B6G:List PK:= [.val true (.pair .str (.pair (.rs 5 (.int .u8)) E7)) false]
abbrev B6H:List RK:= [.val false .bool]
def B6I(f:A3H):Nat×Fn:=(145,⟨B6G,B6H,fun x=>f x.1⟩)
def C5a:Fn:=(B6I A0G).2
theorem C5b(f_i_inRange:E9)(f_i_idOk:A50):∀ x,(C5 cfg [V1 f_i_inRange,B66 f_i_idOk] (B4 []) 25 [.tmp 2] (Tryz.f145.body.getD .skip) B6G B6H).fn x=A9r f_i_inRange f_i_idOk x.1:=by intro x;kernel_rfl
theorem C5c:B3 Tryz.prog 145 C5a:=sm MO B6 (tc Tryz.call80 X8 (tc Tryz.call147 C1l A6)) Tryz.func145 (by kernel_rfl) (by decide) (C5b F0 A3C)
def C3B:Nat→Option Jn:=B4 [(3,⟨[],lt 6 28 [.b 4,.b 6,.t 3,.t 4],false⟩),(26,⟨[.t 10 false [.int .i64]],lt 11 23 [.b 4,.b 6,.t 3,.t 4,.t 6],false⟩),(13518,⟨[.t 23 false [.int .i64]],lt 24 9 [.b 6,.t 6],false⟩)]
abbrev B3s:List PK:= [.val true (.pair (.pair (.pair (.pair (.rs 9 .str) (.rs 9 .str)) (.pair (.int .i64) (.pair (.int .i64) (.rs 109 kUp)))) (.rs 130 B0)) (.pair (.rs 79 A9) (.pair (.rs 4 .bool) (.pair (.rs 113 H0) (.pair (.rs 130 B0) (.rs 3 (.int .i64))))))) false]
abbrev B3t:List RK:= [.val false .bool]
def B3u(f:A4g):Nat×Fn:=(78,⟨B3s,B3t,fun x=>f x.1⟩)
def C3C:Fn:=(B3u A1r).2
theorem C3D(f_i_ClientOk:A3H):∀ x,(C5 cfg [B6I f_i_ClientOk] C3B 56 [.tmp 2] (Tryz.f78.body.getD .skip) B3s B3t).fn x=A84 f_i_ClientOk x.1:=by intro x;kernel_rfl
theorem C3E:B3 Tryz.prog 78 C3C:=sm MO B6 (tc Tryz.call145 C5c A6) Tryz.func78 (by kernel_rfl) (by decide) (C3D A0G)
abbrev B0r:List PK:= [.val false (.int .i64) false]
abbrev B0s:List RK:= [.val false .str,.val false (.int .i64)]
def B0t(f:A2F):Nat×Fn:=(146,⟨B0r,B0s,fun x=>f x.1⟩)
def B9F:Fn:=(B0t A2G).2
theorem B9G:∀ x,(C5 cfg [] (B4 []) 11 [.tmp 2,.tmp 3] (Tryz.f146.body.getD .skip) B0r B0s).fn x=A5P x.1:=by intro x;kernel_rfl
theorem B9H:B3 Tryz.prog 146 B9F:=sm MO B6 A6 Tryz.func146 (by kernel_rfl) (by decide) (B9G)
abbrev C4O:List PK:= [.val true W6 false]
abbrev C4P:List RK:= [.val false .bool]
def C4Q(f:A8g):Nat×Fn:=(79,⟨C4O,C4P,fun x=>f x.1⟩)
def D2t:Fn:=(C4Q A6G).2
theorem D2u(f_i_inRange:E9)(f_i_numberField:A2F)(f_i_idOk:A50):∀ x,(C5 cfg [V1 f_i_inRange,B0t f_i_numberField,B66 f_i_idOk] (B4 []) 25 [.tmp 2] (Tryz.f79.body.getD .skip) C4O C4P).fn x=B6v f_i_inRange f_i_numberField f_i_idOk x.1:=by intro x;kernel_rfl
theorem D2v:B3 Tryz.prog 79 D2t:=sm MO B6 (tc Tryz.call80 X8 (tc Tryz.call146 B9H (tc Tryz.call147 C1l A6))) Tryz.func79 (by kernel_rfl) (by decide) (D2u F0 A2G A3C)
def D0A:Nat→Option Jn:=B4 [(26,⟨[.t 9 false [.int .i64]],lt 10 18 [.b 6,.t 6],false⟩)]
abbrev C1y:List PK:= [.val true (.pair (.pair (.pair (.pair (.rs 9 .str) (.rs 9 .str)) (.pair (.int .i64) (.pair (.int .i64) (.rs 109 kUp)))) (.rs 130 B0)) (.pair (.rs 79 A9) (.pair (.rs 4 .bool) (.pair (.rs 113 H0) (.pair (.rs 130 B0) (.rs 3 (.int .i64))))))) false,.val false (.rs 130 B0) false]
abbrev C1z:List RK:= [.val false .bool]
def C20(f:A9t):Nat×Fn:=(81,⟨C1y,C1z,fun x=>f x.1 x.2.1⟩)
def D0B:Fn:=(C20 A6f).2
theorem D0C(f_i_inRange:E9)(f_i_RespOk:A18):∀ x,(C5 cfg [V1 f_i_inRange,B53 f_i_RespOk] D0A 28 [.tmp 4] (Tryz.f81.body.getD .skip) C1y C1z).fn x=B4a f_i_inRange f_i_RespOk x.1 x.2.1:=by intro x;kernel_rfl
theorem D0D:B3 Tryz.prog 81 D0B:=sm MO B6 (tc Tryz.call80 X8 (tc Tryz.call93 C1e A6)) Tryz.func81 (by kernel_rfl) (by decide) (D0C F0 A0E)
def C7T:Nat→Option Jn:=B4 [(3,⟨[],lt 5 15 [],false⟩),(7,⟨[],lt 20 22 [.b 4,.t 4],false⟩),(58,⟨[.t 23 false [.int .i64]],lt 24 18 [.b 4,.t 4],false⟩)]
abbrev B8S:List PK:= [.val true (.pair (.pair (.pair (.pair (.rs 9 .str) (.rs 9 .str)) (.pair (.int .i64) (.pair (.int .i64) (.rs 109 kUp)))) (.rs 130 B0)) (.pair (.rs 79 A9) (.pair (.rs 4 .bool) (.pair (.rs 113 H0) (.pair (.rs 130 B0) (.rs 3 (.int .i64))))))) false]
abbrev B8T:List RK:= [.val false .bool]
def B2Y(f:A2k):Nat×Fn:=(23,⟨B8S,B8T,fun x=>f x.1⟩)
def C7U:Fn:=(B2Y A05).2
theorem C7V(f_i_ServerOk:A60)(f_i_clientsOk:A4g)(f_i_ReqOk:A8g)(f_i_inRange:E9)(f_i_heldOk:A9t):∀ x,(C5 cfg [B6F f_i_ServerOk,B3u f_i_clientsOk,C4Q f_i_ReqOk,V1 f_i_inRange,C20 f_i_heldOk] C7T 58 [.tmp 2] (Tryz.f23.body.getD .skip) B8S B8T).fn x=B1t f_i_ServerOk f_i_clientsOk f_i_ReqOk f_i_inRange f_i_heldOk x.1:=by intro x;kernel_rfl
theorem B8U:B3 Tryz.prog 23 C7U:=sm MO B6 (tc Tryz.call28 C5Z (tc Tryz.call78 C3E (tc Tryz.call79 D2v (tc Tryz.call80 X8 (tc Tryz.call81 D0D A6))))) Tryz.func23 (by kernel_rfl) (by decide) (C7V A1Y A1r A6G F0 A6f)
abbrev C7W:List PK:= [.val true (.pair (.pair (.pair (.pair (.rs 9 .str) (.rs 9 .str)) (.pair (.int .i64) (.pair (.int .i64) (.rs 109 kUp)))) (.rs 130 B0)) (.pair (.rs 79 A9) (.pair (.rs 4 .bool) (.pair (.rs 113 H0) (.pair (.rs 130 B0) (.rs 3 (.int .i64))))))) false]
abbrev C7X:List RK:= [.val false (.int .i64)]
def C7Y(f:B5f):Nat×Fn:=(17,⟨C7W,C7X,fun x=>f x.1⟩)
def D5D:Fn:=(C7Y B5g).2
theorem D5E(f_i_Begins:A4E)(f_i_NotLost:A2i)(f_i_Ends:A8d)(f_i_NoneFails:A0k)(f_i_WorldOk:A2k):∀ x,(C5 cfg [B52 f_i_Begins,B2W f_i_NotLost,C1b f_i_Ends,A8H f_i_NoneFails,B2Y f_i_WorldOk] (B4 []) 23 [.tmp 2] (Tryz.f17.body.getD .skip) C7W C7X).fn x=C0o f_i_Begins f_i_NotLost f_i_Ends f_i_NoneFails f_i_WorldOk x.1:=by intro x;kernel_rfl
theorem D5F:B3 Tryz.prog 17 D5D:=sm MO B6 (tc Tryz.call19 C1a (tc Tryz.call20 B8G (tc Tryz.call21 C78 (tc Tryz.call22 B3r (tc Tryz.call23 B8U A6))))) Tryz.func17 (by kernel_rfl) (by decide) (D5E A2Q A04 A6Y Y1 A05)
abbrev C7Z:List PK:= [.val false (.int .i64) false,.val false (.int .i64) false,.val false (.int .i64) false]
abbrev C7a:List RK:= [.val false .bool]
def R0(f:D7):Nat×Fn:=(120,⟨C7Z,C7a,fun x=>f x.1 x.2.1 x.2.2.1⟩)
def D5G:Fn:=(R0 D8).2
theorem D5H:∀ x,(C5 cfg [] (B4 []) 15 [.tmp 6] (Tryz.f120.body.getD .skip) C7Z C7a).fn x=C0p x.1 x.2.1 x.2.2.1:=by intro x;kernel_rfl
theorem S6:B3 Tryz.prog 120 D5G:=sm MO B6 A6 Tryz.func120 (by kernel_rfl) (by decide) (D5H)
abbrev C21:List PK:= [.val true E7 false]
abbrev C22:List RK:= [.val false .bool]
def B55(f:A1C):Nat×Fn:=(158,⟨C21,C22,fun x=>f x.1⟩)
def D0E:Fn:=(B55 R1).2
theorem D0F(f_s_l1In:D7):∀ x,(C5 cfg [R0 f_s_l1In] (B4 []) 11 [.tmp 2] (Tryz.f158.body.getD .skip) C21 C22).fn x=B4b f_s_l1In x.1:=by intro x;kernel_rfl
theorem C23:B3 Tryz.prog 158 D0E:=sm MO B6 (tc Tryz.call120 S6 A6) Tryz.func158 (by kernel_rfl) (by decide) (D0F D8)
def D0G:Nat→Option Jn:=B4 [(3,⟨[],lt 4 13 [],false⟩),(58,⟨[.t 3 false [.int .i64]],lt 17 23 [],false⟩)]
abbrev C24:List PK:= [.val true (.pair (.rs 9 .str) (.rs 9 .str)) false]
abbrev C25:List RK:= [.val false .bool]
def B0S(f:A1D):Nat×Fn:=(231,⟨C24,C25,fun x=>f x.1⟩)
def D0H:Fn:=(B0S T6).2
theorem D0I:∀ x,(C5 cfg [] D0G 40 [.tmp 2] (Tryz.f231.body.getD .skip) C24 C25).fn x=A9u x.1:=by intro x;kernel_rfl
theorem B56:B3 Tryz.prog 231 D0H:=sm MO B6 A6 Tryz.func231 (by kernel_rfl) (by decide) (D0I)
def D0J:Nat→Option Jn:=B4 [(3,⟨[],lt 10 15 [],false⟩),(15,⟨[.t 8 false [.int .i64]],lt 25 15 [.t 9],true⟩),(122,⟨[.t 8 false [.int .i64],.t 9 false [.int .i64]],lt 25 15 [],false⟩)]
abbrev C26:List PK:= [.val false (.rs 5 (.int .u8)) false,.val false (.int .i64) false,.val false (.int .i64) false]
abbrev C27:List RK:= [.val false (.int .i64),.val false .bool]
def C28(f:A9v):Nat×Fn:=(282,⟨C26,C27,fun x=>f x.1 x.2.1 x.2.2.1⟩)
def D0K:Fn:=(C28 A4G).2
theorem D0L(f_s_l1In:D7):∀ x,(C5 cfg [R0 f_s_l1In] D0J 41 [.tmp 6,.tmp 7] (Tryz.f282.body.getD .skip) C26 C27).fn x=B4c f_s_l1In x.1 x.2.1 x.2.2.1:=by intro x;kernel_rfl
theorem D0M:B3 Tryz.prog 282 D0K:=sm MO B6 (tc Tryz.call120 S6 A6) Tryz.func282 (by kernel_rfl) (by decide) (D0L D8)
def D2w:Nat→Option Jn:=B4 [(3,⟨[],lt 3 21 [],false⟩),(26,⟨[.t 3 false [.int .i64]],lt 4 20 [],false⟩)]
abbrev C4R:List PK:= [.val false .str false]
abbrev C4S:List RK:= [.val false .bool]
def A2s(f:P4):Nat×Fn:=(160,⟨C4R,C4S,fun x=>f x.1⟩)
def D2x:Fn:=(A2s N4).2
theorem D2y(f_s_l1In:D7):∀ x,(C5 cfg [R0 f_s_l1In] D2w 27 [.tmp 2] (Tryz.f160.body.getD .skip) C4R C4S).fn x=B6w f_s_l1In x.1:=by intro x;kernel_rfl
theorem A4W:B3 Tryz.prog 160 D2x:=sm MO B6 (tc Tryz.call120 S6 A6) Tryz.func160 (by kernel_rfl) (by decide) (D2y D8)
def D2z:Nat→Option Jn:=B4 [(3,⟨[],lt 3 16 [],false⟩),(943,⟨[.t 43 false [.bool]],[.t 44,.t 45],true⟩)]
abbrev C4T:List PK:= [.val true (.pair (.int .i64) (.pair (.int .i64) (.pair (.int .i64) (.pair .str (.pair (.int .i64) (.rs 5 (.int .u8))))))) false]
abbrev C4U:List RK:= [.val false .bool]
def C4V(f:B3B):Nat×Fn:=(283,⟨C4T,C4U,fun x=>f x.1⟩)
def D30:Fn:=(C4V A8h).2
theorem D31(f_s_l1In:D7)(f_s_l11Id:P4):∀ x,(C5 cfg [R0 f_s_l1In,A2s f_s_l11Id] D2z 55 [.tmp 2] (Tryz.f283.body.getD .skip) C4T C4U).fn x=B6x f_s_l1In f_s_l11Id x.1:=by intro x;kernel_rfl
theorem D32:B3 Tryz.prog 283 D30:=sm MO B6 (tc Tryz.call120 S6 (tc Tryz.call160 A4W A6)) Tryz.func283 (by kernel_rfl) (by decide) (D31 D8 N4)
def D6c:Nat→Option Jn:=B4 [(7,⟨[.t 3 false [.int .i64]],lt 4 28 [],true⟩),(58,⟨[.t 3 false [.int .i64],.t 4 false [.int .i64]],lt 5 27 [],false⟩),(7462,⟨[.t 3 false [.int .i64],.t 5 false [.int .i64]],lt 20 12 [.t 6],false⟩)]
abbrev D1e:List PK:= [.val false (.rs 5 (.int .u8)) false]
abbrev D1f:List RK:= [.val false (.int .i64)]
def B3M(f:A2H):Nat×Fn:=(152,⟨D1e,D1f,fun x=>f x.1⟩)
def D6d:Fn:=(B3M A1Z).2
theorem D6e:∀ x,(C5 cfg [] D6c 34 [.tmp 2] (Tryz.f152.body.getD .skip) D1e D1f).fn x=C52 x.1:=by intro x;kernel_rfl
theorem B6J:B3 Tryz.prog 152 D6d:=sm MO B6 A6 Tryz.func152 (by kernel_rfl) (by decide) (D6e)
def D0N:Nat→Option Jn:=B4 [(7,⟨[.t 1 false [.int .i64]],[.t 12,.t 13],true⟩),(250,⟨[.t 7 false [.own 100001000],.t 8 false [.int .i64],.r 100001000 5 (.int .u8)],lt 20 13 [.r 11,.r 31,.r 32],false⟩)]
abbrev C29:List PK:= [.val false (.rs 5 (.int .u8)) false,.val false (.int .i64) false,.val false (.int .i64) false]
abbrev C2A:List RK:= [.val false (.sl 5 (.int .u8))]
def C2B(f:A9w):Nat×Fn:=(306,⟨C29,C2A,fun x=>f x.1 x.2.1 x.2.2.1⟩)
def D0O:Fn:=(C2B A6g).2
theorem D0P(f_s_l1In:D7):∀ x,(C5 cfg [R0 f_s_l1In] D0N 34 [.tmp 6] (Tryz.f306.body.getD .skip) C29 C2A).fn x=B4d f_s_l1In x.1 x.2.1 x.2.2.1:=by intro x;kernel_rfl
theorem D0Q:B3 Tryz.prog 306 D0O:=sm MO B6 (tc Tryz.call120 S6 A6) Tryz.func306 (by kernel_rfl) (by decide) (D0P D8)
abbrev C2C:List PK:= [.val true (.pair (.int .i64) (.pair (.int .i64) (.pair (.int .i64) (.pair .str (.pair (.int .i64) (.rs 5 (.int .u8))))))) false]
abbrev C2D:List RK:= [.val false .str]
def B57(f:A4H):Nat×Fn:=(284,⟨C2C,C2D,fun x=>f x.1⟩)
def D0R:Fn:=(B57 A2R).2
theorem D0S(f_s_Crc:A2H)(f_s_PutBig:A9w):∀ x,(C5 cfg [B3M f_s_Crc,C2B f_s_PutBig] (B4 []) 38 [.tmp 2] (Tryz.f284.body.getD .skip) C2C C2D).fn x=B4e f_s_Crc f_s_PutBig x.1:=by intro x;kernel_rfl
theorem C2E:B3 Tryz.prog 284 D0R:=sm MO B6 (tc Tryz.call152 B6J (tc Tryz.call306 D0Q A6)) Tryz.func284 (by kernel_rfl) (by decide) (D0S A1Z A6g)
def D0T:Nat→Option Jn:=B4 [(255,⟨[],lt 42 21 [],false⟩),(4095,⟨[],lt 87 15 [],false⟩)]
abbrev C2F:List PK:= [.val false .str false]
abbrev C2G:List RK:= [.val true A5w,.val false .bool]
def A6w(f:T7):Nat×Fn:=(235,⟨C2F,C2G,fun x=>f x.1⟩)
def D0U:Fn:=(A6w J1).2
theorem D0V(f_s_GetBig:A9v)(f_s_RecOk:B3B)(f_s_l13Put:A4H):∀ x,(C5 cfg [C28 f_s_GetBig,C4V f_s_RecOk,B57 f_s_l13Put] D0T 127 [.cell 2 194,.tmp 3] (Tryz.f235.body.getD .skip) C2F C2G).fn x=B4f f_s_GetBig f_s_RecOk f_s_l13Put x.1:=by intro x;kernel_rfl
theorem B0T:B3 Tryz.prog 235 D0U:=sm MO B6 (tc Tryz.call282 D0M (tc Tryz.call283 D32 (tc Tryz.call284 C2E A6))) Tryz.func235 (by kernel_rfl) (by decide) (D0V A4G A8h A2R)
def C5d:Nat→Option Jn:=B4 [(122,⟨[.t 3 false [.own 100000000],.t 4 false [.int .i64],.t 5 false [.int .i64],.r 100000000 194 A5w],lt 40 6 (lt 9 30 [.b 6,.r 8,.r 42,.r 43,.r 94213,.t 6,.t 7]),false⟩)]
abbrev B6K:List PK:= [.val true (.pair (.rs 9 .str) (.rs 9 .str)) false]
abbrev B6L:List RK:= [.val false (.sl 194 A5w)]
def B6M(f:A0J):Nat×Fn:=(232,⟨B6K,B6L,fun x=>f x.1⟩)
def C5e:Fn:=(B6M U1).2
theorem C5f(f_s_GetRec:T7):∀ x,(C5 cfg [A6w f_s_GetRec] C5d 47 [.tmp 2] (Tryz.f232.body.getD .skip) B6K B6L).fn x=A9x f_s_GetRec x.1:=by intro x;kernel_rfl
theorem C5g:B3 Tryz.prog 232 C5e:=sm MO B6 (tc Tryz.call235 B0T A6) Tryz.func232 (by kernel_rfl) (by decide) (C5f J1)
def D33:Nat→Option Jn:=B4 [(26,⟨[.t 5 false [.int .i64]],lt 6 13 [],false⟩)]
abbrev C4W:List PK:= [.val false (.rs 109 kUp) false,.val false .str false]
abbrev C4X:List RK:= [.val false (.int .i64)]
def A4X(f:S8):Nat×Fn:=(206,⟨C4W,C4X,fun x=>f x.1 x.2.1⟩)
def D34:Fn:=(A4X P5).2
theorem D35:∀ x,(C5 cfg [] D33 20 [.tmp 4] (Tryz.f206.body.getD .skip) C4W C4X).fn x=B6y x.1 x.2.1:=by intro x;kernel_rfl
theorem A6L:B3 Tryz.prog 206 D34:=sm MO B6 A6 Tryz.func206 (by kernel_rfl) (by decide) (D35)
def C2H:Nat→Option Jn:=B4 [(58,⟨[.t 3 false [.own 100000000],.t 4 false [.int .i64],.r 100000000 109 kUp],lt 7 19 [.b 5,.r 6,.r 17,.r 20,.r 24,.r 25,.t 5],false⟩)]
abbrev B2Z:List PK:= [.val false (.rs 109 kUp) false]
abbrev B2a:List RK:= [.val false (.sl 109 kUp)]
def A6x(f:M2):Nat×Fn:=(230,⟨B2Z,B2a,fun x=>f x.1⟩)
def C2I:Fn:=(A6x K6).2
theorem C2J:∀ x,(C5 cfg [] C2H 27 [.tmp 2] (Tryz.f230.body.getD .skip) B2Z B2a).fn x=A3J x.1:=by intro x;kernel_rfl
theorem B2b:B3 Tryz.prog 230 C2I:=sm MO B6 A6 Tryz.func230 (by kernel_rfl) (by decide) (C2J)
def A6y:Nat→Option Jn:=B4 [(58,⟨[.t 3 false [.own 100000000],.t 4 false [.int .i64],.r 100000000 109 (.pair .str (.pair (.int .i64) (.pair (.rs 5 (.int .u8)) .bool)))],lt 7 19 [.b 5,.r 6,.r 17,.r 20,.r 24,.r 25,.t 5],false⟩)]
abbrev A1P:List PK:= [.val false (.rs 109 kUp) false]
abbrev A1Q:List RK:= [.val false (.sl 109 (.pair .str (.pair (.int .i64) (.pair (.rs 5 (.int .u8)) .bool))))]
def V8(f:M2):Nat×Fn:=(230,⟨A1P,A1Q,fun x=>f x.1⟩)
def A6z:Fn:=(V8 K6).2
theorem A70:∀ x,(C5 A1l [] A6y 27 [.tmp 2] (Tryz.f230.body.getD .skip) A1P A1Q).fn x=A3J x.1:=by intro x;kernel_rfl
theorem A1R:B3 Tryz.prog 230 A6z:=sm MO H6 A6 Tryz.func230 (by kernel_rfl) (by decide) (A70)
def A8p:Nat→Option Jn:=B4 [(15,⟨[.t 5 false [.own 11],.t 6 false [.int .i64],.r 11 109 (.pair .str (.pair (.int .i64) (.pair (.rs 5 (.int .u8)) .bool)))],lt 15 23 [.x 21,.x 33,.x 35],true⟩),(60,⟨[.t 5 false [.own 11],.t 6 false [.int .i64],.r 11 109 (.pair .str (.pair (.int .i64) (.pair (.rs 5 (.int .u8)) .bool)))],lt 15 23 [.x 21,.x 33,.x 35],false⟩),(120,⟨[],lt 15 13 [.x 21],false⟩)]
abbrev A2t:List PK:= [.val false (.rs 109 kUp) false,.val true (.pair .str (.pair (.int .i64) (.pair (.rs 5 (.int .u8)) .bool))) false]
abbrev A2u:List RK:= [.val false (.sl 109 (.pair .str (.pair (.int .i64) (.pair (.rs 5 (.int .u8)) .bool))))]
def A2v(f:S9):Nat×Fn:=(305,⟨A2t,A2u,fun x=>f x.1 x.2.1⟩)
def A8q:Fn:=(A2v N5).2
theorem A8r(f_s_l14CopyUps:M2):∀ x,(C5 A1l [V8 f_s_l14CopyUps] A8p 43 [.tmp 4] (Tryz.f305.body.getD .skip) A2t A2u).fn x=Z5 f_s_l14CopyUps x.1 x.2.1:=by intro x;kernel_rfl
theorem A8s:B3 Tryz.prog 305 A8q:=sm MO H6 (tc Tryz.call230 A1R A6) Tryz.func305 (by kernel_rfl) (by decide) (A8r K6)
def B0U:Nat→Option Jn:=B4 [(4074,⟨[],lt 43 27 [],false⟩)]
abbrev A3Z:List PK:= [.val false (.sl 109 (.pair .str (.pair (.int .i64) (.pair (.rs 5 (.int .u8)) .bool)))) false,.val true (.pair (.int .i64) (.pair (.int .i64) (.pair (.int .i64) (.pair .str (.pair (.int .i64) (.rs 5 (.int .u8))))))) false]
abbrev A3a:List RK:= [.val false (.sl 109 (.pair .str (.pair (.int .i64) (.pair (.rs 5 (.int .u8)) .bool)))),.val false .bool]
def A0V(f:H8):Nat×Fn:=(281,⟨A3Z,A3a,fun x=>f x.1 x.2.1⟩)
def B0V:Fn:=(A0V G0).2
theorem B0W(f_s_l14At:S8)(f_s_l14CopyUps:M2)(f_s_l14Make_r98_0_r99_0:S9):∀ x,(C5 cfg [A4X f_s_l14At,A6x f_s_l14CopyUps,A2v f_s_l14Make_r98_0_r99_0] B0U 114 [.tmp 4,.tmp 5] (Tryz.f281.body.getD .skip) A3Z A3a).fn x=A0K f_s_l14At f_s_l14CopyUps f_s_l14Make_r98_0_r99_0 x.1 x.2.1:=by intro x;kernel_rfl
theorem A3b:B3 Tryz.prog 281 B0V:=sm MO B6 (tc Tryz.call206 A6L (tc Tryz.call230 B2b (tc Tryz.call305 A8s A6))) Tryz.func281 (by kernel_rfl) (by decide) (B0W P5 K6 N5)
def C2K:Nat→Option Jn:=B4 [(58,⟨[.t 5 false [.int .i64]],lt 11 58 [],false⟩)]
abbrev B2c:List PK:= [.val false (.rs 109 kUp) false,.val false (.rs 109 kUp) false]
abbrev B2d:List RK:= [.val false .bool]
def B2e(f:A3K):Nat×Fn:=(234,⟨B2c,B2d,fun x=>f x.1 x.2.1⟩)
def C2L:Fn:=(B2e A1E).2
theorem C2M:∀ x,(C5 cfg [] C2K 69 [.tmp 4] (Tryz.f234.body.getD .skip) B2c B2d).fn x=A6h x.1 x.2.1:=by intro x;kernel_rfl
theorem C2N:B3 Tryz.prog 234 C2L:=sm MO B6 A6 Tryz.func234 (by kernel_rfl) (by decide) (C2M)
def B58:Nat→Option Jn:=B4 [(7,⟨[.t 4 false [.own 100000000],.r 100000000 109 (.pair .str (.pair (.int .i64) (.pair (.rs 5 (.int .u8)) .bool)))],lt 9 17 (lt 5 3 [.r 8,.r 90112,.t 27]),false⟩),(58,⟨[.t 4 false [.own 100000000],.t 5 false [.int .i64],.r 100000000 109 (.pair .str (.pair (.int .i64) (.pair (.rs 5 (.int .u8)) .bool)))],lt 9 17 [.r 8,.r 90112,.t 6,.t 7,.t 27],false⟩)]
abbrev A71:List PK:= [.val false (.rs 194 A5w) false]
abbrev A72:List RK:= [.val false (.sl 109 (.pair .str (.pair (.int .i64) (.pair (.rs 5 (.int .u8)) .bool)))),.val false .bool]
def A2c(f:R2):Nat×Fn:=(233,⟨A71,A72,fun x=>f x.1⟩)
def B59:Fn:=(A2c N0).2
theorem B5A(f_s_l14One_r93_0_r94_0:H8):∀ x,(C5 A1l [A0V f_s_l14One_r93_0_r94_0] B58 29 [.tmp 2,.tmp 3] (Tryz.f233.body.getD .skip) A71 A72).fn x=A2S f_s_l14One_r93_0_r94_0 x.1:=by intro x;kernel_rfl
theorem A73:B3 Tryz.prog 233 B59:=sm MO H6 (tc Tryz.call281 A3b A6) Tryz.func233 (by kernel_rfl) (by decide) (B5A G0)
def C7b:Nat→Option Jn:=B4 [(3,⟨[],lt 9 10 [],false⟩),(31,⟨[],lt 27 33 [],false⟩),(506,⟨[.t 6 false [.int .i64]],lt 62 26 [.b 7,.r 319493,.t 7,.t 8],false⟩)]
abbrev B8V:List PK:= [.val true (.pair (.pair (.rs 9 .str) (.rs 9 .str)) (.pair (.int .i64) (.pair (.int .i64) (.rs 109 kUp)))) false]
abbrev B8W:List RK:= [.val false .bool]
def A1S(f:L6):Nat×Fn:=(159,⟨B8V,B8W,fun x=>f x.1⟩)
def C7c:Fn:=(A1S D3).2
theorem C7d(f_s_l1In:D7)(f_s_DiskOk:A1D)(f_s_ScanRecs:A0J)(f_s_FoldRecs_r98_0:R2)(f_s_l14SameUps:A3K)(f_s_GetRec:T7):∀ x,(C5 cfg [R0 f_s_l1In,B0S f_s_DiskOk,B6M f_s_ScanRecs,A2c f_s_FoldRecs_r98_0,B2e f_s_l14SameUps,A6w f_s_GetRec] C7b 88 [.tmp 2] (Tryz.f159.body.getD .skip) B8V B8W).fn x=A7S f_s_l1In f_s_DiskOk f_s_ScanRecs f_s_FoldRecs_r98_0 f_s_l14SameUps f_s_GetRec x.1:=by intro x;kernel_rfl
theorem A2w:B3 Tryz.prog 159 C7c:=sm MO B6 (tc Tryz.call120 S6 (tc Tryz.call231 B56 (tc Tryz.call232 C5g (tc Tryz.call233 A73 (tc Tryz.call234 C2N (tc Tryz.call235 B0T A6)))))) Tryz.func159 (by kernel_rfl) (by decide) (C7d D8 T6 U1 N0 A1E J1)
def C5h:Nat→Option Jn:=B4 [(3,⟨[],lt 3 16 [],false⟩),(26,⟨[.t 3 false [.int .i64]],lt 4 15 [],false⟩)]
abbrev B6N:List PK:= [.val true (.pair (.pair (.pair (.rs 9 .str) (.rs 9 .str)) (.pair (.int .i64) (.pair (.int .i64) (.rs 109 kUp)))) (.rs 130 B0)) false]
abbrev B6O:List RK:= [.val false .bool]
def A3c(f:R7):Nat×Fn:=(90,⟨B6N,B6O,fun x=>f x.1⟩)
def C5i:Fn:=(A3c J3).2
theorem C5j(f_s_RespOk:A1C)(f_s_StoreOk:L6):∀ x,(C5 cfg [B55 f_s_RespOk,A1S f_s_StoreOk] C5h 28 [.tmp 2] (Tryz.f90.body.getD .skip) B6N B6O).fn x=A61 f_s_RespOk f_s_StoreOk x.1:=by intro x;kernel_rfl
theorem A68:B3 Tryz.prog 90 C5i:=sm MO B6 (tc Tryz.call158 C23 (tc Tryz.call159 A2w A6)) Tryz.func90 (by kernel_rfl) (by decide) (C5j R1 D3)
abbrev B8X:List PK:= [.val false (.int .i64) false]
abbrev B8Y:List RK:= [.val false (.int .i64)]
def B2f(f:A2l):Nat×Fn:=(161,⟨B8X,B8Y,fun x=>f x.1⟩)
def C7e:Fn:=(B2f U7).2
theorem C7f:∀ x,(C5 cfg [] (B4 []) 9 [.tmp 2] (Tryz.f161.body.getD .skip) B8X B8Y).fn x=A52 x.1:=by intro x;kernel_rfl
theorem B8Z:B3 Tryz.prog 161 C7e:=sm MO B6 A6 Tryz.func161 (by kernel_rfl) (by decide) (C7f)
def D36:Nat→Option Jn:=B4 [(3,⟨[],lt 4 10 [],false⟩)]
abbrev C4Y:List PK:= [.val true W6 false]
abbrev C4Z:List RK:= [.val false .bool]
def B7O(f:A4J):Nat×Fn:=(91,⟨C4Y,C4Z,fun x=>f x.1⟩)
def D37:Fn:=(B7O A2m).2
theorem D38(f_s_l1In:D7)(f_s_l11Id:P4)(f_s_l11Most:A2l):∀ x,(C5 cfg [R0 f_s_l1In,A2s f_s_l11Id,B2f f_s_l11Most] D36 26 [.tmp 2] (Tryz.f91.body.getD .skip) C4Y C4Z).fn x=B6z f_s_l1In f_s_l11Id f_s_l11Most x.1:=by intro x;kernel_rfl
theorem C4a:B3 Tryz.prog 91 D37:=sm MO B6 (tc Tryz.call120 S6 (tc Tryz.call160 A4W (tc Tryz.call161 B8Z A6))) Tryz.func91 (by kernel_rfl) (by decide) (D38 D8 N4 U7)
abbrev B6P:List PK:= [.val true (.pair .str (.pair (.rs 5 (.int .u8)) E7)) false]
abbrev B6Q:List RK:= [.val false .bool]
def A3d(f:O6):Nat×Fn:=(215,⟨B6P,B6Q,fun x=>f x.1⟩)
def C5k:Fn:=(A3d G1).2
theorem C5l(f_s_l1In:D7)(f_s_l11Id:P4):∀ x,(C5 cfg [R0 f_s_l1In,A2s f_s_l11Id] (B4 []) 25 [.tmp 2] (Tryz.f215.body.getD .skip) B6P B6Q).fn x=A9y f_s_l1In f_s_l11Id x.1:=by intro x;kernel_rfl
theorem A69:B3 Tryz.prog 215 C5k:=sm MO B6 (tc Tryz.call120 S6 (tc Tryz.call160 A4W A6)) Tryz.func215 (by kernel_rfl) (by decide) (C5l D8 N4)
end
end Go.Proofs.YtpdcljonclhhpaaGreat.Ev
