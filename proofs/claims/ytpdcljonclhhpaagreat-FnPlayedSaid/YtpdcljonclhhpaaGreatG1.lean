/- Each function of the program does what its plain function says. -/
import Derived.Test.YtpdcljonclhhpaaGreatTy
import Derived.Test.YtpdcljonclhhpaaGreatPu
import Derived.Test.YtpdcljonclhhpaaGreatIns
import Derived.Test.YtpdcljonclhhpaaGreatDelF
import Derived.Test.YtpdcljonclhhpaaGreatChunk
set_option linter.unusedVariables false
set_option maxRecDepth 100000
namespace Go.Proofs.YtpdcljonclhhpaaGreat.Ev
noncomputable section
abbrev A4z:List PK:= [.val false (.sl 109 kUp) false,.val false (.int .i64) false,.val false (.sl 109 kUp) false]
abbrev A50:List RK:= [.val false (.sl 109 kUp)]
def A03(f:K3):Nat×Fn:=(290,⟨A4z,A50,fun x=>f x.1 x.2.1 x.2.2.1⟩)
def A51:Fn:=(A03 K4).2
theorem A52:B3 Tryz.prog 290 A51:=C9U kUp (by decide)
abbrev A53:List PK:= [.val false (.sl 109 kUp) false,.val false (.int .i64) false,.val false (.int .i64) false]
abbrev A54:List RK:= [.val false (.sl 109 kUp)]
def A04(f:K5):Nat×Fn:=(291,⟨A53,A54,fun x=>f x.1 x.2.1 x.2.2.1⟩)
def A55:Fn:=(A04 K6).2
theorem A56:B3 Tryz.prog 291 A55:=C9S kUp (by decide)
abbrev A2r:List PK:= [.val false (.sl 113 F0) false,.val false (.int .i64) false,.val false (.int .i64) false]
abbrev A2s:List RK:= [.val false (.sl 113 F0)]
def V3(f:I4):Nat×Fn:=(260,⟨A2r,A2s,fun x=>f x.1 x.2.1 x.2.2.1⟩)
def A2t:Fn:=(V3 I5).2
theorem A2u:B3 Tryz.prog 260 A2t:=B8n F0 (by decide)
abbrev A2v:List PK:= [.val false (.sl 130 A9) false,.val false (.int .i64) false,.val false (.int .i64) false]
abbrev A2w:List RK:= [.val false (.sl 130 A9)]
def V4(f:I6):Nat×Fn:=(262,⟨A2v,A2w,fun x=>f x.1 x.2.1 x.2.2.1⟩)
def A2x:Fn:=(V4 I7).2
theorem A2y:B3 Tryz.prog 262 A2x:=B8o A9 (by decide)
abbrev A1O:List PK:= [.val false (.sl 113 F0) false,.ptr (.int .i64)]
abbrev A1P:List RK:= [.val false (.sl 113 F0)]
def R5(f:G4):Nat×Fn:=(267000265,⟨A1O,A1P,fun x=>f x.1 x.2.1⟩)
def A1Q:Fn:=(R5 G5).2
theorem A1R:B76 Tryz.prog 265 266 A1Q:=B3Q (.pair U1 (.sl 5 (.int .u8))) (by decide)
abbrev A1S:List PK:= [.val false (.sl 130 A9) false,.ptr (.int .i64)]
abbrev A1T:List RK:= [.val false (.sl 130 A9)]
def R6(f:G6):Nat×Fn:=(265000267,⟨A1S,A1T,fun x=>f x.1 x.2.1⟩)
def A1U:Fn:=(R6 G7).2
theorem A1V:B76 Tryz.prog 267 264 A1U:=B3P E5 (by decide)
abbrev D6D:List PK:= [.val false (.rs 5 (.int .u8)) false]
abbrev D6E:List RK:= [.val false .bool]
def D6F(f:C3O):Nat×Fn:=(15,⟨D6D,D6E,fun x=>f x.1⟩)
def E1D:Fn:=(D6F C3P).2
theorem E1E:∀ x,(C5 cfg [] (B5 []) 6 [.tmp 2] (Tryz.f15.body.getD .skip) D6D D6E).fn x=C8z x.1:=by intro x;kernel_rfl
theorem E1F:B3 Tryz.prog 15 E1D:=sm MO B1 A6 Tryz.func15 (by kernel_rfl) (by decide) (E1E)
abbrev A2z:List PK:= [.val false (.rs 5 (.int .u8)) false]
abbrev A30:List RK:= [.val false (.sl 5 (.int .u8))]
def J5(f:C9):Nat×Fn:=(191,⟨A2z,A30,fun x=>f x.1⟩)
def B02:Fn:=(J5 C4).2
theorem B03:∀ x,(C5 cfg [] (B5 []) 8 [.tmp 2] (Tryz.f191.body.getD .skip) A2z A30).fn x=Z1 x.1:=by intro x;kernel_rfl
theorem M9:B3 Tryz.prog 191 B02:=sm MO B1 A6 Tryz.func191 (by kernel_rfl) (by decide) (B03)
abbrev C4y:List PK:= [.val true (.pair .str (.pair (.int .i64) (.pair (.rs 5 (.int .u8)) .bool))) false]
abbrev C4z:List RK:= [.val true kUp]
def B7f(f:A1a):Nat×Fn:=(144,⟨C4y,C4z,fun x=>f x.1⟩)
def D4O:Fn:=(B7f T7).2
theorem D4P(f_slices_Clone_byte_byte:C9):∀ x,(C5 cfg [J5 f_slices_Clone_byte_byte] (B5 []) 8 [.cell 2 109] (Tryz.f144.body.getD .skip) C4y C4z).fn x=B1j f_slices_Clone_byte_byte x.1:=by intro x;kernel_rfl
theorem C50:B3 Tryz.prog 144 D4O:=sm MO B1 (tc Tryz.call191 M9 A6) Tryz.func144 (by kernel_rfl) (by decide) (D4P C4)
def D9a:Nat→Option Jn:=B5 [(3,⟨[],lt 7 12 [.b 7,.t 21],false⟩),(26,⟨[.t 11 false [.int .i64]],lt 12 7 [.b 7,.t 7,.t 21],false⟩)]
abbrev D1t:List PK:= [.val true (.pair (.pair (.rs 9 .str) (.rs 9 .str)) (.pair (.int .i64) (.pair (.int .i64) (.rs 109 kUp)))) false,.val false .str false]
abbrev D1u:List RK:= [.val true kUp,.val false .bool]
def B8p(f:A1b):Nat×Fn:=(75,⟨D1t,D1u,fun x=>f x.1 x.2.1⟩)
def D9b:Fn:=(B8p A0s).2
theorem D9c(f_i_copyUp:A1a):∀ x,(C5 cfg [B7f f_i_copyUp] D9a 23 [.cell 4 109,.tmp 5] (Tryz.f75.body.getD .skip) D1t D1u).fn x=C48 f_i_copyUp x.1 x.2.1:=by intro x;kernel_rfl
theorem C51:B3 Tryz.prog 75 D9b:=sm MO B1 (tc Tryz.call144 C50 A6) Tryz.func75 (by kernel_rfl) (by decide) (D9c T7)
abbrev B6E:List PK:= [.val false (.rs 5 (.int .u8)) false,.val false (.rs 5 (.int .u8)) false]
abbrev B6F:List RK:= [.val false .bool]
def A6B(f:R7):Nat×Fn:=(77,⟨B6E,B6F,fun x=>f x.1 x.2.1⟩)
def C6q:Fn:=(A6B M3).2
theorem C6r:∀ x,(C5 cfg [] (B5 []) 10 [.tmp 4] (Tryz.f77.body.getD .skip) B6E B6F).fn x=A2Y x.1 x.2.1:=by intro x;kernel_rfl
theorem B04:B3 Tryz.prog 77 C6q:=sm MO B1 A6 Tryz.func77 (by kernel_rfl) (by decide) (C6r)
abbrev A9M:List PK:= [.val false (.rs 5 (.int .u8)) false,.val false (.rs 5 (.int .u8)) false]
abbrev A9N:List RK:= [.val false .bool]
def A9O(f:Y0):Nat×Fn:=(76,⟨A9M,A9N,fun x=>f x.1 x.2.1⟩)
def B8q:Fn:=(A9O T0).2
theorem B8r(f_bytes_Equal:R7):∀ x,(C5 cfg [A6B f_bytes_Equal] (B5 []) 18 [.tmp 4] (Tryz.f76.body.getD .skip) A9M A9N).fn x=A4E f_bytes_Equal x.1 x.2.1:=by intro x;kernel_rfl
theorem B8s:B3 Tryz.prog 76 B8q:=sm MO B1 (tc Tryz.call77 B04 A6) Tryz.func76 (by kernel_rfl) (by decide) (B8r M3)
def D4Q:Nat→Option Jn:=B5 [(26,⟨[.t 10 false [.int .i64]],lt 11 30 (lt 4 3 [.b 4,.b 5,.r 86018]),false⟩)]
abbrev C52:List PK:= [.val true (.pair (.pair (.pair (.pair (.rs 9 .str) (.rs 9 .str)) (.pair (.int .i64) (.pair (.int .i64) (.rs 109 kUp)))) (.rs 130 A9)) (.pair (.rs 79 B2) (.pair (.rs 4 .bool) (.pair (.rs 113 F0) (.pair (.rs 130 A9) (.rs 3 (.int .i64))))))) false]
abbrev C53:List RK:= [.val false .bool]
def C54(f:B1k):Nat×Fn:=(19,⟨C52,C53,fun x=>f x.1⟩)
def D4R:Fn:=(C54 A7m).2
theorem D4S(f_i_UpAt:A1b)(f_bytes_HasPrefix:Y0):∀ x,(C5 cfg [B8p f_i_UpAt,A9O f_bytes_HasPrefix] D4Q 41 [.tmp 2] (Tryz.f19.body.getD .skip) C52 C53).fn x=C49 f_i_UpAt f_bytes_HasPrefix x.1:=by intro x;kernel_rfl
theorem D4T:B3 Tryz.prog 19 D4R:=sm MO B1 (tc Tryz.call75 C51 (tc Tryz.call76 B8s A6)) Tryz.func19 (by kernel_rfl) (by decide) (D4S A0s T0)
def D1v:Nat→Option Jn:=B5 [(26,⟨[.t 10 false [.int .i64]],lt 11 40 (lt 3 4 [.b 4,.b 5,.r 143362]),false⟩),(1689,⟨[],lt 15 13 [],false⟩)]
abbrev C1b:List PK:= [.val true (.pair (.pair (.pair (.pair (.rs 9 .str) (.rs 9 .str)) (.pair (.int .i64) (.pair (.int .i64) (.rs 109 kUp)))) (.rs 130 A9)) (.pair (.rs 79 B2) (.pair (.rs 4 .bool) (.pair (.rs 113 F0) (.pair (.rs 130 A9) (.rs 3 (.int .i64))))))) false]
abbrev C1c:List RK:= [.val false .bool]
def C1d(f:A8l):Nat×Fn:=(20,⟨C1b,C1c,fun x=>f x.1⟩)
def D1w:Fn:=(C1d A6H).2
theorem D1x(f_i_UpAt:A1b):∀ x,(C5 cfg [B8p f_i_UpAt] D1v 51 [.tmp 2] (Tryz.f20.body.getD .skip) C1b C1c).fn x=C1S f_i_UpAt x.1:=by intro x;kernel_rfl
theorem D1y:B3 Tryz.prog 20 D1w:=sm MO B1 (tc Tryz.call75 C51 A6) Tryz.func20 (by kernel_rfl) (by decide) (D1x A0s)
def D9d:Nat→Option Jn:=B5 [(26,⟨[.t 10 false [.int .i64]],lt 11 33 (lt 4 3 [.b 4,.b 5,.r 86018]),false⟩)]
abbrev D1z:List PK:= [.val true (.pair (.pair (.pair (.pair (.rs 9 .str) (.rs 9 .str)) (.pair (.int .i64) (.pair (.int .i64) (.rs 109 kUp)))) (.rs 130 A9)) (.pair (.rs 79 B2) (.pair (.rs 4 .bool) (.pair (.rs 113 F0) (.pair (.rs 130 A9) (.rs 3 (.int .i64))))))) false]
abbrev D20:List RK:= [.val false .bool]
def D21(f:B8G):Nat×Fn:=(21,⟨D1z,D20,fun x=>f x.1⟩)
def D9e:Fn:=(D21 B3r).2
theorem D9f(f_i_UpAt:A1b)(f_bytes_Equal:R7):∀ x,(C5 cfg [B8p f_i_UpAt,A6B f_bytes_Equal] D9d 44 [.tmp 2] (Tryz.f21.body.getD .skip) D1z D20).fn x=D0v f_i_UpAt f_bytes_Equal x.1:=by intro x;kernel_rfl
theorem D9g:B3 Tryz.prog 21 D9e:=sm MO B1 (tc Tryz.call75 C51 (tc Tryz.call77 B04 A6)) Tryz.func21 (by kernel_rfl) (by decide) (D9f A0s M3)
def C6s:Nat→Option Jn:=B5 [(26,⟨[.t 8 false [.int .i64]],lt 9 7 [.b 4,.t 4],false⟩)]
abbrev B6G:List PK:= [.val true (.pair (.pair (.pair (.pair (.rs 9 .str) (.rs 9 .str)) (.pair (.int .i64) (.pair (.int .i64) (.rs 109 kUp)))) (.rs 130 A9)) (.pair (.rs 79 B2) (.pair (.rs 4 .bool) (.pair (.rs 113 F0) (.pair (.rs 130 A9) (.rs 3 (.int .i64))))))) false]
abbrev B6H:List RK:= [.val false .bool]
def B6I(f:A5q):Nat×Fn:=(22,⟨B6G,B6H,fun x=>f x.1⟩)
def C6t:Fn:=(B6I A2Z).2
theorem C6u:∀ x,(C5 cfg [] C6s 16 [.tmp 2] (Tryz.f22.body.getD .skip) B6G B6H).fn x=A9n x.1:=by intro x;kernel_rfl
theorem C6v:B3 Tryz.prog 22 C6t:=sm MO B1 A6 Tryz.func22 (by kernel_rfl) (by decide) (C6u)
abbrev C1e:List PK:= [.val false (.int .i64) false,.val false (.int .i64) false,.val false (.int .i64) false]
abbrev C1f:List RK:= [.val false .bool]
def I9(f:C2):Nat×Fn:=(80,⟨C1e,C1f,fun x=>f x.1 x.2.1 x.2.2.1⟩)
def D22:Fn:=(I9 C6).2
theorem D23:∀ x,(C5 cfg [] (B5 []) 15 [.tmp 6] (Tryz.f80.body.getD .skip) C1e C1f).fn x=C1T x.1 x.2.1 x.2.2.1:=by intro x;kernel_rfl
theorem J7:B3 Tryz.prog 80 D22:=sm MO B1 A6 Tryz.func80 (by kernel_rfl) (by decide) (D23)
abbrev C55:List PK:= [.val true E5 false]
abbrev C56:List RK:= [.val false .bool]
def B2V(f:Z2):Nat×Fn:=(93,⟨C55,C56,fun x=>f x.1⟩)
def D4U:Fn:=(B2V V8).2
theorem D4V(f_i_inRange:C2):∀ x,(C5 cfg [I9 f_i_inRange] (B5 []) 11 [.tmp 2] (Tryz.f93.body.getD .skip) C55 C56).fn x=B7A f_i_inRange x.1:=by intro x;kernel_rfl
theorem B7g:B3 Tryz.prog 93 D4U:=sm MO B1 (tc Tryz.call80 J7 A6) Tryz.func93 (by kernel_rfl) (by decide) (D4V C6)
abbrev C1g:List PK:= [.val false (.int .i64) false]
abbrev C1h:List RK:= [.val false .bool]
def B4Z(f:A3l):Nat×Fn:=(168,⟨C1g,C1h,fun x=>f x.1⟩)
def D24:Fn:=(B4Z A1c).2
theorem D25(f_i_inRange:C2):∀ x,(C5 cfg [I9 f_i_inRange] (B5 []) 5 [.tmp 2] (Tryz.f168.body.getD .skip) C1g C1h).fn x=A8m f_i_inRange x.1:=by intro x;kernel_rfl
theorem C1i:B3 Tryz.prog 168 D24:=sm MO B1 (tc Tryz.call80 J7 A6) Tryz.func168 (by kernel_rfl) (by decide) (D25 C6)
def D4W:Nat→Option Jn:=B5 [(3,⟨[],lt 4 13 [],false⟩),(58,⟨[.t 20 false [.int .i64]],lt 21 19 [.t 3],false⟩)]
abbrev C57:List PK:= [.val true (.pair (.rs 9 .str) (.rs 9 .str)) false]
abbrev C58:List RK:= [.val false .bool]
def B2W(f:A1d):Nat×Fn:=(169,⟨C57,C58,fun x=>f x.1⟩)
def D4X:Fn:=(B2W A1e).2
theorem D4Y:∀ x,(C5 cfg [] D4W 40 [.tmp 2] (Tryz.f169.body.getD .skip) C57 C58).fn x=C4A x.1:=by intro x;kernel_rfl
theorem B7h:B3 Tryz.prog 169 D4X:=sm MO B1 A6 Tryz.func169 (by kernel_rfl) (by decide) (D4Y)
def D4Z:Nat→Option Jn:=B5 [(3,⟨[],lt 11 15 [],false⟩),(15,⟨[.t 8 false [.int .i64]],lt 26 17 [.t 10],true⟩),(122,⟨[.t 8 false [.int .i64],.t 33 false [.int .i64]],lt 34 9 [.t 10],false⟩)]
abbrev C59:List PK:= [.val false (.rs 5 (.int .u8)) false,.val false (.int .i64) false,.val false (.int .i64) false]
abbrev C5A:List RK:= [.val false (.int .i64),.val false .bool]
def C5B(f:B1m):Nat×Fn:=(307,⟨C59,C5A,fun x=>f x.1 x.2.1 x.2.2.1⟩)
def D4a:Fn:=(C5B A7n).2
theorem D4b(f_i_inRange:C2):∀ x,(C5 cfg [I9 f_i_inRange] D4Z 44 [.tmp 6,.tmp 7] (Tryz.f307.body.getD .skip) C59 C5A).fn x=B7B f_i_inRange x.1 x.2.1 x.2.2.1:=by intro x;kernel_rfl
theorem D4c:B3 Tryz.prog 307 D4a:=sm MO B1 (tc Tryz.call80 J7 A6) Tryz.func307 (by kernel_rfl) (by decide) (D4b C6)
def B3R:Nat→Option Jn:=B5 [(7,⟨[],lt 20 8 [],false⟩)]
abbrev A59:List PK:= [.ptr A8k,.val false (.int .i64) false]
abbrev A5A:List RK:= [.val false (.int .i64)]
def A5B(f:X3):Nat×Fn:=(285,⟨A59,A5A,fun x=>f x.1 x.2.1⟩)
def B3S:Fn:=(A5B D6).2
theorem B3T(f_i_GetBig:B1m):∀ x,(C5 cfg [C5B f_i_GetBig] B3R 40 [.tmp 4] (Tryz.f285.body.getD .skip) A59 A5A).fn x=Q6 f_i_GetBig x.1 x.2.1:=by intro x;kernel_rfl
theorem B3U:B3 Tryz.prog 285 B3S:=sm MO B1 (tc Tryz.call307 D4c A6) Tryz.func285 (by kernel_rfl) (by decide) (B3T A7n)
def B5s:Nat→Option Jn:=B5 [(3,⟨[],lt 5 18 [],false⟩)]
abbrev A6y:List PK:= [.ptr A8k,.val false (.int .i64) false]
abbrev A6z:List RK:= [.val false (.sl 5 (.int .u8))]
def A70(f:A06):Nat×Fn:=(286,⟨A6y,A6z,fun x=>f x.1 x.2.1⟩)
def B5t:Fn:=(A70 H8).2
theorem B5u(f_slices_Clone_byte_byte:C9):∀ x,(C5 cfg [J5 f_slices_Clone_byte_byte] B5s 50 [.tmp 4] (Tryz.f286.body.getD .skip) A6y A6z).fn x=U2 f_slices_Clone_byte_byte x.1 x.2.1:=by intro x;kernel_rfl
theorem B5v:B3 Tryz.prog 286 B5t:=sm MO B1 (tc Tryz.call191 M9 A6) Tryz.func286 (by kernel_rfl) (by decide) (B5u C4)
def D9h:Nat→Option Jn:=B5 [(3,⟨[],lt 3 30 [],false⟩),(26,⟨[.t 3 false [.int .i64]],lt 4 29 [],false⟩)]
abbrev D26:List PK:= [.val false .str false]
abbrev D27:List RK:= [.val false .bool]
def A6c(f:U3):Nat×Fn:=(147,⟨D26,D27,fun x=>f x.1⟩)
def D9i:Fn:=(A6c S4).2
theorem D9j(f_i_inRange:C2):∀ x,(C5 cfg [I9 f_i_inRange] D9h 36 [.tmp 2] (Tryz.f147.body.getD .skip) D26 D27).fn x=C4B f_i_inRange x.1:=by intro x;kernel_rfl
theorem A8H:B3 Tryz.prog 147 D9i:=sm MO B1 (tc Tryz.call80 J7 A6) Tryz.func147 (by kernel_rfl) (by decide) (D9j C6)
def D7U:Nat→Option Jn:=B5 [(3,⟨[],lt 3 22 [],false⟩)]
abbrev C8P:List PK:= [.val true (.pair (.int .i64) (.pair (.int .i64) (.pair (.int .i64) (.pair .str (.pair (.int .i64) (.rs 5 (.int .u8))))))) false]
abbrev C8Q:List RK:= [.val false .bool]
def C0a(f:A7W):Nat×Fn:=(287,⟨C8P,C8Q,fun x=>f x.1⟩)
def D7V:Fn:=(C0a A5I).2
theorem D7W(f_i_inRange:C2)(f_i_idOk:U3)(f_i_isEpoch:A3l):∀ x,(C5 cfg [I9 f_i_inRange,A6c f_i_idOk,B4Z f_i_isEpoch] D7U 58 [.tmp 2] (Tryz.f287.body.getD .skip) C8P C8Q).fn x=C04 f_i_inRange f_i_idOk f_i_isEpoch x.1:=by intro x;kernel_rfl
theorem C8R:B3 Tryz.prog 287 D7V:=sm MO B1 (tc Tryz.call80 J7 (tc Tryz.call147 A8H (tc Tryz.call168 C1i A6))) Tryz.func287 (by kernel_rfl) (by decide) (D7W C6 S4 A1c)
def E1G:Nat→Option Jn:=B5 [(7,⟨[.t 3 false [.int .u32]],lt 5 24 [],true⟩),(58,⟨[.t 3 false [.int .u32],.t 9 false [.int .i64]],lt 10 19 [.t 5,.t 6],false⟩),(29902,⟨[.t 3 false [.int .u32],.t 17 false [.int .i64]],lt 18 10 [.t 6],false⟩)]
abbrev D6G:List PK:= [.val false (.rs 5 (.int .u8)) false]
abbrev D6H:List RK:= [.val false (.int .i64)]
def C3T(f:A8n):Nat×Fn:=(280,⟨D6G,D6H,fun x=>f x.1⟩)
def E1H:Fn:=(C3T A78).2
theorem E1I:∀ x,(C5 cfg [] E1G 32 [.tmp 2] (Tryz.f280.body.getD .skip) D6G D6H).fn x=C91 x.1:=by intro x;kernel_rfl
theorem C9Y:B3 Tryz.prog 280 E1H:=sm MO B1 A6 Tryz.func280 (by kernel_rfl) (by decide) (E1I)
def D4d:Nat→Option Jn:=B5 [(58,⟨[.t 0 false [.own 100000000],.t 7 false [.int .i64],.r 100000000 5 (.int .u8)],lt 12 13 [.r 23,.r 24,.r 1000],false⟩)]
abbrev C5C:List PK:= [.val false (.sl 5 (.int .u8)) false,.val false (.int .i64) false,.val false (.int .i64) false]
abbrev C5D:List RK:= [.val false (.sl 5 (.int .u8))]
def C5E(f:B1p):Nat×Fn:=(308,⟨C5C,C5D,fun x=>f x.1 x.2.1 x.2.2.1⟩)
def D4e:Fn:=(C5E A7o).2
theorem D4f:∀ x,(C5 cfg [] D4d 26 [.tmp 6] (Tryz.f308.body.getD .skip) C5C C5D).fn x=B7C x.1 x.2.1 x.2.2.1:=by intro x;kernel_rfl
theorem D4g:B3 Tryz.prog 308 D4e:=sm MO B1 A6 Tryz.func308 (by kernel_rfl) (by decide) (D4f)
abbrev C5F:List PK:= [.val true (.pair (.int .i64) (.pair (.int .i64) (.pair (.int .i64) (.pair .str (.pair (.int .i64) (.rs 5 (.int .u8))))))) false]
abbrev C5G:List RK:= [.val false .str]
def B7i(f:A5J):Nat×Fn:=(288,⟨C5F,C5G,fun x=>f x.1⟩)
def D4h:Fn:=(B7i A3W).2
theorem D4i(f_i_Crc:A8n)(f_i_RecOk:A7W)(f_i_putBig:B1p):∀ x,(C5 cfg [C3T f_i_Crc,C0a f_i_RecOk,C5E f_i_putBig] (B5 []) 45 [.tmp 2] (Tryz.f288.body.getD .skip) C5F C5G).fn x=B7D f_i_Crc f_i_RecOk f_i_putBig x.1:=by intro x;kernel_rfl
theorem C5H:B3 Tryz.prog 288 D4h:=sm MO B1 (tc Tryz.call280 C9Y (tc Tryz.call287 C8R (tc Tryz.call308 D4g A6))) Tryz.func288 (by kernel_rfl) (by decide) (D4i A78 A5I A7o)
abbrev C5I:List PK:= [.val false .str false]
abbrev C5J:List RK:= [.val true A76,.val false .bool]
def B7j(f:A1f):Nat×Fn:=(238,⟨C5I,C5J,fun x=>f x.1⟩)
def D4j:Fn:=(B7j A0c).2
theorem D4k(f_i_byteReader_number:X3)(f_i_byteReader_take:A06)(f_i_RecOk:A7W)(f_i_PutRec:A5J):∀ x,(C5 cfg [A5B f_i_byteReader_number,A70 f_i_byteReader_take,C0a f_i_RecOk,B7i f_i_PutRec] (B5 []) 42 [.cell 2 194,.tmp 3] (Tryz.f238.body.getD .skip) C5I C5J).fn x=B7E f_i_byteReader_number f_i_byteReader_take f_i_RecOk f_i_PutRec x.1:=by intro x;kernel_rfl
theorem C5K:B3 Tryz.prog 238 D4j:=sm MO B1 (tc Tryz.call285 B3U (tc Tryz.call286 B5v (tc Tryz.call287 C8R (tc Tryz.call288 C5H A6)))) Tryz.func238 (by kernel_rfl) (by decide) (D4k D6 H8 A5I A3W)
def C9Z:Nat→Option Jn:=B5 [(122,⟨[.t 3 false [.own 100000000],.t 4 false [.int .i64],.t 12 false [.int .i64],.r 100000000 194 A76],lt 13 30 (lt 5 4 [.b 7,.r 38,.r 39,.r 81925]),false⟩)]
abbrev B8t:List PK:= [.val true (.pair (.rs 9 .str) (.rs 9 .str)) false]
abbrev B8u:List RK:= [.val false (.sl 194 A76)]
def B2X(f:A2B):Nat×Fn:=(170,⟨B8t,B8u,fun x=>f x.1⟩)
def C9a:Fn:=(B2X A0d).2
theorem C9b(f_i_GetRec:A1f):∀ x,(C5 cfg [B7j f_i_GetRec] C9Z 44 [.tmp 2] (Tryz.f170.body.getD .skip) B8t B8u).fn x=B1q f_i_GetRec x.1:=by intro x;kernel_rfl
theorem B8v:B3 Tryz.prog 170 C9a:=sm MO B1 (tc Tryz.call238 C5K A6) Tryz.func170 (by kernel_rfl) (by decide) (C9b A0c)
def D9k:Nat→Option Jn:=B5 [(7,⟨[.t 6 false [.int .i64]],lt 7 15 [],true⟩),(28,⟨[.t 6 false [.int .i64]],lt 7 15 [],false⟩)]
abbrev D28:List PK:= [.val false (.rs 109 kUp) false,.val false .str false]
abbrev D29:List RK:= [.val false (.int .i64),.val false .bool]
def D2A(f:B8H):Nat×Fn:=(289,⟨D28,D29,fun x=>f x.1 x.2.1⟩)
def D9l:Fn:=(D2A A1g).2
theorem D9m:∀ x,(C5 cfg [] D9k 36 [.tmp 4,.tmp 5] (Tryz.f289.body.getD .skip) D28 D29).fn x=B8I x.1 x.2.1:=by intro x;kernel_rfl
theorem D2B:B3 Tryz.prog 289 D9l:=sm MO B1 A6 Tryz.func289 (by kernel_rfl) (by decide) (D9m)
def D9n:Nat→Option Jn:=B5 [(58,⟨[],lt 19 6 [],false⟩),(2026,⟨[],lt 43 30 [],false⟩)]
abbrev D2C:List PK:= [.val false (.sl 109 kUp) false,.val true (.pair (.int .i64) (.pair (.int .i64) (.pair (.int .i64) (.pair .str (.pair (.int .i64) (.rs 5 (.int .u8))))))) false]
abbrev D2D:List RK:= [.val false (.sl 109 kUp),.val false .bool]
def C5L(f:A7q):Nat×Fn:=(239,⟨D2C,D2D,fun x=>f x.1 x.2.1⟩)
def D9o:Fn:=(C5L A6I).2
theorem D9p(f_i_upAt:B8H)(f_slices_Insert_impl_Up_impl_Up:K3)(f_slices_Delete_impl_Up_impl_Up:K5):∀ x,(C5 cfg [D2A f_i_upAt,A03 f_slices_Insert_impl_Up_impl_Up,A04 f_slices_Delete_impl_Up_impl_Up] D9n 113 [.tmp 4,.tmp 5] (Tryz.f239.body.getD .skip) D2C D2D).fn x=C4C f_i_upAt f_slices_Insert_impl_Up_impl_Up f_slices_Delete_impl_Up_impl_Up x.1 x.2.1:=by intro x;kernel_rfl
theorem D2E:B3 Tryz.prog 239 D9o:=sm MO B1 (tc Tryz.call289 D2B (tc Tryz.call290 A52 (tc Tryz.call291 A56 A6))) Tryz.func239 (by kernel_rfl) (by decide) (D9p A1g K4 K6)
def C9c:Nat→Option Jn:=B5 [(7,⟨[.t 4 false [.own 100000000],.r 100000000 109 kUp],lt 6 19 [.b 6,.r 77824],false⟩),(58,⟨[.t 4 false [.own 100000000],.t 11 false [.int .i64],.r 100000000 109 kUp],lt 12 13 (lt 6 3 [.b 6,.r 77824]),false⟩)]
abbrev B8w:List PK:= [.val false (.rs 194 A76) false]
abbrev B8x:List RK:= [.val false (.sl 109 kUp),.val false .bool]
def B2Y(f:A2C):Nat×Fn:=(171,⟨B8w,B8x,fun x=>f x.1⟩)
def C9d:Fn:=(B2Y A0e).2
theorem C9e(f_i_fold:A7q):∀ x,(C5 cfg [C5L f_i_fold] C9c 26 [.tmp 2,.tmp 3] (Tryz.f171.body.getD .skip) B8w B8x).fn x=B1r f_i_fold x.1:=by intro x;kernel_rfl
theorem B8y:B3 Tryz.prog 171 C9d:=sm MO B1 (tc Tryz.call239 D2E A6) Tryz.func171 (by kernel_rfl) (by decide) (C9e A6I)
def D2F:Nat→Option Jn:=B5 [(58,⟨[.t 3 false [.int .i64],.t 10 false [.int .i64]],lt 11 14 (lt 5 3 [.b 6,.r 69637]),false⟩)]
abbrev C1j:List PK:= [.val false (.rs 9 .str) false]
abbrev C1k:List RK:= [.val false (.int .i64)]
def B4a(f:A3m):Nat×Fn:=(174,⟨C1j,C1k,fun x=>f x.1⟩)
def D2G:Fn:=(B4a A1h).2
theorem D2H(f_i_GetRec:A1f):∀ x,(C5 cfg [B7j f_i_GetRec] D2F 26 [.tmp 2] (Tryz.f174.body.getD .skip) C1j C1k).fn x=B3s f_i_GetRec x.1:=by intro x;kernel_rfl
theorem C1l:B3 Tryz.prog 174 D2G:=sm MO B1 (tc Tryz.call238 C5K A6) Tryz.func174 (by kernel_rfl) (by decide) (D2H A0c)
abbrev C5M:List PK:= [.val true (.pair .str (.pair (.int .i64) (.pair (.rs 5 (.int .u8)) .bool))) false,.val true (.pair .str (.pair (.int .i64) (.pair (.rs 5 (.int .u8)) .bool))) false]
abbrev C5N:List RK:= [.val false .bool]
def C5O(f:A7r):Nat×Fn:=(173,⟨C5M,C5N,fun x=>f x.1 x.2.1⟩)
def D4l:Fn:=(C5O A7s).2
theorem D4m(f_bytes_Equal:R7):∀ x,(C5 cfg [A6B f_bytes_Equal] (B5 []) 31 [.tmp 4] (Tryz.f173.body.getD .skip) C5M C5N).fn x=B7F f_bytes_Equal x.1 x.2.1:=by intro x;kernel_rfl
theorem D4n:B3 Tryz.prog 173 D4l:=sm MO B1 (tc Tryz.call77 B04 A6) Tryz.func173 (by kernel_rfl) (by decide) (D4m M3)
def Q2:Nat→Option Jn:=B5 [(58,⟨[.t 17 false [.int .i64]],lt 18 14 (lt 7 3 [.b 8,.b 9]),false⟩)]
abbrev H5:List PK:= [.val false (.rs 109 kUp) false,.val false (.rs 109 kUp) false,.val false (.fnc 173) false]
abbrev H6:List RK:= [.val false .bool]
def H7(f:D3):Nat×Fn:=(172,⟨H5,H6,fun x=>f x.1 x.2.1 x.2.2.1⟩)
def Q3:Fn:=(H7 C1).2
theorem Q4(f_i_sameUp:A7r):∀ x,(C5 cfg [C5O f_i_sameUp] Q2 32 [.tmp 6] (Tryz.f172.body.getD .skip) H5 H6).fn x=E7 f_i_sameUp x.1 x.2.1 x.2.2.1:=by intro x;kernel_rfl
theorem Q5:B3 Tryz.prog 172 Q3:=sm MO B1 (tc Tryz.call173 D4n A6) Tryz.func172 (by kernel_rfl) (by decide) (Q4 A7s)
def D2I:Nat→Option Jn:=B5 [(3,⟨[],lt 6 10 [],false⟩),(31,⟨[],lt 24 16 [],false⟩),(63,⟨[],lt 40 15 [.x 50],false⟩)]
abbrev C1m:List PK:= [.val true (.pair (.pair (.rs 9 .str) (.rs 9 .str)) (.pair (.int .i64) (.pair (.int .i64) (.rs 109 kUp)))) false]
abbrev C1n:List RK:= [.val false .bool]
def C1o(f:A8o):Nat×Fn:=(94,⟨C1m,C1n,fun x=>f x.1⟩)
def D2J:Fn:=(C1o A1i).2
theorem D2K(f_i_isEpoch:A3l)(f_i_DiskOk:A1d)(f_i_ScanRecs:A2B)(f_i_FoldRecs:A2C)(f_slices_EqualFunc_impl_Up_impl_Up_impl_Up_impl_Up_r1002_173:D3)(f_i_topFrom:A3m):∀ x,(C5 cfg [B4Z f_i_isEpoch,B2W f_i_DiskOk,B2X f_i_ScanRecs,B2Y f_i_FoldRecs,H7 f_slices_EqualFunc_impl_Up_impl_Up_impl_Up_impl_Up_r1002_173,B4a f_i_topFrom] D2I 65 [.tmp 2] (Tryz.f94.body.getD .skip) C1m C1n).fn x=B3t f_i_isEpoch f_i_DiskOk f_i_ScanRecs f_i_FoldRecs f_slices_EqualFunc_impl_Up_impl_Up_impl_Up_impl_Up_r1002_173 f_i_topFrom x.1:=by intro x;kernel_rfl
theorem D2L:B3 Tryz.prog 94 D2J:=sm MO B1 (tc Tryz.call168 C1i (tc Tryz.call169 B7h (tc Tryz.call170 B8v (tc Tryz.call171 B8y (tc Tryz.call172 Q5 (tc Tryz.call174 C1l A6)))))) Tryz.func94 (by kernel_rfl) (by decide) (D2K A1c A1e A0d A0e C1 A1h)
def C9f:Nat→Option Jn:=B5 [(3,⟨[],lt 4 13 [.b 4],false⟩),(26,⟨[.t 8 false [.int .i64]],lt 9 8 [.b 4,.t 4],false⟩)]
abbrev B8z:List PK:= [.val true (.pair (.pair (.pair (.rs 9 .str) (.rs 9 .str)) (.pair (.int .i64) (.pair (.int .i64) (.rs 109 kUp)))) (.rs 130 A9)) false]
abbrev B90:List RK:= [.val false .bool]
def B91(f:A79):Nat×Fn:=(28,⟨B8z,B90,fun x=>f x.1⟩)
def C9g:Fn:=(B91 A4I).2
theorem C9h(f_i_RespOk:Z2)(f_i_StoreOk:A8o):∀ x,(C5 cfg [B2V f_i_RespOk,C1o f_i_StoreOk] C9f 26 [.tmp 2] (Tryz.f28.body.getD .skip) B8z B90).fn x=B1s f_i_RespOk f_i_StoreOk x.1:=by intro x;kernel_rfl
theorem C9i:B3 Tryz.prog 28 C9g:=sm MO B1 (tc Tryz.call93 B7g (tc Tryz.call94 D2L A6)) Tryz.func28 (by kernel_rfl) (by decide) (C9h V8 A1i)
abbrev B92:List PK:= [.val true (.pair .str (.pair (.rs 5 (.int .u8)) E5)) false]
abbrev B93:List RK:= [.val false .bool]
def A4n(f:O6):Nat×Fn:=(145,⟨B92,B93,fun x=>f x.1⟩)
def C9j:Fn:=(A4n L5).2
theorem C9k(f_i_inRange:C2)(f_i_idOk:U3):∀ x,(C5 cfg [I9 f_i_inRange,A6c f_i_idOk] (B5 []) 25 [.tmp 2] (Tryz.f145.body.getD .skip) B92 B93).fn x=B1t f_i_inRange f_i_idOk x.1:=by intro x;kernel_rfl
theorem A7Q:B3 Tryz.prog 145 C9j:=sm MO B1 (tc Tryz.call80 J7 (tc Tryz.call147 A8H A6)) Tryz.func145 (by kernel_rfl) (by decide) (C9k C6 S4)
def C6w:Nat→Option Jn:=B5 [(3,⟨[],lt 6 28 [.b 4,.b 6,.t 3,.t 4],false⟩),(26,⟨[.t 10 false [.int .i64]],lt 11 23 [.b 4,.b 6,.t 3,.t 4,.t 6],false⟩),(13518,⟨[.t 23 false [.int .i64]],lt 24 9 [.b 6,.t 6],false⟩)]
abbrev B6J:List PK:= [.val true (.pair (.pair (.pair (.pair (.rs 9 .str) (.rs 9 .str)) (.pair (.int .i64) (.pair (.int .i64) (.rs 109 kUp)))) (.rs 130 A9)) (.pair (.rs 79 B2) (.pair (.rs 4 .bool) (.pair (.rs 113 F0) (.pair (.rs 130 A9) (.rs 3 (.int .i64))))))) false]
abbrev B6K:List RK:= [.val false .bool]
def B6L(f:A5s):Nat×Fn:=(78,⟨B6J,B6K,fun x=>f x.1⟩)
def C6x:Fn:=(B6L A2a).2
theorem C6y(f_i_ClientOk:O6):∀ x,(C5 cfg [A4n f_i_ClientOk] C6w 56 [.tmp 2] (Tryz.f78.body.getD .skip) B6J B6K).fn x=A9o f_i_ClientOk x.1:=by intro x;kernel_rfl
theorem C6z:B3 Tryz.prog 78 C6x:=sm MO B1 (tc Tryz.call145 A7Q A6) Tryz.func78 (by kernel_rfl) (by decide) (C6y L5)
abbrev B2r:List PK:= [.val false (.int .i64) false]
abbrev B2s:List RK:= [.val false .str,.val false (.int .i64)]
def B2t(f:A3I):Nat×Fn:=(146,⟨B2r,B2s,fun x=>f x.1⟩)
def C2Z:Fn:=(B2t A3J).2
theorem C2a:∀ x,(C5 cfg [] (B5 []) 11 [.tmp 2,.tmp 3] (Tryz.f146.body.getD .skip) B2r B2s).fn x=A6j x.1:=by intro x;kernel_rfl
theorem C2b:B3 Tryz.prog 146 C2Z:=sm MO B1 A6 Tryz.func146 (by kernel_rfl) (by decide) (C2a)
abbrev C8S:List PK:= [.val true U1 false]
abbrev C8T:List RK:= [.val false .bool]
def C0b(f:A5K):Nat×Fn:=(79,⟨C8S,C8T,fun x=>f x.1⟩)
def D7X:Fn:=(C0b A3n).2
theorem D7Y(f_i_inRange:C2)(f_i_numberField:A3I)(f_i_idOk:U3):∀ x,(C5 cfg [I9 f_i_inRange,B2t f_i_numberField,A6c f_i_idOk] (B5 []) 25 [.tmp 2] (Tryz.f79.body.getD .skip) C8S C8T).fn x=C05 f_i_inRange f_i_numberField f_i_idOk x.1:=by intro x;kernel_rfl
theorem C8U:B3 Tryz.prog 79 D7X:=sm MO B1 (tc Tryz.call80 J7 (tc Tryz.call146 C2b (tc Tryz.call147 A8H A6))) Tryz.func79 (by kernel_rfl) (by decide) (D7Y C6 A3J S4)
def D4o:Nat→Option Jn:=B5 [(26,⟨[.t 9 false [.int .i64]],lt 10 18 [.b 6,.t 6],false⟩)]
abbrev C5P:List PK:= [.val true (.pair (.pair (.pair (.pair (.rs 9 .str) (.rs 9 .str)) (.pair (.int .i64) (.pair (.int .i64) (.rs 109 kUp)))) (.rs 130 A9)) (.pair (.rs 79 B2) (.pair (.rs 4 .bool) (.pair (.rs 113 F0) (.pair (.rs 130 A9) (.rs 3 (.int .i64))))))) false,.val false (.rs 130 A9) false]
abbrev C5Q:List RK:= [.val false .bool]
def C5R(f:B1v):Nat×Fn:=(81,⟨C5P,C5Q,fun x=>f x.1 x.2.1⟩)
def D4p:Fn:=(C5R A7t).2
theorem D4q(f_i_inRange:C2)(f_i_RespOk:Z2):∀ x,(C5 cfg [I9 f_i_inRange,B2V f_i_RespOk] D4o 28 [.tmp 4] (Tryz.f81.body.getD .skip) C5P C5Q).fn x=B7G f_i_inRange f_i_RespOk x.1 x.2.1:=by intro x;kernel_rfl
theorem D4r:B3 Tryz.prog 81 D4p:=sm MO B1 (tc Tryz.call80 J7 (tc Tryz.call93 B7g A6)) Tryz.func81 (by kernel_rfl) (by decide) (D4q C6 V8)
def D2M:Nat→Option Jn:=B5 [(3,⟨[],lt 5 15 [],false⟩),(7,⟨[],lt 20 22 [.b 4,.t 4],false⟩),(58,⟨[.t 23 false [.int .i64]],lt 24 18 [.b 4,.t 4],false⟩)]
abbrev C1p:List PK:= [.val true (.pair (.pair (.pair (.pair (.rs 9 .str) (.rs 9 .str)) (.pair (.int .i64) (.pair (.int .i64) (.rs 109 kUp)))) (.rs 130 A9)) (.pair (.rs 79 B2) (.pair (.rs 4 .bool) (.pair (.rs 113 F0) (.pair (.rs 130 A9) (.rs 3 (.int .i64))))))) false]
abbrev C1q:List RK:= [.val false .bool]
def A9P(f:A0U):Nat×Fn:=(23,⟨C1p,C1q,fun x=>f x.1⟩)
def D2N:Fn:=(A9P U9).2
theorem D2O(f_i_ServerOk:A79)(f_i_clientsOk:A5s)(f_i_ReqOk:A5K)(f_i_inRange:C2)(f_i_heldOk:B1v):∀ x,(C5 cfg [B91 f_i_ServerOk,B6L f_i_clientsOk,C0b f_i_ReqOk,I9 f_i_inRange,C5R f_i_heldOk] D2M 58 [.tmp 2] (Tryz.f23.body.getD .skip) C1p C1q).fn x=B3v f_i_ServerOk f_i_clientsOk f_i_ReqOk f_i_inRange f_i_heldOk x.1:=by intro x;kernel_rfl
theorem B4b:B3 Tryz.prog 23 D2N:=sm MO B1 (tc Tryz.call28 C9i (tc Tryz.call78 C6z (tc Tryz.call79 C8U (tc Tryz.call80 J7 (tc Tryz.call81 D4r A6))))) Tryz.func23 (by kernel_rfl) (by decide) (D2O A4I A2a A3n C6 A7t)
abbrev D2P:List PK:= [.val true (.pair (.pair (.pair (.pair (.rs 9 .str) (.rs 9 .str)) (.pair (.int .i64) (.pair (.int .i64) (.rs 109 kUp)))) (.rs 130 A9)) (.pair (.rs 79 B2) (.pair (.rs 4 .bool) (.pair (.rs 113 F0) (.pair (.rs 130 A9) (.rs 3 (.int .i64))))))) false]
abbrev D2Q:List RK:= [.val false (.int .i64)]
def D2R(f:B8J):Nat×Fn:=(17,⟨D2P,D2Q,fun x=>f x.1⟩)
def D9q:Fn:=(D2R B3w).2
theorem D9r(f_i_Begins:B1k)(f_i_NotLost:A8l)(f_i_Ends:B8G)(f_i_NoneFails:A5q)(f_i_WorldOk:A0U):∀ x,(C5 cfg [C54 f_i_Begins,C1d f_i_NotLost,D21 f_i_Ends,B6I f_i_NoneFails,A9P f_i_WorldOk] (B5 []) 23 [.tmp 2] (Tryz.f17.body.getD .skip) D2P D2Q).fn x=C4D f_i_Begins f_i_NotLost f_i_Ends f_i_NoneFails f_i_WorldOk x.1:=by intro x;kernel_rfl
theorem D9s:B3 Tryz.prog 17 D9q:=sm MO B1 (tc Tryz.call19 D4T (tc Tryz.call20 D1y (tc Tryz.call21 D9g (tc Tryz.call22 C6v (tc Tryz.call23 B4b A6))))) Tryz.func17 (by kernel_rfl) (by decide) (D9r A7m A6H B3r A2Z U9)
def C70:Nat→Option Jn:=B5 [(58,⟨[.t 5 false [.int .i64]],lt 11 15 [],false⟩)]
abbrev B6M:List PK:= [.val false (.rs 5 (.int .u8)) false,.val false (.rs 5 (.int .u8)) false]
abbrev B6N:List RK:= [.val false .bool]
def B6O(f:A2b):Nat×Fn:=(95,⟨B6M,B6N,fun x=>f x.1 x.2.1⟩)
def C71:Fn:=(B6O A19).2
theorem C72:∀ x,(C5 cfg [] C70 26 [.tmp 4] (Tryz.f95.body.getD .skip) B6M B6N).fn x=A9p x.1 x.2.1:=by intro x;kernel_rfl
theorem C73:B3 Tryz.prog 95 C71:=sm MO B1 A6 Tryz.func95 (by kernel_rfl) (by decide) (C72)
def D2S:Nat→Option Jn:=B5 [(58,⟨[.t 5 false [.int .i64]],lt 11 57 [],false⟩)]
abbrev C1r:List PK:= [.val false (.rs 109 kUp) false,.val false (.rs 109 kUp) false]
abbrev C1s:List RK:= [.val false .bool]
def C1t(f:A8p):Nat×Fn:=(29,⟨C1r,C1s,fun x=>f x.1 x.2.1⟩)
def D2T:Fn:=(C1t A6J).2
theorem D2U(f_w_sameBytes:A2b):∀ x,(C5 cfg [B6O f_w_sameBytes] D2S 68 [.tmp 4] (Tryz.f29.body.getD .skip) C1r C1s).fn x=B3x f_w_sameBytes x.1 x.2.1:=by intro x;kernel_rfl
theorem D2V:B3 Tryz.prog 29 D2T:=sm MO B1 (tc Tryz.call95 C73 A6) Tryz.func29 (by kernel_rfl) (by decide) (D2U A19)
abbrev D2W:List PK:= [.val false (.int .i64) false,.val false (.int .i64) false,.val false (.int .i64) false]
abbrev D2X:List RK:= [.val false .bool]
def Q8(f:E3):Nat×Fn:=(120,⟨D2W,D2X,fun x=>f x.1 x.2.1 x.2.2.1⟩)
def D9t:Fn:=(Q8 E1).2
theorem D9u:∀ x,(C5 cfg [] (B5 []) 15 [.tmp 6] (Tryz.f120.body.getD .skip) D2W D2X).fn x=C4E x.1 x.2.1 x.2.2.1:=by intro x;kernel_rfl
theorem S9:B3 Tryz.prog 120 D9t:=sm MO B1 A6 Tryz.func120 (by kernel_rfl) (by decide) (D9u)
def E1J:Nat→Option Jn:=B5 [(7,⟨[.t 3 false [.int .i64]],lt 4 28 [],true⟩),(58,⟨[.t 3 false [.int .i64],.t 4 false [.int .i64]],lt 5 27 [],false⟩),(7462,⟨[.t 3 false [.int .i64],.t 5 false [.int .i64]],lt 20 12 [.t 6],false⟩)]
abbrev D6I:List PK:= [.val false (.rs 5 (.int .u8)) false]
abbrev D6J:List RK:= [.val false (.int .i64)]
def C3U(f:A8r):Nat×Fn:=(152,⟨D6I,D6J,fun x=>f x.1⟩)
def E1K:Fn:=(C3U A7A).2
theorem E1L:∀ x,(C5 cfg [] E1J 34 [.tmp 2] (Tryz.f152.body.getD .skip) D6I D6J).fn x=C92 x.1:=by intro x;kernel_rfl
theorem C9l:B3 Tryz.prog 152 E1K:=sm MO B1 A6 Tryz.func152 (by kernel_rfl) (by decide) (E1L)
def D7Z:Nat→Option Jn:=B5 [(3,⟨[],lt 3 21 [],false⟩),(26,⟨[.t 3 false [.int .i64]],lt 4 20 [],false⟩)]
abbrev C8V:List PK:= [.val false .str false]
abbrev C8W:List RK:= [.val false .bool]
def A3v(f:P4):Nat×Fn:=(160,⟨C8V,C8W,fun x=>f x.1⟩)
def D7a:Fn:=(A3v O0).2
theorem D7b(f_s_l1In:E3):∀ x,(C5 cfg [Q8 f_s_l1In] D7Z 27 [.tmp 2] (Tryz.f160.body.getD .skip) C8V C8W).fn x=C07 f_s_l1In x.1:=by intro x;kernel_rfl
theorem A5i:B3 Tryz.prog 160 D7a:=sm MO B1 (tc Tryz.call120 S9 A6) Tryz.func160 (by kernel_rfl) (by decide) (D7b E1)
abbrev B94:List PK:= [.val true (.pair .str (.pair (.rs 5 (.int .u8)) E5)) false]
abbrev B95:List RK:= [.val false .bool]
def A4o(f:O7):Nat×Fn:=(215,⟨B94,B95,fun x=>f x.1⟩)
def C9m:Fn:=(A4o G0).2
theorem C9n(f_s_l1In:E3)(f_s_l11Id:P4):∀ x,(C5 cfg [Q8 f_s_l1In,A3v f_s_l11Id] (B5 []) 25 [.tmp 2] (Tryz.f215.body.getD .skip) B94 B95).fn x=B1w f_s_l1In f_s_l11Id x.1:=by intro x;kernel_rfl
theorem A7R:B3 Tryz.prog 215 C9m:=sm MO B1 (tc Tryz.call120 S9 (tc Tryz.call160 A5i A6)) Tryz.func215 (by kernel_rfl) (by decide) (C9n E1 O0)
def D2Y:Nat→Option Jn:=B5 [(128503,⟨[.t 7 false [.int .i64]],lt 40 8 [],true⟩)]
abbrev C1u:List PK:= [.val true (.pair .str (.pair (.rs 5 (.int .u8)) E5)) false]
abbrev C1v:List RK:= [.val true U1,.val false (.sl 5 (.int .u8)),.val false .bool]
def C1w(f:A8t):Nat×Fn:=(251,⟨C1u,C1v,fun x=>f x.1⟩)
def D2Z:Fn:=(C1w A6K).2
theorem D2a(f_s_Crc:A8r)(f_s_ClientOk:O7):∀ x,(C5 cfg [C3U f_s_Crc,A4o f_s_ClientOk] D2Y 65 [.cell 2 43,.tmp 3,.tmp 4] (Tryz.f251.body.getD .skip) C1u C1v).fn x=B3z f_s_Crc f_s_ClientOk x.1:=by intro x;kernel_rfl
theorem D2b:B3 Tryz.prog 251 D2Z:=sm MO B1 (tc Tryz.call152 C9l (tc Tryz.call215 A7R A6)) Tryz.func251 (by kernel_rfl) (by decide) (D2a A7A G0)
abbrev C1x:List PK:= [.val true (.pair (.rs 9 .str) (.rs 9 .str)) false]
abbrev C1y:List RK:= [.val true A2X]
def A6d(f:Y1):Nat×Fn:=(229,⟨C1x,C1y,fun x=>f x.1⟩)
def D2c:Fn:=(A6d V0).2
theorem D2d:∀ x,(C5 cfg [] (B5 []) 12 [.cell 2 26] (Tryz.f229.body.getD .skip) C1x C1y).fn x=B40 x.1:=by intro x;kernel_rfl
theorem A9Q:B3 Tryz.prog 229 D2c:=sm MO B1 A6 Tryz.func229 (by kernel_rfl) (by decide) (D2d)
def C5S:Nat→Option Jn:=B5 [(58,⟨[.t 3 false [.own 100000000],.t 4 false [.int .i64],.r 100000000 109 kUp],lt 7 19 [.b 5,.r 6,.r 17,.r 20,.r 24,.r 25,.t 5],false⟩)]
abbrev B4c:List PK:= [.val false (.rs 109 kUp) false]
abbrev B4d:List RK:= [.val false (.sl 109 kUp)]
def A8I(f:M4):Nat×Fn:=(230,⟨B4c,B4d,fun x=>f x.1⟩)
def C5T:Fn:=(A8I L0).2
theorem C5U:∀ x,(C5 cfg [] C5S 27 [.tmp 2] (Tryz.f230.body.getD .skip) B4c B4d).fn x=A4J x.1:=by intro x;kernel_rfl
theorem B4e:B3 Tryz.prog 230 C5T:=sm MO B1 A6 Tryz.func230 (by kernel_rfl) (by decide) (C5U)
abbrev C1z:List PK:= [.val true (.pair (.pair (.rs 9 .str) (.rs 9 .str)) (.pair (.int .i64) (.pair (.int .i64) (.rs 109 kUp)))) false]
abbrev C20:List RK:= [.val true A7k]
def A6e(f:O1):Nat×Fn:=(157,⟨C1z,C20,fun x=>f x.1⟩)
def D2e:Fn:=(A6e L9).2
theorem D2f(f_s_l12Copy:Y1)(f_s_l14CopyUps:M4):∀ x,(C5 cfg [A6d f_s_l12Copy,A8I f_s_l14CopyUps] (B5 []) 14 [.cell 2 29] (Tryz.f157.body.getD .skip) C1z C20).fn x=A8u f_s_l12Copy f_s_l14CopyUps x.1:=by intro x;kernel_rfl
theorem A9R:B3 Tryz.prog 157 D2e:=sm MO B1 (tc Tryz.call229 A9Q (tc Tryz.call230 B4e A6)) Tryz.func157 (by kernel_rfl) (by decide) (D2f V0 L0)
def D4s:Nat→Option Jn:=B5 [(3,⟨[],lt 4 13 [],false⟩),(58,⟨[.t 3 false [.int .i64]],lt 17 23 [],false⟩)]
abbrev C5V:List PK:= [.val true (.pair (.rs 9 .str) (.rs 9 .str)) false]
abbrev C5W:List RK:= [.val false .bool]
def B2Z(f:A1k):Nat×Fn:=(231,⟨C5V,C5W,fun x=>f x.1⟩)
def D4t:Fn:=(B2Z T8).2
theorem D4u:∀ x,(C5 cfg [] D4s 40 [.tmp 2] (Tryz.f231.body.getD .skip) C5V C5W).fn x=B1x x.1:=by intro x;kernel_rfl
theorem B7k:B3 Tryz.prog 231 D4t:=sm MO B1 A6 Tryz.func231 (by kernel_rfl) (by decide) (D4u)
def D4v:Nat→Option Jn:=B5 [(3,⟨[],lt 10 15 [],false⟩),(15,⟨[.t 8 false [.int .i64]],lt 25 15 [.t 9],true⟩),(122,⟨[.t 8 false [.int .i64],.t 9 false [.int .i64]],lt 25 15 [],false⟩)]
abbrev C5X:List PK:= [.val false (.rs 5 (.int .u8)) false,.val false (.int .i64) false,.val false (.int .i64) false]
abbrev C5Y:List RK:= [.val false (.int .i64),.val false .bool]
def C5Z(f:B1y):Nat×Fn:=(282,⟨C5X,C5Y,fun x=>f x.1 x.2.1 x.2.2.1⟩)
def D4w:Fn:=(C5Z A5M).2
theorem D4x(f_s_l1In:E3):∀ x,(C5 cfg [Q8 f_s_l1In] D4v 41 [.tmp 6,.tmp 7] (Tryz.f282.body.getD .skip) C5X C5Y).fn x=B7J f_s_l1In x.1 x.2.1 x.2.2.1:=by intro x;kernel_rfl
theorem D4y:B3 Tryz.prog 282 D4w:=sm MO B1 (tc Tryz.call120 S9 A6) Tryz.func282 (by kernel_rfl) (by decide) (D4x E1)
def D7c:Nat→Option Jn:=B5 [(3,⟨[],lt 3 16 [],false⟩),(943,⟨[.t 43 false [.bool]],[.t 44,.t 45],true⟩)]
abbrev C8X:List PK:= [.val true (.pair (.int .i64) (.pair (.int .i64) (.pair (.int .i64) (.pair .str (.pair (.int .i64) (.rs 5 (.int .u8))))))) false]
abbrev C8Y:List RK:= [.val false .bool]
def C8Z(f:B5X):Nat×Fn:=(283,⟨C8X,C8Y,fun x=>f x.1⟩)
def D7d:Fn:=(C8Z B0Z).2
theorem D7e(f_s_l1In:E3)(f_s_l11Id:P4):∀ x,(C5 cfg [Q8 f_s_l1In,A3v f_s_l11Id] D7c 55 [.tmp 2] (Tryz.f283.body.getD .skip) C8X C8Y).fn x=C08 f_s_l1In f_s_l11Id x.1:=by intro x;kernel_rfl
theorem D7f:B3 Tryz.prog 283 D7d:=sm MO B1 (tc Tryz.call120 S9 (tc Tryz.call160 A5i A6)) Tryz.func283 (by kernel_rfl) (by decide) (D7e E1 O0)
def D4z:Nat→Option Jn:=B5 [(7,⟨[.t 1 false [.int .i64]],[.t 12,.t 13],true⟩),(250,⟨[.t 7 false [.own 100001000],.t 8 false [.int .i64],.r 100001000 5 (.int .u8)],lt 20 13 [.r 11,.r 31,.r 32],false⟩)]
abbrev C5a:List PK:= [.val false (.rs 5 (.int .u8)) false,.val false (.int .i64) false,.val false (.int .i64) false]
abbrev C5b:List RK:= [.val false (.sl 5 (.int .u8))]
def C5c(f:B1z):Nat×Fn:=(306,⟨C5a,C5b,fun x=>f x.1 x.2.1 x.2.2.1⟩)
def D50:Fn:=(C5c A7v).2
theorem D51(f_s_l1In:E3):∀ x,(C5 cfg [Q8 f_s_l1In] D4z 34 [.tmp 6] (Tryz.f306.body.getD .skip) C5a C5b).fn x=B7K f_s_l1In x.1 x.2.1 x.2.2.1:=by intro x;kernel_rfl
theorem D52:B3 Tryz.prog 306 D50:=sm MO B1 (tc Tryz.call120 S9 A6) Tryz.func306 (by kernel_rfl) (by decide) (D51 E1)
abbrev C5d:List PK:= [.val true (.pair (.int .i64) (.pair (.int .i64) (.pair (.int .i64) (.pair .str (.pair (.int .i64) (.rs 5 (.int .u8))))))) false]
abbrev C5e:List RK:= [.val false .str]
def B7l(f:A5N):Nat×Fn:=(284,⟨C5d,C5e,fun x=>f x.1⟩)
def D53:Fn:=(B7l A3Y).2
theorem D54(f_s_Crc:A8r)(f_s_PutBig:B1z):∀ x,(C5 cfg [C3U f_s_Crc,C5c f_s_PutBig] (B5 []) 38 [.tmp 2] (Tryz.f284.body.getD .skip) C5d C5e).fn x=B7L f_s_Crc f_s_PutBig x.1:=by intro x;kernel_rfl
theorem C5f:B3 Tryz.prog 284 D53:=sm MO B1 (tc Tryz.call152 C9l (tc Tryz.call306 D52 A6)) Tryz.func284 (by kernel_rfl) (by decide) (D54 A7A A7v)
def D55:Nat→Option Jn:=B5 [(255,⟨[],lt 42 21 [],false⟩),(4095,⟨[],lt 87 15 [],false⟩)]
abbrev C5g:List PK:= [.val false .str false]
abbrev C5h:List RK:= [.val true A76,.val false .bool]
def B2a(f:V9):Nat×Fn:=(235,⟨C5g,C5h,fun x=>f x.1⟩)
def D56:Fn:=(B2a L1).2
theorem D57(f_s_GetBig:B1y)(f_s_RecOk:B5X)(f_s_l13Put:A5N):∀ x,(C5 cfg [C5Z f_s_GetBig,C8Z f_s_RecOk,B7l f_s_l13Put] D55 127 [.cell 2 194,.tmp 3] (Tryz.f235.body.getD .skip) C5g C5h).fn x=B7M f_s_GetBig f_s_RecOk f_s_l13Put x.1:=by intro x;kernel_rfl
theorem B7m:B3 Tryz.prog 235 D56:=sm MO B1 (tc Tryz.call282 D4y (tc Tryz.call283 D7f (tc Tryz.call284 C5f A6))) Tryz.func235 (by kernel_rfl) (by decide) (D57 A5M B0Z A3Y)
def C9o:Nat→Option Jn:=B5 [(122,⟨[.t 3 false [.own 100000000],.t 4 false [.int .i64],.t 5 false [.int .i64],.r 100000000 194 A76],lt 40 6 (lt 9 30 [.b 6,.r 8,.r 42,.r 43,.r 94213,.t 6,.t 7]),false⟩)]
abbrev B96:List PK:= [.val true (.pair (.rs 9 .str) (.rs 9 .str)) false]
abbrev B97:List RK:= [.val false (.sl 194 A76)]
def B2b(f:A2E):Nat×Fn:=(232,⟨B96,B97,fun x=>f x.1⟩)
def C9p:Fn:=(B2b Y2).2
theorem C9q(f_s_GetRec:V9):∀ x,(C5 cfg [B2a f_s_GetRec] C9o 47 [.tmp 2] (Tryz.f232.body.getD .skip) B96 B97).fn x=B8K f_s_GetRec x.1:=by intro x;kernel_rfl
theorem B98:B3 Tryz.prog 232 C9p:=sm MO B1 (tc Tryz.call235 B7m A6) Tryz.func232 (by kernel_rfl) (by decide) (C9q L1)
def D7g:Nat→Option Jn:=B5 [(26,⟨[.t 5 false [.int .i64]],lt 6 13 [],false⟩)]
abbrev C8a:List PK:= [.val false (.rs 109 kUp) false,.val false .str false]
abbrev C8b:List RK:= [.val false (.int .i64)]
def A5j(f:T1):Nat×Fn:=(206,⟨C8a,C8b,fun x=>f x.1 x.2.1⟩)
def D7h:Fn:=(A5j P5).2
theorem D7i:∀ x,(C5 cfg [] D7g 20 [.tmp 4] (Tryz.f206.body.getD .skip) C8a C8b).fn x=C09 x.1 x.2.1:=by intro x;kernel_rfl
theorem A7a:B3 Tryz.prog 206 D7h:=sm MO B1 A6 Tryz.func206 (by kernel_rfl) (by decide) (D7i)
def A8J:Nat→Option Jn:=B5 [(58,⟨[.t 3 false [.own 100000000],.t 4 false [.int .i64],.r 100000000 109 (.pair .str (.pair (.int .i64) (.pair (.rs 5 (.int .u8)) .bool)))],lt 7 19 [.b 5,.r 6,.r 17,.r 20,.r 24,.r 25,.t 5],false⟩)]
abbrev A22:List PK:= [.val false (.rs 109 kUp) false]
abbrev A23:List RK:= [.val false (.sl 109 (.pair .str (.pair (.int .i64) (.pair (.rs 5 (.int .u8)) .bool))))]
def W9(f:M4):Nat×Fn:=(230,⟨A22,A23,fun x=>f x.1⟩)
def A8K:Fn:=(W9 L0).2
theorem A8L:∀ x,(C5 B4U [] A8J 27 [.tmp 2] (Tryz.f230.body.getD .skip) A22 A23).fn x=A4J x.1:=by intro x;kernel_rfl
theorem A24:B3 Tryz.prog 230 A8K:=sm MO A09 A6 Tryz.func230 (by kernel_rfl) (by decide) (A8L)
def B0g:Nat→Option Jn:=B5 [(15,⟨[.t 5 false [.own 11],.t 6 false [.int .i64],.r 11 109 (.pair .str (.pair (.int .i64) (.pair (.rs 5 (.int .u8)) .bool)))],lt 15 23 [.x 21,.x 33,.x 35],true⟩),(60,⟨[.t 5 false [.own 11],.t 6 false [.int .i64],.r 11 109 (.pair .str (.pair (.int .i64) (.pair (.rs 5 (.int .u8)) .bool)))],lt 15 23 [.x 21,.x 33,.x 35],false⟩),(120,⟨[],lt 15 13 [.x 21],false⟩)]
abbrev A3w:List PK:= [.val false (.rs 109 kUp) false,.val true (.pair .str (.pair (.int .i64) (.pair (.rs 5 (.int .u8)) .bool))) false]
abbrev A3x:List RK:= [.val false (.sl 109 (.pair .str (.pair (.int .i64) (.pair (.rs 5 (.int .u8)) .bool))))]
def A3y(f:T2):Nat×Fn:=(305,⟨A3w,A3x,fun x=>f x.1 x.2.1⟩)
def B0h:Fn:=(A3y O2).2
theorem B0i(f_s_l14CopyUps:M4):∀ x,(C5 B4U [W9 f_s_l14CopyUps] B0g 43 [.tmp 4] (Tryz.f305.body.getD .skip) A3w A3x).fn x=A0A f_s_l14CopyUps x.1 x.2.1:=by intro x;kernel_rfl
theorem B0j:B3 Tryz.prog 305 B0h:=sm MO A09 (tc Tryz.call230 A24 A6) Tryz.func305 (by kernel_rfl) (by decide) (B0i L0)
def C0c:Nat→Option Jn:=B5 [(4074,⟨[],lt 43 27 [],false⟩)]
abbrev B0k:List PK:= [.val false (.rs 109 kUp) false,.val true (.pair (.int .i64) (.pair (.int .i64) (.pair (.int .i64) (.pair .str (.pair (.int .i64) (.rs 5 (.int .u8))))))) false]
abbrev B0l:List RK:= [.val false (.rs 109 (.pair .str (.pair (.int .i64) (.pair (.rs 5 (.int .u8)) .bool)))),.val false .bool]
def A5k(f:R0):Nat×Fn:=(281,⟨B0k,B0l,fun x=>f x.1 x.2.1⟩)
def C0d:Fn:=(A5k O3).2
theorem C0e(f_s_l14At:T1)(f_s_l14CopyUps:M4)(f_s_l14Make_r98_0_r99_0:T2):∀ x,(C5 cfg [A5j f_s_l14At,A8I f_s_l14CopyUps,A3y f_s_l14Make_r98_0_r99_0] C0c 114 [.tmp 4,.tmp 5] (Tryz.f281.body.getD .skip) B0k B0l).fn x=A5O f_s_l14At f_s_l14CopyUps f_s_l14Make_r98_0_r99_0 x.1 x.2.1:=by intro x;kernel_rfl
theorem B0m:B3 Tryz.prog 281 C0d:=sm MO B1 (tc Tryz.call206 A7a (tc Tryz.call230 B4e (tc Tryz.call305 B0j A6))) Tryz.func281 (by kernel_rfl) (by decide) (C0e P5 L0 O2)
def C5i:Nat→Option Jn:=B5 [(58,⟨[.t 5 false [.int .i64]],lt 11 58 [],false⟩)]
abbrev B4f:List PK:= [.val false (.rs 109 kUp) false,.val false (.rs 109 kUp) false]
abbrev B4g:List RK:= [.val false .bool]
def B4h(f:A4L):Nat×Fn:=(234,⟨B4f,B4g,fun x=>f x.1 x.2.1⟩)
def C5j:Fn:=(B4h A1l).2
theorem C5k:∀ x,(C5 cfg [] C5i 69 [.tmp 4] (Tryz.f234.body.getD .skip) B4f B4g).fn x=A7w x.1 x.2.1:=by intro x;kernel_rfl
theorem C5l:B3 Tryz.prog 234 C5j:=sm MO B1 A6 Tryz.func234 (by kernel_rfl) (by decide) (C5k)
def B7n:Nat→Option Jn:=B5 [(7,⟨[.t 4 false [.ro 109 (.pair .str (.pair (.int .i64) (.pair (.rs 5 (.int .u8)) .bool)))]],lt 5 21 [.r 8,.t 27],false⟩),(58,⟨[.t 4 false [.ro 109 (.pair .str (.pair (.int .i64) (.pair (.rs 5 (.int .u8)) .bool)))],.t 5 false [.int .i64]],lt 6 20 [.r 8,.t 27],false⟩)]
abbrev A8M:List PK:= [.val false (.rs 194 A76) false]
abbrev A8N:List RK:= [.val false (.rs 109 kUp),.val false .bool]
def A3e(f:R1):Nat×Fn:=(233,⟨A8M,A8N,fun x=>f x.1⟩)
def B7o:Fn:=(A3e N5).2
theorem B7p(f_s_l14One_r99_0:R0):∀ x,(C5 cfg [A5k f_s_l14One_r99_0] B7n 29 [.tmp 2,.tmp 3] (Tryz.f233.body.getD .skip) A8M A8N).fn x=A3Z f_s_l14One_r99_0 x.1:=by intro x;kernel_rfl
theorem A8O:B3 Tryz.prog 233 B7o:=sm MO B1 (tc Tryz.call281 B0m A6) Tryz.func233 (by kernel_rfl) (by decide) (B7p O3)
def D2g:Nat→Option Jn:=B5 [(3,⟨[],lt 9 10 [],false⟩),(31,⟨[],lt 27 33 [],false⟩),(506,⟨[.t 6 false [.int .i64]],lt 62 26 [.b 7,.r 319493,.t 7,.t 8],false⟩)]
abbrev C21:List PK:= [.val true (.pair (.pair (.rs 9 .str) (.rs 9 .str)) (.pair (.int .i64) (.pair (.int .i64) (.rs 109 kUp)))) false]
abbrev C22:List RK:= [.val false .bool]
def A3z(f:P9):Nat×Fn:=(159,⟨C21,C22,fun x=>f x.1⟩)
def D2h:Fn:=(A3z F7).2
theorem D2i(f_s_l1In:E3)(f_s_DiskOk:A1k)(f_s_ScanRecs:A2E)(f_s_FoldRecs_r99_0:R1)(f_s_l14SameUps:A4L)(f_s_GetRec:V9):∀ x,(C5 cfg [Q8 f_s_l1In,B2Z f_s_DiskOk,B2b f_s_ScanRecs,A3e f_s_FoldRecs_r99_0,B4h f_s_l14SameUps,B2a f_s_GetRec] D2g 88 [.tmp 2] (Tryz.f159.body.getD .skip) C21 C22).fn x=A8w f_s_l1In f_s_DiskOk f_s_ScanRecs f_s_FoldRecs_r99_0 f_s_l14SameUps f_s_GetRec x.1:=by intro x;kernel_rfl
theorem A6f:B3 Tryz.prog 159 D2h:=sm MO B1 (tc Tryz.call120 S9 (tc Tryz.call231 B7k (tc Tryz.call232 B98 (tc Tryz.call233 A8O (tc Tryz.call234 C5l (tc Tryz.call235 B7m A6)))))) Tryz.func159 (by kernel_rfl) (by decide) (D2i E1 T8 Y2 N5 A1l L1)
end
end Go.Proofs.YtpdcljonclhhpaaGreat.Ev
