/- Each function of the program does what its plain function says. -/
import Derived.Test.YtpdcljonclhhpaaGreatTy
import Derived.Test.YtpdcljonclhhpaaGreatPu
import Derived.Test.YtpdcljonclhhpaaGreatIns
import Derived.Test.YtpdcljonclhhpaaGreatDelF
import Derived.Test.YtpdcljonclhhpaaGreatChunk
set_option linter.unusedVariables false
set_option maxRecDepth 100000
namespace Go.Proofs.YtpdcljonclhhpaaGreat.Ev
noncomputable section
abbrev A4R:List PK:= [.val false (.sl 109 kUp) false,.val false (.int .i64) false,.val false (.sl 109 kUp) false]
abbrev A4S:List RK:= [.val false (.sl 109 kUp)]
def X2(f:J4):Nat×Fn:=(290,⟨A4R,A4S,fun x=>f x.1 x.2.1 x.2.2.1⟩)
def A4T:Fn:=(X2 J5).2
theorem A4U:B1 Tryz.prog 290 A4T:=D4f kUp (by decide)
abbrev A4V:List PK:= [.val false (.sl 109 kUp) false,.val false (.int .i64) false,.val false (.int .i64) false]
abbrev A4W:List RK:= [.val false (.sl 109 kUp)]
def X3(f:J6):Nat×Fn:=(291,⟨A4V,A4W,fun x=>f x.1 x.2.1 x.2.2.1⟩)
def A4X:Fn:=(X3 J7).2
theorem A4Y:B1 Tryz.prog 291 A4X:=D4d kUp (by decide)
abbrev A2E:List PK:= [.val false (.sl 113 B8) false,.val false (.int .i64) false,.val false (.int .i64) false]
abbrev A2F:List RK:= [.val false (.sl 113 B8)]
def S8(f:H2):Nat×Fn:=(260,⟨A2E,A2F,fun x=>f x.1 x.2.1 x.2.2.1⟩)
def A2G:Fn:=(S8 H3).2
theorem A2H:B1 Tryz.prog 260 A2G:=C0a B8 (by decide)
abbrev A2I:List PK:= [.val false (.sl 130 A9) false,.val false (.int .i64) false,.val false (.int .i64) false]
abbrev A2J:List RK:= [.val false (.sl 130 A9)]
def S9(f:H4):Nat×Fn:=(262,⟨A2I,A2J,fun x=>f x.1 x.2.1 x.2.2.1⟩)
def A2K:Fn:=(S9 H5).2
theorem A2L:B1 Tryz.prog 262 A2K:=C0b A9 (by decide)
abbrev A0m:List PK:= [.val false (.sl 113 B8) false,.ptr (.int .i64)]
abbrev A0n:List RK:= [.val false (.sl 113 B8)]
def P6(f:G1):Nat×Fn:=(267000265,⟨A0m,A0n,fun x=>f x.1 x.2.1⟩)
def A0o:Fn:=(P6 J1).2
theorem A0p:B8x Tryz.prog 265 266 A0o:=B43 (.pair N3 (.sl 5 (.int .u8))) (by decide)
abbrev A0q:List PK:= [.val false (.sl 130 A9) false,.ptr (.int .i64)]
abbrev A0r:List RK:= [.val false (.sl 130 A9)]
def P7(f:G2):Nat×Fn:=(265000267,⟨A0q,A0r,fun x=>f x.1 x.2.1⟩)
def A0s:Fn:=(P7 J2).2
theorem A0t:B8x Tryz.prog 267 264 A0s:=B42 E8 (by decide)
abbrev C3o:List PK:= [.val false (.int .i64) false,.val false (.int .i64) false,.val false (.int .i64) false]
abbrev C3p:List RK:= [.val false .bool]
def G8(f:C2):Nat×Fn:=(80,⟨C3o,C3p,fun x=>f x.1 x.2.1 x.2.2.1⟩)
def D7K:Fn:=(G8 C5).2
theorem D7L:∀ x,(B9 cfg [] (B3 []) 15 [.tmp 6] (Tryz.f80.body.getD .skip) C3o C3p).fn x=C3X x.1 x.2.1 x.2.2.1:=by intro x;kernel_rfl
theorem H8:B1 Tryz.prog 80 D7K:=sm MO A7 A5 Tryz.func80 (by kernel_rfl) (by decide) (D7L)
abbrev C8K:List PK:= [.val true E8 false]
abbrev C8L:List RK:= [.val false .bool]
def B30(f:W8):Nat×Fn:=(93,⟨C8K,C8L,fun x=>f x.1⟩)
def E0r:Fn:=(B30 T3).2
theorem E0s(f_i_inRange:C2):∀ x,(B9 cfg [G8 f_i_inRange] (B3 []) 11 [.tmp 2] (Tryz.f93.body.getD .skip) C8K C8L).fn x=B90 f_i_inRange x.1:=by intro x;kernel_rfl
theorem B9c:B1 Tryz.prog 93 E0r:=sm MO A7 (tc Tryz.call80 H8 A5) Tryz.func93 (by kernel_rfl) (by decide) (E0s C5)
abbrev C3q:List PK:= [.val false (.int .i64) false]
abbrev C3r:List RK:= [.val false .bool]
def B5S(f:A3D):Nat×Fn:=(168,⟨C3q,C3r,fun x=>f x.1⟩)
def D7M:Fn:=(B5S A0y).2
theorem D7N(f_i_inRange:C2):∀ x,(B9 cfg [G8 f_i_inRange] (B3 []) 5 [.tmp 2] (Tryz.f168.body.getD .skip) C3q C3r).fn x=A8n f_i_inRange x.1:=by intro x;kernel_rfl
theorem C3s:B1 Tryz.prog 168 D7M:=sm MO A7 (tc Tryz.call80 H8 A5) Tryz.func168 (by kernel_rfl) (by decide) (D7N C5)
def E0t:Nat→Option Jn:=B3 [(3,⟨[],lt 4 13 [],false⟩),(58,⟨[.t 20 false [.int .i64]],lt 21 19 [.t 3],false⟩)]
abbrev C8M:List PK:= [.val true (.pair (.rs 9 .str) (.rs 9 .str)) false]
abbrev C8N:List RK:= [.val false .bool]
def B31(f:A0z):Nat×Fn:=(169,⟨C8M,C8N,fun x=>f x.1⟩)
def E0u:Fn:=(B31 A10).2
theorem E0v:∀ x,(B9 cfg [] E0t 40 [.tmp 2] (Tryz.f169.body.getD .skip) C8M C8N).fn x=C7K x.1:=by intro x;kernel_rfl
theorem B9d:B1 Tryz.prog 169 E0u:=sm MO A7 A5 Tryz.func169 (by kernel_rfl) (by decide) (E0v)
def E0w:Nat→Option Jn:=B3 [(3,⟨[],lt 11 15 [],false⟩),(15,⟨[.t 8 false [.int .i64]],lt 26 17 [.t 10],true⟩),(122,⟨[.t 8 false [.int .i64],.t 33 false [.int .i64]],lt 34 9 [.t 10],false⟩)]
abbrev C8O:List PK:= [.val false (.rs 5 (.int .u8)) false,.val false (.int .i64) false,.val false (.int .i64) false]
abbrev C8P:List RK:= [.val false (.int .i64),.val false .bool]
def C8Q(f:B23):Nat×Fn:=(307,⟨C8O,C8P,fun x=>f x.1 x.2.1 x.2.2.1⟩)
def E0x:Fn:=(C8Q A7c).2
theorem E0y(f_i_inRange:C2):∀ x,(B9 cfg [G8 f_i_inRange] E0w 44 [.tmp 6,.tmp 7] (Tryz.f307.body.getD .skip) C8O C8P).fn x=B91 f_i_inRange x.1 x.2.1 x.2.2.1:=by intro x;kernel_rfl
theorem E0z:B1 Tryz.prog 307 E0x:=sm MO A7 (tc Tryz.call80 H8 A5) Tryz.func307 (by kernel_rfl) (by decide) (E0y C5)
def B44:Nat→Option Jn:=B3 [(7,⟨[],lt 20 8 [],false⟩)]
abbrev A4e:List PK:= [.ptr A8m,.val false (.int .i64) false]
abbrev A4f:List RK:= [.val false (.int .i64)]
def A4g(f:U2):Nat×Fn:=(285,⟨A4e,A4f,fun x=>f x.1 x.2.1⟩)
def B45:Fn:=(A4g D7).2
theorem B46(f_i_GetBig:B23):∀ x,(B9 cfg [C8Q f_i_GetBig] B44 40 [.tmp 4] (Tryz.f285.body.getD .skip) A4e A4f).fn x=P3 f_i_GetBig x.1 x.2.1:=by intro x;kernel_rfl
theorem B47:B1 Tryz.prog 285 B45:=sm MO A7 (tc Tryz.call307 E0z A5) Tryz.func285 (by kernel_rfl) (by decide) (B46 A7c)
abbrev A2M:List PK:= [.val false (.rs 5 (.int .u8)) false]
abbrev A2N:List RK:= [.val false (.sl 5 (.int .u8))]
def I5(f:C9):Nat×Fn:=(191,⟨A2M,A2N,fun x=>f x.1⟩)
def B0T:Fn:=(I5 C7).2
theorem B0U:∀ x,(B9 cfg [] (B3 []) 8 [.tmp 2] (Tryz.f191.body.getD .skip) A2M A2N).fn x=W9 x.1:=by intro x;kernel_rfl
theorem L9:B1 Tryz.prog 191 B0T:=sm MO A7 A5 Tryz.func191 (by kernel_rfl) (by decide) (B0U)
def B6v:Nat→Option Jn:=B3 [(3,⟨[],lt 5 18 [],false⟩)]
abbrev A6t:List PK:= [.ptr A8m,.val false (.int .i64) false]
abbrev A6u:List RK:= [.val false (.sl 5 (.int .u8))]
def A6v(f:X6):Nat×Fn:=(286,⟨A6t,A6u,fun x=>f x.1 x.2.1⟩)
def B6w:Fn:=(A6v G9).2
theorem B6x(f_slices_Clone_byte_byte:C9):∀ x,(B9 cfg [I5 f_slices_Clone_byte_byte] B6v 50 [.tmp 4] (Tryz.f286.body.getD .skip) A6t A6u).fn x=R3 f_slices_Clone_byte_byte x.1 x.2.1:=by intro x;kernel_rfl
theorem B6y:B1 Tryz.prog 286 B6w:=sm MO A7 (tc Tryz.call191 L9 A5) Tryz.func286 (by kernel_rfl) (by decide) (B6x C7)
def E71:Nat→Option Jn:=B3 [(3,⟨[],lt 3 30 [],false⟩),(26,⟨[.t 3 false [.int .i64]],lt 4 29 [],false⟩)]
abbrev D7O:List PK:= [.val false .str false]
abbrev D7P:List RK:= [.val false .bool]
def A6Q(f:R4):Nat×Fn:=(147,⟨D7O,D7P,fun x=>f x.1⟩)
def E72:Fn:=(A6Q Q1).2
theorem E73(f_i_inRange:C2):∀ x,(B9 cfg [G8 f_i_inRange] E71 36 [.tmp 2] (Tryz.f147.body.getD .skip) D7O D7P).fn x=C7L f_i_inRange x.1:=by intro x;kernel_rfl
theorem A8M:B1 Tryz.prog 147 E72:=sm MO A7 (tc Tryz.call80 H8 A5) Tryz.func147 (by kernel_rfl) (by decide) (E73 C5)
def E4Y:Nat→Option Jn:=B3 [(3,⟨[],lt 3 22 [],false⟩)]
abbrev D3F:List PK:= [.val true (.pair (.int .i64) (.pair (.int .i64) (.pair (.int .i64) (.pair .str (.pair (.int .i64) (.rs 5 (.int .u8))))))) false]
abbrev D3G:List RK:= [.val false .bool]
def C2h(f:A7N):Nat×Fn:=(287,⟨D3F,D3G,fun x=>f x.1⟩)
def E4Z:Fn:=(C2h A4n).2
theorem E4a(f_i_inRange:C2)(f_i_idOk:R4)(f_i_isEpoch:A3D):∀ x,(B9 cfg [G8 f_i_inRange,A6Q f_i_idOk,B5S f_i_isEpoch] E4Y 58 [.tmp 2] (Tryz.f287.body.getD .skip) D3F D3G).fn x=C2A f_i_inRange f_i_idOk f_i_isEpoch x.1:=by intro x;kernel_rfl
theorem D3H:B1 Tryz.prog 287 E4Z:=sm MO A7 (tc Tryz.call80 H8 (tc Tryz.call147 A8M (tc Tryz.call168 C3s A5))) Tryz.func287 (by kernel_rfl) (by decide) (E4a C5 Q1 A0y)
def E8V:Nat→Option Jn:=B3 [(7,⟨[.t 3 false [.int .u32]],lt 5 24 [],true⟩),(58,⟨[.t 3 false [.int .u32],.t 9 false [.int .i64]],lt 10 19 [.t 5,.t 6],false⟩),(29902,⟨[.t 3 false [.int .u32],.t 17 false [.int .i64]],lt 18 10 [.t 6],false⟩)]
abbrev E3F:List PK:= [.val false (.rs 5 (.int .u8)) false]
abbrev E3G:List RK:= [.val false (.int .i64)]
def C6f(f:A8o):Nat×Fn:=(280,⟨E3F,E3G,fun x=>f x.1⟩)
def E8W:Fn:=(C6f A6z).2
theorem E8X:∀ x,(B9 cfg [] E8V 32 [.tmp 2] (Tryz.f280.body.getD .skip) E3F E3G).fn x=D4B x.1:=by intro x;kernel_rfl
theorem D4j:B1 Tryz.prog 280 E8W:=sm MO A7 A5 Tryz.func280 (by kernel_rfl) (by decide) (E8X)
def E10:Nat→Option Jn:=B3 [(58,⟨[.t 0 false [.own 100000000],.t 7 false [.int .i64],.r 100000000 5 (.int .u8)],lt 12 13 [.r 23,.r 24,.r 1000],false⟩)]
abbrev C8R:List PK:= [.val false (.sl 5 (.int .u8)) false,.val false (.int .i64) false,.val false (.int .i64) false]
abbrev C8S:List RK:= [.val false (.sl 5 (.int .u8))]
def C8T(f:B26):Nat×Fn:=(308,⟨C8R,C8S,fun x=>f x.1 x.2.1 x.2.2.1⟩)
def E11:Fn:=(C8T A7d).2
theorem E12:∀ x,(B9 cfg [] E10 26 [.tmp 6] (Tryz.f308.body.getD .skip) C8R C8S).fn x=B92 x.1 x.2.1 x.2.2.1:=by intro x;kernel_rfl
theorem E13:B1 Tryz.prog 308 E11:=sm MO A7 A5 Tryz.func308 (by kernel_rfl) (by decide) (E12)
abbrev C8U:List PK:= [.val true (.pair (.int .i64) (.pair (.int .i64) (.pair (.int .i64) (.pair .str (.pair (.int .i64) (.rs 5 (.int .u8))))))) false]
abbrev C8V:List RK:= [.val false .str]
def B9e(f:A4o):Nat×Fn:=(288,⟨C8U,C8V,fun x=>f x.1⟩)
def E14:Fn:=(B9e A30).2
theorem E15(f_i_Crc:A8o)(f_i_RecOk:A7N)(f_i_putBig:B26):∀ x,(B9 cfg [C6f f_i_Crc,C2h f_i_RecOk,C8T f_i_putBig] (B3 []) 45 [.tmp 2] (Tryz.f288.body.getD .skip) C8U C8V).fn x=B93 f_i_Crc f_i_RecOk f_i_putBig x.1:=by intro x;kernel_rfl
theorem C8W:B1 Tryz.prog 288 E14:=sm MO A7 (tc Tryz.call280 D4j (tc Tryz.call287 D3H (tc Tryz.call308 E13 A5))) Tryz.func288 (by kernel_rfl) (by decide) (E15 A6z A4n A7d)
abbrev C8X:List PK:= [.val false .str false]
abbrev C8Y:List RK:= [.val true A6y,.val false .bool]
def B9f(f:A11):Nat×Fn:=(238,⟨C8X,C8Y,fun x=>f x.1⟩)
def E16:Fn:=(B9f Z9).2
theorem E17(f_i_byteReader_number:U2)(f_i_byteReader_take:X6)(f_i_RecOk:A7N)(f_i_PutRec:A4o):∀ x,(B9 cfg [A4g f_i_byteReader_number,A6v f_i_byteReader_take,C2h f_i_RecOk,B9e f_i_PutRec] (B3 []) 42 [.cell 2 194,.tmp 3] (Tryz.f238.body.getD .skip) C8X C8Y).fn x=B94 f_i_byteReader_number f_i_byteReader_take f_i_RecOk f_i_PutRec x.1:=by intro x;kernel_rfl
theorem C8Z:B1 Tryz.prog 238 E16:=sm MO A7 (tc Tryz.call285 B47 (tc Tryz.call286 B6y (tc Tryz.call287 D3H (tc Tryz.call288 C8W A5)))) Tryz.func238 (by kernel_rfl) (by decide) (E17 D7 G9 A4n A30)
def D4k:Nat→Option Jn:=B3 [(122,⟨[.t 3 false [.own 100000000],.t 4 false [.int .i64],.t 12 false [.int .i64],.r 100000000 194 A6y],lt 13 30 (lt 5 4 [.b 7,.r 38,.r 39,.r 81925]),false⟩)]
abbrev C0c:List PK:= [.val true (.pair (.rs 9 .str) (.rs 9 .str)) false]
abbrev C0d:List RK:= [.val false (.sl 194 A6y)]
def B32(f:A1a):Nat×Fn:=(170,⟨C0c,C0d,fun x=>f x.1⟩)
def D4l:Fn:=(B32 A00).2
theorem D4m(f_i_GetRec:A11):∀ x,(B9 cfg [B9f f_i_GetRec] D4k 44 [.tmp 2] (Tryz.f170.body.getD .skip) C0c C0d).fn x=B27 f_i_GetRec x.1:=by intro x;kernel_rfl
theorem C0e:B1 Tryz.prog 170 D4l:=sm MO A7 (tc Tryz.call238 C8Z A5) Tryz.func170 (by kernel_rfl) (by decide) (D4m Z9)
def E74:Nat→Option Jn:=B3 [(7,⟨[.t 6 false [.int .i64]],lt 7 15 [],true⟩),(28,⟨[.t 6 false [.int .i64]],lt 7 15 [],false⟩)]
abbrev D7Q:List PK:= [.val false (.rs 109 kUp) false,.val false .str false]
abbrev D7R:List RK:= [.val false (.int .i64),.val false .bool]
def D7S(f:C0B):Nat×Fn:=(289,⟨D7Q,D7R,fun x=>f x.1 x.2.1⟩)
def E75:Fn:=(D7S A12).2
theorem E76:∀ x,(B9 cfg [] E74 36 [.tmp 4,.tmp 5] (Tryz.f289.body.getD .skip) D7Q D7R).fn x=C0C x.1 x.2.1:=by intro x;kernel_rfl
theorem D7T:B1 Tryz.prog 289 E75:=sm MO A7 A5 Tryz.func289 (by kernel_rfl) (by decide) (E76)
def E77:Nat→Option Jn:=B3 [(58,⟨[],lt 19 6 [],false⟩),(2026,⟨[],lt 43 30 [],false⟩)]
abbrev D7U:List PK:= [.val false (.sl 109 kUp) false,.val true (.pair (.int .i64) (.pair (.int .i64) (.pair (.int .i64) (.pair .str (.pair (.int .i64) (.rs 5 (.int .u8))))))) false]
abbrev D7V:List RK:= [.val false (.sl 109 kUp),.val false .bool]
def C8a(f:A7f):Nat×Fn:=(239,⟨D7U,D7V,fun x=>f x.1 x.2.1⟩)
def E78:Fn:=(C8a A5z).2
theorem E79(f_i_upAt:C0B)(f_slices_Insert_impl_Up_impl_Up:J4)(f_slices_Delete_impl_Up_impl_Up:J6):∀ x,(B9 cfg [D7S f_i_upAt,X2 f_slices_Insert_impl_Up_impl_Up,X3 f_slices_Delete_impl_Up_impl_Up] E77 113 [.tmp 4,.tmp 5] (Tryz.f239.body.getD .skip) D7U D7V).fn x=C7M f_i_upAt f_slices_Insert_impl_Up_impl_Up f_slices_Delete_impl_Up_impl_Up x.1 x.2.1:=by intro x;kernel_rfl
theorem D7W:B1 Tryz.prog 239 E78:=sm MO A7 (tc Tryz.call289 D7T (tc Tryz.call290 A4U (tc Tryz.call291 A4Y A5))) Tryz.func239 (by kernel_rfl) (by decide) (E79 A12 J5 J7)
def D4n:Nat→Option Jn:=B3 [(7,⟨[.t 4 false [.own 100000000],.r 100000000 109 kUp],lt 6 19 [.b 6,.r 77824],false⟩),(58,⟨[.t 4 false [.own 100000000],.t 11 false [.int .i64],.r 100000000 109 kUp],lt 12 13 (lt 6 3 [.b 6,.r 77824]),false⟩)]
abbrev C0f:List PK:= [.val false (.rs 194 A6y) false]
abbrev C0g:List RK:= [.val false (.sl 109 kUp),.val false .bool]
def B33(f:A1b):Nat×Fn:=(171,⟨C0f,C0g,fun x=>f x.1⟩)
def D4o:Fn:=(B33 A01).2
theorem D4p(f_i_fold:A7f):∀ x,(B9 cfg [C8a f_i_fold] D4n 26 [.tmp 2,.tmp 3] (Tryz.f171.body.getD .skip) C0f C0g).fn x=B28 f_i_fold x.1:=by intro x;kernel_rfl
theorem C0h:B1 Tryz.prog 171 D4o:=sm MO A7 (tc Tryz.call239 D7W A5) Tryz.func171 (by kernel_rfl) (by decide) (D4p A5z)
def D7X:Nat→Option Jn:=B3 [(58,⟨[.t 3 false [.int .i64],.t 10 false [.int .i64]],lt 11 14 (lt 5 3 [.b 6,.r 69637]),false⟩)]
abbrev C3t:List PK:= [.val false (.rs 9 .str) false]
abbrev C3u:List RK:= [.val false (.int .i64)]
def B5T(f:A3E):Nat×Fn:=(174,⟨C3t,C3u,fun x=>f x.1⟩)
def D7Y:Fn:=(B5T A13).2
theorem D7Z(f_i_GetRec:A11):∀ x,(B9 cfg [B9f f_i_GetRec] D7X 26 [.tmp 2] (Tryz.f174.body.getD .skip) C3t C3u).fn x=B4T f_i_GetRec x.1:=by intro x;kernel_rfl
theorem C3v:B1 Tryz.prog 174 D7Y:=sm MO A7 (tc Tryz.call238 C8Z A5) Tryz.func174 (by kernel_rfl) (by decide) (D7Z Z9)
abbrev B7N:List PK:= [.val false (.rs 5 (.int .u8)) false,.val false (.rs 5 (.int .u8)) false]
abbrev B7O:List RK:= [.val false .bool]
def B7P(f:A5G):Nat×Fn:=(77,⟨B7N,B7O,fun x=>f x.1 x.2.1⟩)
def D0r:Fn:=(B7P A5H).2
theorem D0s:∀ x,(B9 cfg [] (B3 []) 10 [.tmp 4] (Tryz.f77.body.getD .skip) B7N B7O).fn x=A9x x.1 x.2.1:=by intro x;kernel_rfl
theorem D0t:B1 Tryz.prog 77 D0r:=sm MO A7 A5 Tryz.func77 (by kernel_rfl) (by decide) (D0s)
abbrev C8b:List PK:= [.val true (.pair .str (.pair (.int .i64) (.pair (.rs 5 (.int .u8)) .bool))) false,.val true (.pair .str (.pair (.int .i64) (.pair (.rs 5 (.int .u8)) .bool))) false]
abbrev C8c:List RK:= [.val false .bool]
def C8d(f:A7g):Nat×Fn:=(173,⟨C8b,C8c,fun x=>f x.1 x.2.1⟩)
def E18:Fn:=(C8d A7h).2
theorem E19(f_bytes_Equal:A5G):∀ x,(B9 cfg [B7P f_bytes_Equal] (B3 []) 31 [.tmp 4] (Tryz.f173.body.getD .skip) C8b C8c).fn x=B95 f_bytes_Equal x.1 x.2.1:=by intro x;kernel_rfl
theorem E1A:B1 Tryz.prog 173 E18:=sm MO A7 (tc Tryz.call77 D0t A5) Tryz.func173 (by kernel_rfl) (by decide) (E19 A5H)
def O9:Nat→Option Jn:=B3 [(58,⟨[.t 17 false [.int .i64]],lt 18 14 (lt 7 3 [.b 8,.b 9]),false⟩)]
abbrev G5:List PK:= [.val false (.rs 109 kUp) false,.val false (.rs 109 kUp) false,.val false (.fnc 173) false]
abbrev G6:List RK:= [.val false .bool]
def G7(f:D4):Nat×Fn:=(172,⟨G5,G6,fun x=>f x.1 x.2.1 x.2.2.1⟩)
def P0:Fn:=(G7 C4).2
theorem P1(f_i_sameUp:A7g):∀ x,(B9 cfg [C8d f_i_sameUp] O9 32 [.tmp 6] (Tryz.f172.body.getD .skip) G5 G6).fn x=E6 f_i_sameUp x.1 x.2.1 x.2.2.1:=by intro x;kernel_rfl
theorem P2:B1 Tryz.prog 172 P0:=sm MO A7 (tc Tryz.call173 E1A A5) Tryz.func172 (by kernel_rfl) (by decide) (P1 A7h)
def D7a:Nat→Option Jn:=B3 [(3,⟨[],lt 6 10 [],false⟩),(31,⟨[],lt 24 16 [],false⟩),(63,⟨[],lt 40 15 [.x 50],false⟩)]
abbrev C3w:List PK:= [.val true (.pair (.pair (.rs 9 .str) (.rs 9 .str)) (.pair (.int .i64) (.pair (.int .i64) (.rs 109 kUp)))) false]
abbrev C3x:List RK:= [.val false .bool]
def C3y(f:A8p):Nat×Fn:=(94,⟨C3w,C3x,fun x=>f x.1⟩)
def D7b:Fn:=(C3y A14).2
theorem D7c(f_i_isEpoch:A3D)(f_i_DiskOk:A0z)(f_i_ScanRecs:A1a)(f_i_FoldRecs:A1b)(f_slices_EqualFunc_impl_Up_impl_Up_impl_Up_impl_Up_r1002_173:D4)(f_i_topFrom:A3E):∀ x,(B9 cfg [B5S f_i_isEpoch,B31 f_i_DiskOk,B32 f_i_ScanRecs,B33 f_i_FoldRecs,G7 f_slices_EqualFunc_impl_Up_impl_Up_impl_Up_impl_Up_r1002_173,B5T f_i_topFrom] D7a 65 [.tmp 2] (Tryz.f94.body.getD .skip) C3w C3x).fn x=B4U f_i_isEpoch f_i_DiskOk f_i_ScanRecs f_i_FoldRecs f_slices_EqualFunc_impl_Up_impl_Up_impl_Up_impl_Up_r1002_173 f_i_topFrom x.1:=by intro x;kernel_rfl
theorem D7d:B1 Tryz.prog 94 D7b:=sm MO A7 (tc Tryz.call168 C3s (tc Tryz.call169 B9d (tc Tryz.call170 C0e (tc Tryz.call171 C0h (tc Tryz.call172 P2 (tc Tryz.call174 C3v A5)))))) Tryz.func94 (by kernel_rfl) (by decide) (D7c A0y A10 A00 A01 C4 A13)
def D4q:Nat→Option Jn:=B3 [(3,⟨[],lt 4 13 [.b 4],false⟩),(26,⟨[.t 8 false [.int .i64]],lt 9 8 [.b 4,.t 4],false⟩)]
abbrev C0i:List PK:= [.val true (.pair (.pair (.pair (.rs 9 .str) (.rs 9 .str)) (.pair (.int .i64) (.pair (.int .i64) (.rs 109 kUp)))) (.rs 130 A9)) false]
abbrev C0j:List RK:= [.val false .bool]
def C0k(f:A70):Nat×Fn:=(28,⟨C0i,C0j,fun x=>f x.1⟩)
def D4r:Fn:=(C0k A3k).2
theorem D4s(f_i_RespOk:W8)(f_i_StoreOk:A8p):∀ x,(B9 cfg [B30 f_i_RespOk,C3y f_i_StoreOk] D4q 26 [.tmp 2] (Tryz.f28.body.getD .skip) C0i C0j).fn x=B29 f_i_RespOk f_i_StoreOk x.1:=by intro x;kernel_rfl
theorem D4t:B1 Tryz.prog 28 D4r:=sm MO A7 (tc Tryz.call93 B9c (tc Tryz.call94 D7d A5)) Tryz.func28 (by kernel_rfl) (by decide) (D4s T3 A14)
abbrev C0l:List PK:= [.val true (.pair .str (.pair (.rs 5 (.int .u8)) E8)) false]
abbrev C0m:List RK:= [.val false .bool]
def A4J(f:N5):Nat×Fn:=(145,⟨C0l,C0m,fun x=>f x.1⟩)
def D4u:Fn:=(A4J K5).2
theorem D4v(f_i_inRange:C2)(f_i_idOk:R4):∀ x,(B9 cfg [G8 f_i_inRange,A6Q f_i_idOk] (B3 []) 25 [.tmp 2] (Tryz.f145.body.getD .skip) C0l C0m).fn x=B2A f_i_inRange f_i_idOk x.1:=by intro x;kernel_rfl
theorem A7J:B1 Tryz.prog 145 D4u:=sm MO A7 (tc Tryz.call80 H8 (tc Tryz.call147 A8M A5)) Tryz.func145 (by kernel_rfl) (by decide) (D4v C5 Q1)
def D0u:Nat→Option Jn:=B3 [(3,⟨[],lt 6 28 [.b 4,.b 6,.t 3,.t 4],false⟩),(26,⟨[.t 10 false [.int .i64]],lt 11 23 [.b 4,.b 6,.t 3,.t 4,.t 6],false⟩),(13518,⟨[.t 23 false [.int .i64]],lt 24 9 [.b 6,.t 6],false⟩)]
abbrev B7Q:List PK:= [.val true (.pair (.pair (.pair (.pair (.rs 9 .str) (.rs 9 .str)) (.pair (.int .i64) (.pair (.int .i64) (.rs 109 kUp)))) (.rs 130 A9)) (.pair (.rs 79 B2) (.pair (.rs 4 .bool) (.pair (.rs 113 B8) (.pair (.rs 130 A9) (.rs 3 (.int .i64))))))) false]
abbrev B7R:List RK:= [.val false .bool]
def B7S(f:A5I):Nat×Fn:=(78,⟨B7Q,B7R,fun x=>f x.1⟩)
def D0v:Fn:=(B7S A1s).2
theorem D0w(f_i_ClientOk:N5):∀ x,(B9 cfg [A4J f_i_ClientOk] D0u 56 [.tmp 2] (Tryz.f78.body.getD .skip) B7Q B7R).fn x=A9y f_i_ClientOk x.1:=by intro x;kernel_rfl
theorem D0x:B1 Tryz.prog 78 D0v:=sm MO A7 (tc Tryz.call145 A7J A5) Tryz.func78 (by kernel_rfl) (by decide) (D0w K5)
abbrev B3K:List PK:= [.val false (.int .i64) false]
abbrev B3L:List RK:= [.val false .str,.val false (.int .i64)]
def B3M(f:A2V):Nat×Fn:=(146,⟨B3K,B3L,fun x=>f x.1⟩)
def C5Z:Fn:=(B3M A2W).2
theorem C5a:∀ x,(B9 cfg [] (B3 []) 11 [.tmp 2,.tmp 3] (Tryz.f146.body.getD .skip) B3K B3L).fn x=A6W x.1:=by intro x;kernel_rfl
theorem C5b:B1 Tryz.prog 146 C5Z:=sm MO A7 A5 Tryz.func146 (by kernel_rfl) (by decide) (C5a)
abbrev D3I:List PK:= [.val true N3 false]
abbrev D3J:List RK:= [.val false .bool]
def C2i(f:A4p):Nat×Fn:=(79,⟨D3I,D3J,fun x=>f x.1⟩)
def E4b:Fn:=(C2i A3F).2
theorem E4c(f_i_inRange:C2)(f_i_numberField:A2V)(f_i_idOk:R4):∀ x,(B9 cfg [G8 f_i_inRange,B3M f_i_numberField,A6Q f_i_idOk] (B3 []) 25 [.tmp 2] (Tryz.f79.body.getD .skip) D3I D3J).fn x=C2B f_i_inRange f_i_numberField f_i_idOk x.1:=by intro x;kernel_rfl
theorem D3K:B1 Tryz.prog 79 E4b:=sm MO A7 (tc Tryz.call80 H8 (tc Tryz.call146 C5b (tc Tryz.call147 A8M A5))) Tryz.func79 (by kernel_rfl) (by decide) (E4c C5 A2W Q1)
def E1B:Nat→Option Jn:=B3 [(26,⟨[.t 9 false [.int .i64]],lt 10 18 [.b 6,.t 6],false⟩)]
abbrev C8e:List PK:= [.val true (.pair (.pair (.pair (.pair (.rs 9 .str) (.rs 9 .str)) (.pair (.int .i64) (.pair (.int .i64) (.rs 109 kUp)))) (.rs 130 A9)) (.pair (.rs 79 B2) (.pair (.rs 4 .bool) (.pair (.rs 113 B8) (.pair (.rs 130 A9) (.rs 3 (.int .i64))))))) false,.val false (.rs 130 A9) false]
abbrev C8f:List RK:= [.val false .bool]
def C8g(f:B2C):Nat×Fn:=(81,⟨C8e,C8f,fun x=>f x.1 x.2.1⟩)
def E1C:Fn:=(C8g A7i).2
theorem E1D(f_i_inRange:C2)(f_i_RespOk:W8):∀ x,(B9 cfg [G8 f_i_inRange,B30 f_i_RespOk] E1B 28 [.tmp 4] (Tryz.f81.body.getD .skip) C8e C8f).fn x=B96 f_i_inRange f_i_RespOk x.1 x.2.1:=by intro x;kernel_rfl
theorem E1E:B1 Tryz.prog 81 E1C:=sm MO A7 (tc Tryz.call80 H8 (tc Tryz.call93 B9c A5)) Tryz.func81 (by kernel_rfl) (by decide) (E1D C5 T3)
def D7e:Nat→Option Jn:=B3 [(3,⟨[],lt 5 15 [],false⟩),(7,⟨[],lt 20 22 [.b 4,.t 4],false⟩),(58,⟨[.t 23 false [.int .i64]],lt 24 18 [.b 4,.t 4],false⟩)]
abbrev C3z:List PK:= [.val true (.pair (.pair (.pair (.pair (.rs 9 .str) (.rs 9 .str)) (.pair (.int .i64) (.pair (.int .i64) (.rs 109 kUp)))) (.rs 130 A9)) (.pair (.rs 79 B2) (.pair (.rs 4 .bool) (.pair (.rs 113 B8) (.pair (.rs 130 A9) (.rs 3 (.int .i64))))))) false]
abbrev C40:List RK:= [.val false .bool]
def C41(f:A8q):Nat×Fn:=(23,⟨C3z,C40,fun x=>f x.1⟩)
def D7f:Fn:=(C41 A3G).2
theorem D7g(f_i_ServerOk:A70)(f_i_clientsOk:A5I)(f_i_ReqOk:A4p)(f_i_inRange:C2)(f_i_heldOk:B2C):∀ x,(B9 cfg [C0k f_i_ServerOk,B7S f_i_clientsOk,C2i f_i_ReqOk,G8 f_i_inRange,C8g f_i_heldOk] D7e 58 [.tmp 2] (Tryz.f23.body.getD .skip) C3z C40).fn x=B4W f_i_ServerOk f_i_clientsOk f_i_ReqOk f_i_inRange f_i_heldOk x.1:=by intro x;kernel_rfl
theorem D7h:B1 Tryz.prog 23 D7f:=sm MO A7 (tc Tryz.call28 D4t (tc Tryz.call78 D0x (tc Tryz.call79 D3K (tc Tryz.call80 H8 (tc Tryz.call81 E1E A5))))) Tryz.func23 (by kernel_rfl) (by decide) (D7g A3k A1s A3F C5 A7i)
abbrev C8h:List PK:= [.val true (.pair .str (.pair (.int .i64) (.pair (.rs 5 (.int .u8)) .bool))) false]
abbrev C8i:List RK:= [.val true kUp]
def C8j(f:A7j):Nat×Fn:=(144,⟨C8h,C8i,fun x=>f x.1⟩)
def E1F:Fn:=(C8j A4q).2
theorem E1G(f_slices_Clone_byte_byte:C9):∀ x,(B9 cfg [I5 f_slices_Clone_byte_byte] (B3 []) 8 [.cell 2 109] (Tryz.f144.body.getD .skip) C8h C8i).fn x=B97 f_slices_Clone_byte_byte x.1:=by intro x;kernel_rfl
theorem E1H:B1 Tryz.prog 144 E1F:=sm MO A7 (tc Tryz.call191 L9 A5) Tryz.func144 (by kernel_rfl) (by decide) (E1G C7)
abbrev A0Q:List PK:= [.val false (.rs 9 .str) false]
abbrev A0R:List RK:= [.val false (.sl 9 .str)]
def R2(f:G3):Nat×Fn:=(275,⟨A0Q,A0R,fun x=>f x.1⟩)
def A6p:Fn:=(R2 F7).2
theorem A6q:∀ x,(B9 cfg [] (B3 []) 8 [.tmp 2] (Tryz.f275.body.getD .skip) A0Q A0R).fn x=R1 x.1:=by intro x;kernel_rfl
theorem A0S:B1 Tryz.prog 275 A6p:=sm MO A7 A5 Tryz.func275 (by kernel_rfl) (by decide) (A6q)
abbrev C0n:List PK:= [.val true (.pair (.rs 9 .str) (.rs 9 .str)) false]
abbrev C0o:List RK:= [.val true A0x]
def A7K(f:V4):Nat×Fn:=(221,⟨C0n,C0o,fun x=>f x.1⟩)
def D4w:Fn:=(A7K R6).2
theorem D4x(f_slices_Clone_string_string:G3):∀ x,(B9 cfg [R2 f_slices_Clone_string_string] (B3 []) 10 [.cell 2 26] (Tryz.f221.body.getD .skip) C0n C0o).fn x=B2D f_slices_Clone_string_string x.1:=by intro x;kernel_rfl
theorem B34:B1 Tryz.prog 221 D4w:=sm MO A7 (tc Tryz.call275 A0S A5) Tryz.func221 (by kernel_rfl) (by decide) (D4x F7)
def D0y:Nat→Option Jn:=B3 [(58,⟨[.t 17 false [.int .i64],.b 3 [.own 36864,.own 36865,.int .i64,.int .i64,.own 100000000],.r 36864 9 .str,.r 36865 9 .str,.r 100000000 109 kUp],lt 18 11 [.b 5,.r 25,.r 26,.r 102402,.t 5],false⟩)]
abbrev B7T:List PK:= [.val true (.pair (.pair (.rs 9 .str) (.rs 9 .str)) (.pair (.int .i64) (.pair (.int .i64) (.rs 109 kUp)))) false]
abbrev B7U:List RK:= [.val true A3g]
def B7V(f:A5K):Nat×Fn:=(154,⟨B7T,B7U,fun x=>f x.1⟩)
def D0z:Fn:=(B7V A1t).2
theorem D10(f_i_copyUp:A7j)(f_i_copyDisk:V4):∀ x,(B9 cfg [C8j f_i_copyUp,A7K f_i_copyDisk] D0y 30 [.cell 2 29] (Tryz.f154.body.getD .skip) B7T B7U).fn x=A9z f_i_copyUp f_i_copyDisk x.1:=by intro x;kernel_rfl
theorem D11:B1 Tryz.prog 154 D0z:=sm MO A7 (tc Tryz.call144 E1H (tc Tryz.call221 B34 A5)) Tryz.func154 (by kernel_rfl) (by decide) (D10 A4q R6)
abbrev T8:List PK:= [.val false (.rs 130 A9) false]
abbrev T9:List RK:= [.val false (.sl 130 A9)]
def M4(f:F4):Nat×Fn:=(155,⟨T8,T9,fun x=>f x.1⟩)
def A37:Fn:=(M4 D9).2
theorem A38:∀ x,(B9 cfg [] (B3 []) 8 [.tmp 2] (Tryz.f155.body.getD .skip) T8 T9).fn x=M3 x.1:=by intro x;kernel_rfl
theorem U0:B1 Tryz.prog 155 A37:=sm MO A7 A5 Tryz.func155 (by kernel_rfl) (by decide) (A38)
abbrev B5U:List PK:= [.val true (.pair (.pair (.pair (.rs 9 .str) (.rs 9 .str)) (.pair (.int .i64) (.pair (.int .i64) (.rs 109 kUp)))) (.rs 130 A9)) false]
abbrev B5V:List RK:= [.val true A1Z]
def B5W(f:A3l):Nat×Fn:=(87,⟨B5U,B5V,fun x=>f x.1⟩)
def C8k:Fn:=(B5W A15).2
theorem C8l(f_i_copyStore:A5K)(f_slices_Clone_impl_Held_impl_Held:F4):∀ x,(B9 cfg [B7V f_i_copyStore,M4 f_slices_Clone_impl_Held_impl_Held] (B3 []) 10 [.cell 2 32] (Tryz.f87.body.getD .skip) B5U B5V).fn x=A7k f_i_copyStore f_slices_Clone_impl_Held_impl_Held x.1:=by intro x;kernel_rfl
theorem C8m:B1 Tryz.prog 87 C8k:=sm MO A7 (tc Tryz.call154 D11 (tc Tryz.call155 U0 A5)) Tryz.func87 (by kernel_rfl) (by decide) (C8l A1t D9)
abbrev A2O:List PK:= [.val false (.rs 4 .bool) false]
abbrev A2P:List RK:= [.val false (.sl 4 .bool)]
def A2Q(f:P8):Nat×Fn:=(188,⟨A2O,A2P,fun x=>f x.1⟩)
def B0V:Fn:=(A2Q L3).2
theorem B0W:∀ x,(B9 cfg [] (B3 []) 8 [.tmp 2] (Tryz.f188.body.getD .skip) A2O A2P).fn x=X0 x.1:=by intro x;kernel_rfl
theorem B0X:B1 Tryz.prog 188 B0V:=sm MO A7 A5 Tryz.func188 (by kernel_rfl) (by decide) (B0W)
abbrev A4K:List PK:= [.val false (.rs 3 (.int .i64)) false]
abbrev A4L:List RK:= [.val false (.sl 3 (.int .i64))]
def A4M(f:R7):Nat×Fn:=(189,⟨A4K,A4L,fun x=>f x.1⟩)
def B35:Fn:=(A4M N6).2
theorem B36:∀ x,(B9 cfg [] (B3 []) 8 [.tmp 2] (Tryz.f189.body.getD .skip) A4K A4L).fn x=A02 x.1:=by intro x;kernel_rfl
theorem B37:B1 Tryz.prog 189 B35:=sm MO A7 A5 Tryz.func189 (by kernel_rfl) (by decide) (B36)
abbrev B5X:List PK:= [.val true (.pair .str (.pair (.rs 5 (.int .u8)) E8)) false]
abbrev B5Y:List RK:= [.val true B2]
def A4N(f:N7):Nat×Fn:=(190,⟨B5X,B5Y,fun x=>f x.1⟩)
def C8n:Fn:=(A4N K0).2
theorem C8o(f_slices_Clone_byte_byte:C9):∀ x,(B9 cfg [I5 f_slices_Clone_byte_byte] (B3 []) 8 [.cell 2 79] (Tryz.f190.body.getD .skip) B5X B5Y).fn x=A7l f_slices_Clone_byte_byte x.1:=by intro x;kernel_rfl
theorem A8N:B1 Tryz.prog 190 C8n:=sm MO A7 (tc Tryz.call191 L9 A5) Tryz.func190 (by kernel_rfl) (by decide) (C8o C7)
def D12:Nat→Option Jn:=B3 [(7,⟨[.b 3 [.own 45056,.own 45057,.int .i64,.int .i64,.own 45060,.own 45061,.own 100000000,.own 57344,.nil,.own 69632,.own 81920],.r 45056 9 .str,.r 45057 9 .str,.r 45060 109 kUp,.r 45061 130 A9,.r 57344 4 .bool,.r 69632 130 A9,.r 81920 3 (.int .i64),.r 100000000 79 B2],lt 21 15 [.b 5,.r 32,.r 33,.r 131073,.t 5],true⟩),(58,⟨[.t 24 false [.int .i64],.b 3 [.own 45056,.own 45057,.int .i64,.int .i64,.own 45060,.own 45061,.own 100000000,.own 57344,.nil,.own 69632,.own 81920],.r 45056 9 .str,.r 45057 9 .str,.r 45060 109 kUp,.r 45061 130 A9,.r 57344 4 .bool,.r 69632 130 A9,.r 81920 3 (.int .i64),.r 100000000 79 B2],lt 25 11 [.b 5,.r 32,.r 33,.r 131073,.t 5],false⟩),(122,⟨[.t 39 false [.int .i64],.b 3 [.own 45056,.own 45057,.int .i64,.int .i64,.own 45060,.own 45061,.own 100000000,.own 57344,.own 100002001,.own 69632,.own 81920],.r 45056 9 .str,.r 45057 9 .str,.r 45060 109 kUp,.r 45061 130 A9,.r 57344 4 .bool,.r 69632 130 A9,.r 81920 3 (.int .i64),.r 100000000 79 B2,.r 100002001 113 B8],lt 40 14 [.b 7,.r 50,.r 51,.r 188416,.t 7],false⟩)]
abbrev B7W:List PK:= [.val true (.pair (.pair (.pair (.pair (.rs 9 .str) (.rs 9 .str)) (.pair (.int .i64) (.pair (.int .i64) (.rs 109 kUp)))) (.rs 130 A9)) (.pair (.rs 79 B2) (.pair (.rs 4 .bool) (.pair (.rs 113 B8) (.pair (.rs 130 A9) (.rs 3 (.int .i64))))))) false]
abbrev B7X:List RK:= [.val true Z8]
def B7Y(f:A5L):Nat×Fn:=(107,⟨B7W,B7X,fun x=>f x.1⟩)
def D13:Fn:=(B7Y A1u).2
theorem D14(f_i_copyServer:A3l)(f_slices_Clone_impl_Held_impl_Held:F4)(f_slices_Clone_bool_bool:P8)(f_slices_Clone_int_int:R7)(f_i_copyClient:N7)(f_slices_Clone_byte_byte:C9):∀ x,(B9 cfg [B5W f_i_copyServer,M4 f_slices_Clone_impl_Held_impl_Held,A2Q f_slices_Clone_bool_bool,A4M f_slices_Clone_int_int,A4N f_i_copyClient,I5 f_slices_Clone_byte_byte] D12 55 [.cell 2 38] (Tryz.f107.body.getD .skip) B7W B7X).fn x=B00 f_i_copyServer f_slices_Clone_impl_Held_impl_Held f_slices_Clone_bool_bool f_slices_Clone_int_int f_i_copyClient f_slices_Clone_byte_byte x.1:=by intro x;kernel_rfl
theorem D15:B1 Tryz.prog 107 D13:=sm MO A7 (tc Tryz.call87 C8m (tc Tryz.call155 U0 (tc Tryz.call188 B0X (tc Tryz.call189 B37 (tc Tryz.call190 A8N (tc Tryz.call191 L9 A5)))))) Tryz.func107 (by kernel_rfl) (by decide) (D14 A15 D9 L3 N6 K0 C7)
abbrev A4O:List PK:= [.ptr (.pair .str (.pair (.rs 5 (.int .u8)) E8))]
abbrev A4P:List RK:= [.val false .bool]
def S1(f:K8):Nat×Fn:=(295,⟨A4O,A4P,fun x=>f x.1⟩)
def B38:Fn:=(S1 I7).2
theorem B39:∀ x,(B9 cfg [] (B3 []) 15 [.tmp 2] (Tryz.f295.body.getD .skip) A4O A4P).fn x=A3m x.1:=by intro x;kernel_rfl
theorem A0C:B1 Tryz.prog 295 B38:=sm MO A7 A5 Tryz.func295 (by kernel_rfl) (by decide) (B39)
def D7i:Nat→Option Jn:=B3 [(3,⟨[.b 1 [.str,.ro 5 (.int .u8),.int .i64,.int .i64]],lt 6 6 [],false⟩)]
abbrev C42:List PK:= [.val true (.pair .str (.pair (.rs 5 (.int .u8)) E8)) false]
abbrev C43:List RK:= [.val true N3,.val false (.sl 5 (.int .u8)),.val false .bool]
def C44(f:A8r):Nat×Fn:=(259,⟨C42,C43,fun x=>f x.1⟩)
def D7j:Fn:=(C44 A60).2
theorem D7k(f_i_ClientOk:N5)(f_slices_Clone_byte_byte:C9)(f_i_Crc:A8o)(f_i_Client_isOver:K8):∀ x,(B9 cfg [A4J f_i_ClientOk,I5 f_slices_Clone_byte_byte,C6f f_i_Crc,S1 f_i_Client_isOver] D7i 55 [.cell 2 43,.tmp 3,.tmp 4] (Tryz.f259.body.getD .skip) C42 C43).fn x=B4X f_i_ClientOk f_slices_Clone_byte_byte f_i_Crc f_i_Client_isOver x.1:=by intro x;kernel_rfl
theorem D7l:B1 Tryz.prog 259 D7j:=sm MO A7 (tc Tryz.call145 A7J (tc Tryz.call191 L9 (tc Tryz.call280 D4j (tc Tryz.call295 A0C A5)))) Tryz.func259 (by kernel_rfl) (by decide) (D7k K5 C7 A6z I7)
def C8p:Nat→Option Jn:=B3 [(3,⟨[],lt 8 26 [.x 23],false⟩)]
abbrev B5Z:List PK:= [.ptr Z8,.val false (.int .i64) false]
abbrev B5a:List RK:= [.val false .bool]
def B5b(f:A3n):Nat×Fn:=(200,⟨B5Z,B5a,fun x=>f x.1 x.2.1⟩)
def C8q:Fn:=(B5b A16).2
theorem C8r(f_i_inRange:C2)(f_i_NextReq:A8r):∀ x,(B9 cfg [G8 f_i_inRange,C44 f_i_NextReq] C8p 67 [.tmp 4] (Tryz.f200.body.getD .skip) B5Z B5a).fn x=A7m f_i_inRange f_i_NextReq x.1 x.2.1:=by intro x;kernel_rfl
theorem C8s:B1 Tryz.prog 200 C8q:=sm MO A7 (tc Tryz.call80 H8 (tc Tryz.call259 D7l A5)) Tryz.func200 (by kernel_rfl) (by decide) (C8r C5 A60)
abbrev B5c:List PK:= [.ptr A3g]
abbrev B5d:List RK:= [.val false (.int .i64)]
def A1P(f:L4):Nat×Fn:=(277,⟨B5c,B5d,fun x=>f x.1⟩)
def C8t:Fn:=(A1P K1).2
theorem C8u:∀ x,(B9 cfg [] (B3 []) 14 [.tmp 2] (Tryz.f277.body.getD .skip) B5c B5d).fn x=A7n x.1:=by intro x;kernel_rfl
theorem A4Q:B1 Tryz.prog 277 C8t:=sm MO A7 A5 Tryz.func277 (by kernel_rfl) (by decide) (C8u)
abbrev A4h:List PK:= [.ptr A3g,.val false (.int .i64) false,.val false .str false,.val false (.int .i64) false,.val false (.rs 5 (.int .u8)) false]
abbrev A4i:List RK:= []
def P4(f:E9):Nat×Fn:=(278,⟨A4h,A4i,fun x=>f x.1 x.2.1 x.2.2.1 x.2.2.2.1 x.2.2.2.2.1⟩)
def B48:Fn:=(P4 C8).2
theorem B49(f_i_fold:A7f)(f_i_PutRec:A4o):∀ x,(B9 cfg [C8a f_i_fold,B9e f_i_PutRec] (B3 []) 59 [] (Tryz.f278.body.getD .skip) A4h A4i).fn x=A0b f_i_fold f_i_PutRec x.1 x.2.1 x.2.2.1 x.2.2.2.1 x.2.2.2.2.1:=by intro x;kernel_rfl
theorem U3:B1 Tryz.prog 278 B48:=sm MO A7 (tc Tryz.call239 D7W (tc Tryz.call288 C8W A5)) Tryz.func278 (by kernel_rfl) (by decide) (B49 A5z A30)
end
end Go.Proofs.YtpdcljonclhhpaaGreat.Ev
