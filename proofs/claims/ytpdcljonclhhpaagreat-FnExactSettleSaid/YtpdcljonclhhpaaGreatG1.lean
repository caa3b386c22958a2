/- Each function of the program does what its plain function says. -/
import Derived.Test.YtpdcljonclhhpaaGreatTy
import Derived.Test.YtpdcljonclhhpaaGreatPu
import Derived.Test.YtpdcljonclhhpaaGreatIns
import Derived.Test.YtpdcljonclhhpaaGreatDelF
import Derived.Test.YtpdcljonclhhpaaGreatChunk
set_option linter.unusedVariables false
set_option maxRecDepth 100000
namespace Go.Proofs.YtpdcljonclhhpaaGreat.Ev
noncomputable section
abbrev A4W:List PK:= [.val false (.sl 109 kUp) false,.val false (.int .i64) false,.val false (.sl 109 kUp) false]
abbrev A4X:List RK:= [.val false (.sl 109 kUp)]
def X4(f:J4):Nat×Fn:=(290,⟨A4W,A4X,fun x=>f x.1 x.2.1 x.2.2.1⟩)
def A4Y:Fn:=(X4 J5).2
theorem A4Z:B1 Tryz.prog 290 A4Y:=D4e kUp (by decide)
abbrev A4a:List PK:= [.val false (.sl 109 kUp) false,.val false (.int .i64) false,.val false (.int .i64) false]
abbrev A4b:List RK:= [.val false (.sl 109 kUp)]
def X5(f:J6):Nat×Fn:=(291,⟨A4a,A4b,fun x=>f x.1 x.2.1 x.2.2.1⟩)
def A4c:Fn:=(X5 J7).2
theorem A4d:B1 Tryz.prog 291 A4c:=D4c kUp (by decide)
abbrev A2I:List PK:= [.val false (.sl 113 B8) false,.val false (.int .i64) false,.val false (.int .i64) false]
abbrev A2J:List RK:= [.val false (.sl 113 B8)]
def T0(f:H2):Nat×Fn:=(260,⟨A2I,A2J,fun x=>f x.1 x.2.1 x.2.2.1⟩)
def A2K:Fn:=(T0 H3).2
theorem A2L:B1 Tryz.prog 260 A2K:=C0a B8 (by decide)
abbrev A2M:List PK:= [.val false (.sl 130 A9) false,.val false (.int .i64) false,.val false (.int .i64) false]
abbrev A2N:List RK:= [.val false (.sl 130 A9)]
def T1(f:H4):Nat×Fn:=(262,⟨A2M,A2N,fun x=>f x.1 x.2.1 x.2.2.1⟩)
def A2O:Fn:=(T1 H5).2
theorem A2P:B1 Tryz.prog 262 A2O:=C0b A9 (by decide)
abbrev A0p:List PK:= [.val false (.sl 113 B8) false,.ptr (.int .i64)]
abbrev A0q:List RK:= [.val false (.sl 113 B8)]
def P9(f:G1):Nat×Fn:=(267000265,⟨A0p,A0q,fun x=>f x.1 x.2.1⟩)
def A0r:Fn:=(P9 J1).2
theorem A0s:B8x Tryz.prog 265 266 A0r:=B45 (.pair M7 (.sl 5 (.int .u8))) (by decide)
abbrev A0t:List PK:= [.val false (.sl 130 A9) false,.ptr (.int .i64)]
abbrev A0u:List RK:= [.val false (.sl 130 A9)]
def Q0(f:G2):Nat×Fn:=(265000267,⟨A0t,A0u,fun x=>f x.1 x.2.1⟩)
def A0v:Fn:=(Q0 J2).2
theorem A0w:B8x Tryz.prog 267 264 A0v:=B44 E8 (by decide)
abbrev C3r:List PK:= [.val false (.int .i64) false,.val false (.int .i64) false,.val false (.int .i64) false]
abbrev C3s:List RK:= [.val false .bool]
def G8(f:C3):Nat×Fn:=(80,⟨C3r,C3s,fun x=>f x.1 x.2.1 x.2.2.1⟩)
def D7J:Fn:=(G8 C5).2
theorem D7K:∀ x,(B9 cfg [] (B3 []) 15 [.tmp 6] (Tryz.f80.body.getD .skip) C3r C3s).fn x=C3a x.1 x.2.1 x.2.2.1:=by intro x;kernel_rfl
theorem H9:B1 Tryz.prog 80 D7J:=sm MO A7 A5 Tryz.func80 (by kernel_rfl) (by decide) (D7K)
abbrev C8L:List PK:= [.val true E8 false]
abbrev C8M:List RK:= [.val false .bool]
def B35(f:X0):Nat×Fn:=(93,⟨C8L,C8M,fun x=>f x.1⟩)
def E0q:Fn:=(B35 T5).2
theorem E0r(f_i_inRange:C3):∀ x,(B9 cfg [G8 f_i_inRange] (B3 []) 11 [.tmp 2] (Tryz.f93.body.getD .skip) C8L C8M).fn x=B90 f_i_inRange x.1:=by intro x;kernel_rfl
theorem B9c:B1 Tryz.prog 93 E0q:=sm MO A7 (tc Tryz.call80 H9 A5) Tryz.func93 (by kernel_rfl) (by decide) (E0r C5)
abbrev C3t:List PK:= [.val false (.int .i64) false]
abbrev C3u:List RK:= [.val false .bool]
def B5U(f:A3G):Nat×Fn:=(168,⟨C3t,C3u,fun x=>f x.1⟩)
def D7L:Fn:=(B5U A11).2
theorem D7M(f_i_inRange:C3):∀ x,(B9 cfg [G8 f_i_inRange] (B3 []) 5 [.tmp 2] (Tryz.f168.body.getD .skip) C3t C3u).fn x=A8p f_i_inRange x.1:=by intro x;kernel_rfl
theorem C3v:B1 Tryz.prog 168 D7L:=sm MO A7 (tc Tryz.call80 H9 A5) Tryz.func168 (by kernel_rfl) (by decide) (D7M C5)
def E0s:Nat→Option Jn:=B3 [(3,⟨[],lt 4 13 [],false⟩),(58,⟨[.t 20 false [.int .i64]],lt 21 19 [.t 3],false⟩)]
abbrev C8N:List PK:= [.val true (.pair (.rs 9 .str) (.rs 9 .str)) false]
abbrev C8O:List RK:= [.val false .bool]
def B36(f:A12):Nat×Fn:=(169,⟨C8N,C8O,fun x=>f x.1⟩)
def E0t:Fn:=(B36 A13).2
theorem E0u:∀ x,(B9 cfg [] E0s 40 [.tmp 2] (Tryz.f169.body.getD .skip) C8N C8O).fn x=C7M x.1:=by intro x;kernel_rfl
theorem B9d:B1 Tryz.prog 169 E0t:=sm MO A7 A5 Tryz.func169 (by kernel_rfl) (by decide) (E0u)
def E0v:Nat→Option Jn:=B3 [(3,⟨[],lt 11 15 [],false⟩),(15,⟨[.t 8 false [.int .i64]],lt 26 17 [.t 10],true⟩),(122,⟨[.t 8 false [.int .i64],.t 33 false [.int .i64]],lt 34 9 [.t 10],false⟩)]
abbrev C8P:List PK:= [.val false (.rs 5 (.int .u8)) false,.val false (.int .i64) false,.val false (.int .i64) false]
abbrev C8Q:List RK:= [.val false (.int .i64),.val false .bool]
def C8R(f:B27):Nat×Fn:=(307,⟨C8P,C8Q,fun x=>f x.1 x.2.1 x.2.2.1⟩)
def E0w:Fn:=(C8R A7d).2
theorem E0x(f_i_inRange:C3):∀ x,(B9 cfg [G8 f_i_inRange] E0v 44 [.tmp 6,.tmp 7] (Tryz.f307.body.getD .skip) C8P C8Q).fn x=B91 f_i_inRange x.1 x.2.1 x.2.2.1:=by intro x;kernel_rfl
theorem E0y:B1 Tryz.prog 307 E0w:=sm MO A7 (tc Tryz.call80 H9 A5) Tryz.func307 (by kernel_rfl) (by decide) (E0x C5)
def B46:Nat→Option Jn:=B3 [(7,⟨[],lt 20 8 [],false⟩)]
abbrev A4j:List PK:= [.ptr A8o,.val false (.int .i64) false]
abbrev A4k:List RK:= [.val false (.int .i64)]
def A4l(f:U4):Nat×Fn:=(285,⟨A4j,A4k,fun x=>f x.1 x.2.1⟩)
def B47:Fn:=(A4l D7).2
theorem B48(f_i_GetBig:B27):∀ x,(B9 cfg [C8R f_i_GetBig] B46 40 [.tmp 4] (Tryz.f285.body.getD .skip) A4j A4k).fn x=P5 f_i_GetBig x.1 x.2.1:=by intro x;kernel_rfl
theorem B49:B1 Tryz.prog 285 B47:=sm MO A7 (tc Tryz.call307 E0y A5) Tryz.func285 (by kernel_rfl) (by decide) (B48 A7d)
abbrev A2Q:List PK:= [.val false (.rs 5 (.int .u8)) false]
abbrev A2R:List RK:= [.val false (.sl 5 (.int .u8))]
def I5(f:C9):Nat×Fn:=(191,⟨A2Q,A2R,fun x=>f x.1⟩)
def B0X:Fn:=(I5 C7).2
theorem B0Y:∀ x,(B9 cfg [] (B3 []) 8 [.tmp 2] (Tryz.f191.body.getD .skip) A2Q A2R).fn x=X1 x.1:=by intro x;kernel_rfl
theorem L9:B1 Tryz.prog 191 B0X:=sm MO A7 A5 Tryz.func191 (by kernel_rfl) (by decide) (B0Y)
def B6w:Nat→Option Jn:=B3 [(3,⟨[],lt 5 18 [],false⟩)]
abbrev A6u:List PK:= [.ptr A8o,.val false (.int .i64) false]
abbrev A6v:List RK:= [.val false (.sl 5 (.int .u8))]
def A6w(f:X8):Nat×Fn:=(286,⟨A6u,A6v,fun x=>f x.1 x.2.1⟩)
def B6x:Fn:=(A6w G9).2
theorem B6y(f_slices_Clone_byte_byte:C9):∀ x,(B9 cfg [I5 f_slices_Clone_byte_byte] B6w 50 [.tmp 4] (Tryz.f286.body.getD .skip) A6u A6v).fn x=R6 f_slices_Clone_byte_byte x.1 x.2.1:=by intro x;kernel_rfl
theorem B6z:B1 Tryz.prog 286 B6x:=sm MO A7 (tc Tryz.call191 L9 A5) Tryz.func286 (by kernel_rfl) (by decide) (B6y C7)
def E6x:Nat→Option Jn:=B3 [(3,⟨[],lt 3 30 [],false⟩),(26,⟨[.t 3 false [.int .i64]],lt 4 29 [],false⟩)]
abbrev D7N:List PK:= [.val false .str false]
abbrev D7O:List RK:= [.val false .bool]
def A6S(f:R7):Nat×Fn:=(147,⟨D7N,D7O,fun x=>f x.1⟩)
def E6y:Fn:=(A6S Q5).2
theorem E6z(f_i_inRange:C3):∀ x,(B9 cfg [G8 f_i_inRange] E6x 36 [.tmp 2] (Tryz.f147.body.getD .skip) D7N D7O).fn x=C7N f_i_inRange x.1:=by intro x;kernel_rfl
theorem A8O:B1 Tryz.prog 147 E6y:=sm MO A7 (tc Tryz.call80 H9 A5) Tryz.func147 (by kernel_rfl) (by decide) (E6z C5)
def E4X:Nat→Option Jn:=B3 [(3,⟨[],lt 3 22 [],false⟩)]
abbrev D3H:List PK:= [.val true (.pair (.int .i64) (.pair (.int .i64) (.pair (.int .i64) (.pair .str (.pair (.int .i64) (.rs 5 (.int .u8))))))) false]
abbrev D3I:List RK:= [.val false .bool]
def C2k(f:A7O):Nat×Fn:=(287,⟨D3H,D3I,fun x=>f x.1⟩)
def E4Y:Fn:=(C2k A4s).2
theorem E4Z(f_i_inRange:C3)(f_i_idOk:R7)(f_i_isEpoch:A3G):∀ x,(B9 cfg [G8 f_i_inRange,A6S f_i_idOk,B5U f_i_isEpoch] E4X 58 [.tmp 2] (Tryz.f287.body.getD .skip) D3H D3I).fn x=C2E f_i_inRange f_i_idOk f_i_isEpoch x.1:=by intro x;kernel_rfl
theorem D3J:B1 Tryz.prog 287 E4Y:=sm MO A7 (tc Tryz.call80 H9 (tc Tryz.call147 A8O (tc Tryz.call168 C3v A5))) Tryz.func287 (by kernel_rfl) (by decide) (E4Z C5 Q5 A11)
def E8Q:Nat→Option Jn:=B3 [(7,⟨[.t 3 false [.int .u32]],lt 5 24 [],true⟩),(58,⟨[.t 3 false [.int .u32],.t 9 false [.int .i64]],lt 10 19 [.t 5,.t 6],false⟩),(29902,⟨[.t 3 false [.int .u32],.t 17 false [.int .i64]],lt 18 10 [.t 6],false⟩)]
abbrev E3D:List PK:= [.val false (.rs 5 (.int .u8)) false]
abbrev E3E:List RK:= [.val false (.int .i64)]
def C6h(f:A8q):Nat×Fn:=(280,⟨E3D,E3E,fun x=>f x.1⟩)
def E8R:Fn:=(C6h A70).2
theorem E8S:∀ x,(B9 cfg [] E8Q 32 [.tmp 2] (Tryz.f280.body.getD .skip) E3D E3E).fn x=D4A x.1:=by intro x;kernel_rfl
theorem D4i:B1 Tryz.prog 280 E8R:=sm MO A7 A5 Tryz.func280 (by kernel_rfl) (by decide) (E8S)
def E0z:Nat→Option Jn:=B3 [(58,⟨[.t 0 false [.own 100000000],.t 7 false [.int .i64],.r 100000000 5 (.int .u8)],lt 12 13 [.r 23,.r 24,.r 1000],false⟩)]
abbrev C8S:List PK:= [.val false (.sl 5 (.int .u8)) false,.val false (.int .i64) false,.val false (.int .i64) false]
abbrev C8T:List RK:= [.val false (.sl 5 (.int .u8))]
def C8U(f:B2A):Nat×Fn:=(308,⟨C8S,C8T,fun x=>f x.1 x.2.1 x.2.2.1⟩)
def E10:Fn:=(C8U A7e).2
theorem E11:∀ x,(B9 cfg [] E0z 26 [.tmp 6] (Tryz.f308.body.getD .skip) C8S C8T).fn x=B92 x.1 x.2.1 x.2.2.1:=by intro x;kernel_rfl
theorem E12:B1 Tryz.prog 308 E10:=sm MO A7 A5 Tryz.func308 (by kernel_rfl) (by decide) (E11)
abbrev C8V:List PK:= [.val true (.pair (.int .i64) (.pair (.int .i64) (.pair (.int .i64) (.pair .str (.pair (.int .i64) (.rs 5 (.int .u8))))))) false]
abbrev C8W:List RK:= [.val false .str]
def B9e(f:A4t):Nat×Fn:=(288,⟨C8V,C8W,fun x=>f x.1⟩)
def E13:Fn:=(B9e A33).2
theorem E14(f_i_Crc:A8q)(f_i_RecOk:A7O)(f_i_putBig:B2A):∀ x,(B9 cfg [C6h f_i_Crc,C2k f_i_RecOk,C8U f_i_putBig] (B3 []) 45 [.tmp 2] (Tryz.f288.body.getD .skip) C8V C8W).fn x=B93 f_i_Crc f_i_RecOk f_i_putBig x.1:=by intro x;kernel_rfl
theorem C8X:B1 Tryz.prog 288 E13:=sm MO A7 (tc Tryz.call280 D4i (tc Tryz.call287 D3J (tc Tryz.call308 E12 A5))) Tryz.func288 (by kernel_rfl) (by decide) (E14 A70 A4s A7e)
abbrev C8Y:List PK:= [.val false .str false]
abbrev C8Z:List RK:= [.val true A6z,.val false .bool]
def B9f(f:A14):Nat×Fn:=(238,⟨C8Y,C8Z,fun x=>f x.1⟩)
def E15:Fn:=(B9f A01).2
theorem E16(f_i_byteReader_number:U4)(f_i_byteReader_take:X8)(f_i_RecOk:A7O)(f_i_PutRec:A4t):∀ x,(B9 cfg [A4l f_i_byteReader_number,A6w f_i_byteReader_take,C2k f_i_RecOk,B9e f_i_PutRec] (B3 []) 42 [.cell 2 194,.tmp 3] (Tryz.f238.body.getD .skip) C8Y C8Z).fn x=B94 f_i_byteReader_number f_i_byteReader_take f_i_RecOk f_i_PutRec x.1:=by intro x;kernel_rfl
theorem C8a:B1 Tryz.prog 238 E15:=sm MO A7 (tc Tryz.call285 B49 (tc Tryz.call286 B6z (tc Tryz.call287 D3J (tc Tryz.call288 C8X A5)))) Tryz.func238 (by kernel_rfl) (by decide) (E16 D7 G9 A4s A33)
def D4j:Nat→Option Jn:=B3 [(122,⟨[.t 3 false [.own 100000000],.t 4 false [.int .i64],.t 12 false [.int .i64],.r 100000000 194 A6z],lt 13 30 (lt 5 4 [.b 7,.r 38,.r 39,.r 81925]),false⟩)]
abbrev C0c:List PK:= [.val true (.pair (.rs 9 .str) (.rs 9 .str)) false]
abbrev C0d:List RK:= [.val false (.sl 194 A6z)]
def B37(f:A1d):Nat×Fn:=(170,⟨C0c,C0d,fun x=>f x.1⟩)
def D4k:Fn:=(B37 A02).2
theorem D4l(f_i_GetRec:A14):∀ x,(B9 cfg [B9f f_i_GetRec] D4j 44 [.tmp 2] (Tryz.f170.body.getD .skip) C0c C0d).fn x=B2B f_i_GetRec x.1:=by intro x;kernel_rfl
theorem C0e:B1 Tryz.prog 170 D4k:=sm MO A7 (tc Tryz.call238 C8a A5) Tryz.func170 (by kernel_rfl) (by decide) (D4l A01)
def E70:Nat→Option Jn:=B3 [(7,⟨[.t 6 false [.int .i64]],lt 7 15 [],true⟩),(28,⟨[.t 6 false [.int .i64]],lt 7 15 [],false⟩)]
abbrev D7P:List PK:= [.val false (.rs 109 kUp) false,.val false .str false]
abbrev D7Q:List RK:= [.val false (.int .i64),.val false .bool]
def D7R(f:C0B):Nat×Fn:=(289,⟨D7P,D7Q,fun x=>f x.1 x.2.1⟩)
def E71:Fn:=(D7R A15).2
theorem E72:∀ x,(B9 cfg [] E70 36 [.tmp 4,.tmp 5] (Tryz.f289.body.getD .skip) D7P D7Q).fn x=C0C x.1 x.2.1:=by intro x;kernel_rfl
theorem D7S:B1 Tryz.prog 289 E71:=sm MO A7 A5 Tryz.func289 (by kernel_rfl) (by decide) (E72)
def E73:Nat→Option Jn:=B3 [(58,⟨[],lt 19 6 [],false⟩),(2026,⟨[],lt 43 30 [],false⟩)]
abbrev D7T:List PK:= [.val false (.sl 109 kUp) false,.val true (.pair (.int .i64) (.pair (.int .i64) (.pair (.int .i64) (.pair .str (.pair (.int .i64) (.rs 5 (.int .u8))))))) false]
abbrev D7U:List RK:= [.val false (.sl 109 kUp),.val false .bool]
def C8b(f:A7g):Nat×Fn:=(239,⟨D7T,D7U,fun x=>f x.1 x.2.1⟩)
def E74:Fn:=(C8b A61).2
theorem E75(f_i_upAt:C0B)(f_slices_Insert_impl_Up_impl_Up:J4)(f_slices_Delete_impl_Up_impl_Up:J6):∀ x,(B9 cfg [D7R f_i_upAt,X4 f_slices_Insert_impl_Up_impl_Up,X5 f_slices_Delete_impl_Up_impl_Up] E73 113 [.tmp 4,.tmp 5] (Tryz.f239.body.getD .skip) D7T D7U).fn x=C7O f_i_upAt f_slices_Insert_impl_Up_impl_Up f_slices_Delete_impl_Up_impl_Up x.1 x.2.1:=by intro x;kernel_rfl
theorem D7V:B1 Tryz.prog 239 E74:=sm MO A7 (tc Tryz.call289 D7S (tc Tryz.call290 A4Z (tc Tryz.call291 A4d A5))) Tryz.func239 (by kernel_rfl) (by decide) (E75 A15 J5 J7)
def D4m:Nat→Option Jn:=B3 [(7,⟨[.t 4 false [.own 100000000],.r 100000000 109 kUp],lt 6 19 [.b 6,.r 77824],false⟩),(58,⟨[.t 4 false [.own 100000000],.t 11 false [.int .i64],.r 100000000 109 kUp],lt 12 13 (lt 6 3 [.b 6,.r 77824]),false⟩)]
abbrev C0f:List PK:= [.val false (.rs 194 A6z) false]
abbrev C0g:List RK:= [.val false (.sl 109 kUp),.val false .bool]
def B38(f:A1e):Nat×Fn:=(171,⟨C0f,C0g,fun x=>f x.1⟩)
def D4n:Fn:=(B38 A03).2
theorem D4o(f_i_fold:A7g):∀ x,(B9 cfg [C8b f_i_fold] D4m 26 [.tmp 2,.tmp 3] (Tryz.f171.body.getD .skip) C0f C0g).fn x=B2C f_i_fold x.1:=by intro x;kernel_rfl
theorem C0h:B1 Tryz.prog 171 D4n:=sm MO A7 (tc Tryz.call239 D7V A5) Tryz.func171 (by kernel_rfl) (by decide) (D4o A61)
def D7W:Nat→Option Jn:=B3 [(58,⟨[.t 3 false [.int .i64],.t 10 false [.int .i64]],lt 11 14 (lt 5 3 [.b 6,.r 69637]),false⟩)]
abbrev C3w:List PK:= [.val false (.rs 9 .str) false]
abbrev C3x:List RK:= [.val false (.int .i64)]
def B5V(f:A3H):Nat×Fn:=(174,⟨C3w,C3x,fun x=>f x.1⟩)
def D7X:Fn:=(B5V A16).2
theorem D7Y(f_i_GetRec:A14):∀ x,(B9 cfg [B9f f_i_GetRec] D7W 26 [.tmp 2] (Tryz.f174.body.getD .skip) C3w C3x).fn x=B4V f_i_GetRec x.1:=by intro x;kernel_rfl
theorem C3y:B1 Tryz.prog 174 D7X:=sm MO A7 (tc Tryz.call238 C8a A5) Tryz.func174 (by kernel_rfl) (by decide) (D7Y A01)
abbrev B7N:List PK:= [.val false (.rs 5 (.int .u8)) false,.val false (.rs 5 (.int .u8)) false]
abbrev B7O:List RK:= [.val false .bool]
def B7P(f:A5K):Nat×Fn:=(77,⟨B7N,B7O,fun x=>f x.1 x.2.1⟩)
def D0t:Fn:=(B7P A5L).2
theorem D0u:∀ x,(B9 cfg [] (B3 []) 10 [.tmp 4] (Tryz.f77.body.getD .skip) B7N B7O).fn x=B01 x.1 x.2.1:=by intro x;kernel_rfl
theorem D0v:B1 Tryz.prog 77 D0t:=sm MO A7 A5 Tryz.func77 (by kernel_rfl) (by decide) (D0u)
abbrev C8c:List PK:= [.val true (.pair .str (.pair (.int .i64) (.pair (.rs 5 (.int .u8)) .bool))) false,.val true (.pair .str (.pair (.int .i64) (.pair (.rs 5 (.int .u8)) .bool))) false]
abbrev C8d:List RK:= [.val false .bool]
def C8e(f:A7h):Nat×Fn:=(173,⟨C8c,C8d,fun x=>f x.1 x.2.1⟩)
def E17:Fn:=(C8e A7i).2
theorem E18(f_bytes_Equal:A5K):∀ x,(B9 cfg [B7P f_bytes_Equal] (B3 []) 31 [.tmp 4] (Tryz.f173.body.getD .skip) C8c C8d).fn x=B95 f_bytes_Equal x.1 x.2.1:=by intro x;kernel_rfl
theorem E19:B1 Tryz.prog 173 E17:=sm MO A7 (tc Tryz.call77 D0v A5) Tryz.func173 (by kernel_rfl) (by decide) (E18 A5L)
def P1:Nat→Option Jn:=B3 [(58,⟨[.t 17 false [.int .i64]],lt 18 14 (lt 7 3 [.b 8,.b 9]),false⟩)]
abbrev G5:List PK:= [.val false (.rs 109 kUp) false,.val false (.rs 109 kUp) false,.val false (.fnc 173) false]
abbrev G6:List RK:= [.val false .bool]
def G7(f:D4):Nat×Fn:=(172,⟨G5,G6,fun x=>f x.1 x.2.1 x.2.2.1⟩)
def P2:Fn:=(G7 C4).2
theorem P3(f_i_sameUp:A7h):∀ x,(B9 cfg [C8e f_i_sameUp] P1 32 [.tmp 6] (Tryz.f172.body.getD .skip) G5 G6).fn x=E7 f_i_sameUp x.1 x.2.1 x.2.2.1:=by intro x;kernel_rfl
theorem P4:B1 Tryz.prog 172 P2:=sm MO A7 (tc Tryz.call173 E19 A5) Tryz.func172 (by kernel_rfl) (by decide) (P3 A7i)
def D7Z:Nat→Option Jn:=B3 [(3,⟨[],lt 6 10 [],false⟩),(31,⟨[],lt 24 16 [],false⟩),(63,⟨[],lt 40 15 [.x 50],false⟩)]
abbrev C3z:List PK:= [.val true (.pair (.pair (.rs 9 .str) (.rs 9 .str)) (.pair (.int .i64) (.pair (.int .i64) (.rs 109 kUp)))) false]
abbrev C40:List RK:= [.val false .bool]
def C41(f:A8r):Nat×Fn:=(94,⟨C3z,C40,fun x=>f x.1⟩)
def D7a:Fn:=(C41 A17).2
theorem D7b(f_i_isEpoch:A3G)(f_i_DiskOk:A12)(f_i_ScanRecs:A1d)(f_i_FoldRecs:A1e)(f_slices_EqualFunc_impl_Up_impl_Up_impl_Up_impl_Up_r1002_173:D4)(f_i_topFrom:A3H):∀ x,(B9 cfg [B5U f_i_isEpoch,B36 f_i_DiskOk,B37 f_i_ScanRecs,B38 f_i_FoldRecs,G7 f_slices_EqualFunc_impl_Up_impl_Up_impl_Up_impl_Up_r1002_173,B5V f_i_topFrom] D7Z 65 [.tmp 2] (Tryz.f94.body.getD .skip) C3z C40).fn x=B4W f_i_isEpoch f_i_DiskOk f_i_ScanRecs f_i_FoldRecs f_slices_EqualFunc_impl_Up_impl_Up_impl_Up_impl_Up_r1002_173 f_i_topFrom x.1:=by intro x;kernel_rfl
theorem D7c:B1 Tryz.prog 94 D7a:=sm MO A7 (tc Tryz.call168 C3v (tc Tryz.call169 B9d (tc Tryz.call170 C0e (tc Tryz.call171 C0h (tc Tryz.call172 P4 (tc Tryz.call174 C3y A5)))))) Tryz.func94 (by kernel_rfl) (by decide) (D7b A11 A13 A02 A03 C4 A16)
def D4p:Nat→Option Jn:=B3 [(3,⟨[],lt 4 13 [.b 4],false⟩),(26,⟨[.t 8 false [.int .i64]],lt 9 8 [.b 4,.t 4],false⟩)]
abbrev C0i:List PK:= [.val true (.pair (.pair (.pair (.rs 9 .str) (.rs 9 .str)) (.pair (.int .i64) (.pair (.int .i64) (.rs 109 kUp)))) (.rs 130 A9)) false]
abbrev C0j:List RK:= [.val false .bool]
def C0k(f:A71):Nat×Fn:=(28,⟨C0i,C0j,fun x=>f x.1⟩)
def D4q:Fn:=(C0k A3n).2
theorem D4r(f_i_RespOk:X0)(f_i_StoreOk:A8r):∀ x,(B9 cfg [B35 f_i_RespOk,C41 f_i_StoreOk] D4p 26 [.tmp 2] (Tryz.f28.body.getD .skip) C0i C0j).fn x=B2D f_i_RespOk f_i_StoreOk x.1:=by intro x;kernel_rfl
theorem D4s:B1 Tryz.prog 28 D4q:=sm MO A7 (tc Tryz.call93 B9c (tc Tryz.call94 D7c A5)) Tryz.func28 (by kernel_rfl) (by decide) (D4r T5 A17)
abbrev C0l:List PK:= [.val true (.pair .str (.pair (.rs 5 (.int .u8)) E8)) false]
abbrev C0m:List RK:= [.val false .bool]
def A4O(f:N6):Nat×Fn:=(145,⟨C0l,C0m,fun x=>f x.1⟩)
def D4t:Fn:=(A4O K6).2
theorem D4u(f_i_inRange:C3)(f_i_idOk:R7):∀ x,(B9 cfg [G8 f_i_inRange,A6S f_i_idOk] (B3 []) 25 [.tmp 2] (Tryz.f145.body.getD .skip) C0l C0m).fn x=B2E f_i_inRange f_i_idOk x.1:=by intro x;kernel_rfl
theorem A7K:B1 Tryz.prog 145 D4t:=sm MO A7 (tc Tryz.call80 H9 (tc Tryz.call147 A8O A5)) Tryz.func145 (by kernel_rfl) (by decide) (D4u C5 Q5)
def D0w:Nat→Option Jn:=B3 [(3,⟨[],lt 6 28 [.b 4,.b 6,.t 3,.t 4],false⟩),(26,⟨[.t 10 false [.int .i64]],lt 11 23 [.b 4,.b 6,.t 3,.t 4,.t 6],false⟩),(13518,⟨[.t 23 false [.int .i64]],lt 24 9 [.b 6,.t 6],false⟩)]
abbrev B7Q:List PK:= [.val true (.pair (.pair (.pair (.pair (.rs 9 .str) (.rs 9 .str)) (.pair (.int .i64) (.pair (.int .i64) (.rs 109 kUp)))) (.rs 130 A9)) (.pair (.rs 79 B2) (.pair (.rs 4 .bool) (.pair (.rs 113 B8) (.pair (.rs 130 A9) (.rs 3 (.int .i64))))))) false]
abbrev B7R:List RK:= [.val false .bool]
def B7S(f:A5M):Nat×Fn:=(78,⟨B7Q,B7R,fun x=>f x.1⟩)
def D0x:Fn:=(B7S A1w).2
theorem D0y(f_i_ClientOk:N6):∀ x,(B9 cfg [A4O f_i_ClientOk] D0w 56 [.tmp 2] (Tryz.f78.body.getD .skip) B7Q B7R).fn x=B02 f_i_ClientOk x.1:=by intro x;kernel_rfl
theorem D0z:B1 Tryz.prog 78 D0x:=sm MO A7 (tc Tryz.call145 A7K A5) Tryz.func78 (by kernel_rfl) (by decide) (D0y K6)
abbrev B3P:List PK:= [.val false (.int .i64) false]
abbrev B3Q:List RK:= [.val false .str,.val false (.int .i64)]
def B3R(f:A2Z):Nat×Fn:=(146,⟨B3P,B3Q,fun x=>f x.1⟩)
def C5c:Fn:=(B3R A2a).2
theorem C5d:∀ x,(B9 cfg [] (B3 []) 11 [.tmp 2,.tmp 3] (Tryz.f146.body.getD .skip) B3P B3Q).fn x=A6Y x.1:=by intro x;kernel_rfl
theorem C5e:B1 Tryz.prog 146 C5c:=sm MO A7 A5 Tryz.func146 (by kernel_rfl) (by decide) (C5d)
abbrev D3K:List PK:= [.val true M7 false]
abbrev D3L:List RK:= [.val false .bool]
def C2l(f:A4u):Nat×Fn:=(79,⟨D3K,D3L,fun x=>f x.1⟩)
def E4a:Fn:=(C2l A3I).2
theorem E4b(f_i_inRange:C3)(f_i_numberField:A2Z)(f_i_idOk:R7):∀ x,(B9 cfg [G8 f_i_inRange,B3R f_i_numberField,A6S f_i_idOk] (B3 []) 25 [.tmp 2] (Tryz.f79.body.getD .skip) D3K D3L).fn x=C2F f_i_inRange f_i_numberField f_i_idOk x.1:=by intro x;kernel_rfl
theorem D3M:B1 Tryz.prog 79 E4a:=sm MO A7 (tc Tryz.call80 H9 (tc Tryz.call146 C5e (tc Tryz.call147 A8O A5))) Tryz.func79 (by kernel_rfl) (by decide) (E4b C5 A2a Q5)
def E1A:Nat→Option Jn:=B3 [(26,⟨[.t 9 false [.int .i64]],lt 10 18 [.b 6,.t 6],false⟩)]
abbrev C8f:List PK:= [.val true (.pair (.pair (.pair (.pair (.rs 9 .str) (.rs 9 .str)) (.pair (.int .i64) (.pair (.int .i64) (.rs 109 kUp)))) (.rs 130 A9)) (.pair (.rs 79 B2) (.pair (.rs 4 .bool) (.pair (.rs 113 B8) (.pair (.rs 130 A9) (.rs 3 (.int .i64))))))) false,.val false (.rs 130 A9) false]
abbrev C8g:List RK:= [.val false .bool]
def C8h(f:B2G):Nat×Fn:=(81,⟨C8f,C8g,fun x=>f x.1 x.2.1⟩)
def E1B:Fn:=(C8h A7j).2
theorem E1C(f_i_inRange:C3)(f_i_RespOk:X0):∀ x,(B9 cfg [G8 f_i_inRange,B35 f_i_RespOk] E1A 28 [.tmp 4] (Tryz.f81.body.getD .skip) C8f C8g).fn x=B96 f_i_inRange f_i_RespOk x.1 x.2.1:=by intro x;kernel_rfl
theorem E1D:B1 Tryz.prog 81 E1B:=sm MO A7 (tc Tryz.call80 H9 (tc Tryz.call93 B9c A5)) Tryz.func81 (by kernel_rfl) (by decide) (E1C C5 T5)
def D7d:Nat→Option Jn:=B3 [(3,⟨[],lt 5 15 [],false⟩),(7,⟨[],lt 20 22 [.b 4,.t 4],false⟩),(58,⟨[.t 23 false [.int .i64]],lt 24 18 [.b 4,.t 4],false⟩)]
abbrev C42:List PK:= [.val true (.pair (.pair (.pair (.pair (.rs 9 .str) (.rs 9 .str)) (.pair (.int .i64) (.pair (.int .i64) (.rs 109 kUp)))) (.rs 130 A9)) (.pair (.rs 79 B2) (.pair (.rs 4 .bool) (.pair (.rs 113 B8) (.pair (.rs 130 A9) (.rs 3 (.int .i64))))))) false]
abbrev C43:List RK:= [.val false .bool]
def C44(f:A8s):Nat×Fn:=(23,⟨C42,C43,fun x=>f x.1⟩)
def D7e:Fn:=(C44 A3J).2
theorem D7f(f_i_ServerOk:A71)(f_i_clientsOk:A5M)(f_i_ReqOk:A4u)(f_i_inRange:C3)(f_i_heldOk:B2G):∀ x,(B9 cfg [C0k f_i_ServerOk,B7S f_i_clientsOk,C2l f_i_ReqOk,G8 f_i_inRange,C8h f_i_heldOk] D7d 58 [.tmp 2] (Tryz.f23.body.getD .skip) C42 C43).fn x=B4Y f_i_ServerOk f_i_clientsOk f_i_ReqOk f_i_inRange f_i_heldOk x.1:=by intro x;kernel_rfl
theorem D7g:B1 Tryz.prog 23 D7e:=sm MO A7 (tc Tryz.call28 D4s (tc Tryz.call78 D0z (tc Tryz.call79 D3M (tc Tryz.call80 H9 (tc Tryz.call81 E1D A5))))) Tryz.func23 (by kernel_rfl) (by decide) (D7f A3n A1w A3I C5 A7j)
abbrev C8i:List PK:= [.val true (.pair .str (.pair (.int .i64) (.pair (.rs 5 (.int .u8)) .bool))) false]
abbrev C8j:List RK:= [.val true kUp]
def C8k(f:A7k):Nat×Fn:=(144,⟨C8i,C8j,fun x=>f x.1⟩)
def E1E:Fn:=(C8k A4v).2
theorem E1F(f_slices_Clone_byte_byte:C9):∀ x,(B9 cfg [I5 f_slices_Clone_byte_byte] (B3 []) 8 [.cell 2 109] (Tryz.f144.body.getD .skip) C8i C8j).fn x=B97 f_slices_Clone_byte_byte x.1:=by intro x;kernel_rfl
theorem E1G:B1 Tryz.prog 144 E1E:=sm MO A7 (tc Tryz.call191 L9 A5) Tryz.func144 (by kernel_rfl) (by decide) (E1F C7)
abbrev A0Q:List PK:= [.val false (.rs 9 .str) false]
abbrev A0R:List RK:= [.val false (.sl 9 .str)]
def R5(f:G3):Nat×Fn:=(275,⟨A0Q,A0R,fun x=>f x.1⟩)
def A6q:Fn:=(R5 F7).2
theorem A6r:∀ x,(B9 cfg [] (B3 []) 8 [.tmp 2] (Tryz.f275.body.getD .skip) A0Q A0R).fn x=R4 x.1:=by intro x;kernel_rfl
theorem A0S:B1 Tryz.prog 275 A6q:=sm MO A7 A5 Tryz.func275 (by kernel_rfl) (by decide) (A6r)
abbrev C0n:List PK:= [.val true (.pair (.rs 9 .str) (.rs 9 .str)) false]
abbrev C0o:List RK:= [.val true A10]
def A7L(f:V6):Nat×Fn:=(221,⟨C0n,C0o,fun x=>f x.1⟩)
def D4v:Fn:=(A7L R8).2
theorem D4w(f_slices_Clone_string_string:G3):∀ x,(B9 cfg [R5 f_slices_Clone_string_string] (B3 []) 10 [.cell 2 26] (Tryz.f221.body.getD .skip) C0n C0o).fn x=B2H f_slices_Clone_string_string x.1:=by intro x;kernel_rfl
theorem B39:B1 Tryz.prog 221 D4v:=sm MO A7 (tc Tryz.call275 A0S A5) Tryz.func221 (by kernel_rfl) (by decide) (D4w F7)
def D10:Nat→Option Jn:=B3 [(58,⟨[.t 17 false [.int .i64],.b 3 [.own 36864,.own 36865,.int .i64,.int .i64,.own 100000000],.r 36864 9 .str,.r 36865 9 .str,.r 100000000 109 kUp],lt 18 11 [.b 5,.r 25,.r 26,.r 102402,.t 5],false⟩)]
abbrev B7T:List PK:= [.val true (.pair (.pair (.rs 9 .str) (.rs 9 .str)) (.pair (.int .i64) (.pair (.int .i64) (.rs 109 kUp)))) false]
abbrev B7U:List RK:= [.val true A3j]
def B7V(f:A5O):Nat×Fn:=(154,⟨B7T,B7U,fun x=>f x.1⟩)
def D11:Fn:=(B7V A1x).2
theorem D12(f_i_copyUp:A7k)(f_i_copyDisk:V6):∀ x,(B9 cfg [C8k f_i_copyUp,A7L f_i_copyDisk] D10 30 [.cell 2 29] (Tryz.f154.body.getD .skip) B7T B7U).fn x=B03 f_i_copyUp f_i_copyDisk x.1:=by intro x;kernel_rfl
theorem D13:B1 Tryz.prog 154 D11:=sm MO A7 (tc Tryz.call144 E1G (tc Tryz.call221 B39 A5)) Tryz.func154 (by kernel_rfl) (by decide) (D12 A4v R8)
abbrev U0:List PK:= [.val false (.rs 130 A9) false]
abbrev U1:List RK:= [.val false (.sl 130 A9)]
def M4(f:F4):Nat×Fn:=(155,⟨U0,U1,fun x=>f x.1⟩)
def A3A:Fn:=(M4 D9).2
theorem A3B:∀ x,(B9 cfg [] (B3 []) 8 [.tmp 2] (Tryz.f155.body.getD .skip) U0 U1).fn x=M3 x.1:=by intro x;kernel_rfl
theorem U2:B1 Tryz.prog 155 A3A:=sm MO A7 A5 Tryz.func155 (by kernel_rfl) (by decide) (A3B)
abbrev B5W:List PK:= [.val true (.pair (.pair (.pair (.rs 9 .str) (.rs 9 .str)) (.pair (.int .i64) (.pair (.int .i64) (.rs 109 kUp)))) (.rs 130 A9)) false]
abbrev B5X:List RK:= [.val true A1c]
def B5Y(f:A3o):Nat×Fn:=(87,⟨B5W,B5X,fun x=>f x.1⟩)
def C8l:Fn:=(B5Y A18).2
theorem C8m(f_i_copyStore:A5O)(f_slices_Clone_impl_Held_impl_Held:F4):∀ x,(B9 cfg [B7V f_i_copyStore,M4 f_slices_Clone_impl_Held_impl_Held] (B3 []) 10 [.cell 2 32] (Tryz.f87.body.getD .skip) B5W B5X).fn x=A7l f_i_copyStore f_slices_Clone_impl_Held_impl_Held x.1:=by intro x;kernel_rfl
theorem C8n:B1 Tryz.prog 87 C8l:=sm MO A7 (tc Tryz.call154 D13 (tc Tryz.call155 U2 A5)) Tryz.func87 (by kernel_rfl) (by decide) (C8m A1x D9)
abbrev A2S:List PK:= [.val false (.rs 4 .bool) false]
abbrev A2T:List RK:= [.val false (.sl 4 .bool)]
def A2U(f:Q1):Nat×Fn:=(188,⟨A2S,A2T,fun x=>f x.1⟩)
def B0Z:Fn:=(A2U L4).2
theorem B0a:∀ x,(B9 cfg [] (B3 []) 8 [.tmp 2] (Tryz.f188.body.getD .skip) A2S A2T).fn x=X2 x.1:=by intro x;kernel_rfl
theorem B0b:B1 Tryz.prog 188 B0Z:=sm MO A7 A5 Tryz.func188 (by kernel_rfl) (by decide) (B0a)
abbrev A4P:List PK:= [.val false (.rs 3 (.int .i64)) false]
abbrev A4Q:List RK:= [.val false (.sl 3 (.int .i64))]
def A4R(f:R9):Nat×Fn:=(189,⟨A4P,A4Q,fun x=>f x.1⟩)
def B3A:Fn:=(A4R N7).2
theorem B3B:∀ x,(B9 cfg [] (B3 []) 8 [.tmp 2] (Tryz.f189.body.getD .skip) A4P A4Q).fn x=A04 x.1:=by intro x;kernel_rfl
theorem B3C:B1 Tryz.prog 189 B3A:=sm MO A7 A5 Tryz.func189 (by kernel_rfl) (by decide) (B3B)
abbrev B5Z:List PK:= [.val true (.pair .str (.pair (.rs 5 (.int .u8)) E8)) false]
abbrev B5a:List RK:= [.val true B2]
def A4S(f:N8):Nat×Fn:=(190,⟨B5Z,B5a,fun x=>f x.1⟩)
def C8o:Fn:=(A4S K0).2
theorem C8p(f_slices_Clone_byte_byte:C9):∀ x,(B9 cfg [I5 f_slices_Clone_byte_byte] (B3 []) 8 [.cell 2 79] (Tryz.f190.body.getD .skip) B5Z B5a).fn x=A7m f_slices_Clone_byte_byte x.1:=by intro x;kernel_rfl
theorem A8P:B1 Tryz.prog 190 C8o:=sm MO A7 (tc Tryz.call191 L9 A5) Tryz.func190 (by kernel_rfl) (by decide) (C8p C7)
def D14:Nat→Option Jn:=B3 [(7,⟨[.b 3 [.own 45056,.own 45057,.int .i64,.int .i64,.own 45060,.own 45061,.own 100000000,.own 57344,.nil,.own 69632,.own 81920],.r 45056 9 .str,.r 45057 9 .str,.r 45060 109 kUp,.r 45061 130 A9,.r 57344 4 .bool,.r 69632 130 A9,.r 81920 3 (.int .i64),.r 100000000 79 B2],lt 21 15 [.b 5,.r 32,.r 33,.r 131073,.t 5],true⟩),(58,⟨[.t 24 false [.int .i64],.b 3 [.own 45056,.own 45057,.int .i64,.int .i64,.own 45060,.own 45061,.own 100000000,.own 57344,.nil,.own 69632,.own 81920],.r 45056 9 .str,.r 45057 9 .str,.r 45060 109 kUp,.r 45061 130 A9,.r 57344 4 .bool,.r 69632 130 A9,.r 81920 3 (.int .i64),.r 100000000 79 B2],lt 25 11 [.b 5,.r 32,.r 33,.r 131073,.t 5],false⟩),(122,⟨[.t 39 false [.int .i64],.b 3 [.own 45056,.own 45057,.int .i64,.int .i64,.own 45060,.own 45061,.own 100000000,.own 57344,.own 100002001,.own 69632,.own 81920],.r 45056 9 .str,.r 45057 9 .str,.r 45060 109 kUp,.r 45061 130 A9,.r 57344 4 .bool,.r 69632 130 A9,.r 81920 3 (.int .i64),.r 100000000 79 B2,.r 100002001 113 B8],lt 40 14 [.b 7,.r 50,.r 51,.r 188416,.t 7],false⟩)]
abbrev B7W:List PK:= [.val true (.pair (.pair (.pair (.pair (.rs 9 .str) (.rs 9 .str)) (.pair (.int .i64) (.pair (.int .i64) (.rs 109 kUp)))) (.rs 130 A9)) (.pair (.rs 79 B2) (.pair (.rs 4 .bool) (.pair (.rs 113 B8) (.pair (.rs 130 A9) (.rs 3 (.int .i64))))))) false]
abbrev B7X:List RK:= [.val true A0b]
def B7Y(f:A5P):Nat×Fn:=(107,⟨B7W,B7X,fun x=>f x.1⟩)
def D15:Fn:=(B7Y A1y).2
theorem D16(f_i_copyServer:A3o)(f_slices_Clone_impl_Held_impl_Held:F4)(f_slices_Clone_bool_bool:Q1)(f_slices_Clone_int_int:R9)(f_i_copyClient:N8)(f_slices_Clone_byte_byte:C9):∀ x,(B9 cfg [B5Y f_i_copyServer,M4 f_slices_Clone_impl_Held_impl_Held,A2U f_slices_Clone_bool_bool,A4R f_slices_Clone_int_int,A4S f_i_copyClient,I5 f_slices_Clone_byte_byte] D14 55 [.cell 2 38] (Tryz.f107.body.getD .skip) B7W B7X).fn x=B04 f_i_copyServer f_slices_Clone_impl_Held_impl_Held f_slices_Clone_bool_bool f_slices_Clone_int_int f_i_copyClient f_slices_Clone_byte_byte x.1:=by intro x;kernel_rfl
theorem D17:B1 Tryz.prog 107 D15:=sm MO A7 (tc Tryz.call87 C8n (tc Tryz.call155 U2 (tc Tryz.call188 B0b (tc Tryz.call189 B3C (tc Tryz.call190 A8P (tc Tryz.call191 L9 A5)))))) Tryz.func107 (by kernel_rfl) (by decide) (D16 A18 D9 L4 N7 K0 C7)
abbrev A4T:List PK:= [.ptr (.pair .str (.pair (.rs 5 (.int .u8)) E8))]
abbrev A4U:List RK:= [.val false .bool]
def S3(f:K9):Nat×Fn:=(295,⟨A4T,A4U,fun x=>f x.1⟩)
def B3D:Fn:=(S3 I7).2
theorem B3E:∀ x,(B9 cfg [] (B3 []) 15 [.tmp 2] (Tryz.f295.body.getD .skip) A4T A4U).fn x=A3p x.1:=by intro x;kernel_rfl
theorem A0D:B1 Tryz.prog 295 B3D:=sm MO A7 A5 Tryz.func295 (by kernel_rfl) (by decide) (B3E)
def D7h:Nat→Option Jn:=B3 [(3,⟨[.b 1 [.str,.ro 5 (.int .u8),.int .i64,.int .i64]],lt 6 6 [],false⟩)]
abbrev C45:List PK:= [.val true (.pair .str (.pair (.rs 5 (.int .u8)) E8)) false]
abbrev C46:List RK:= [.val true M7,.val false (.sl 5 (.int .u8)),.val false .bool]
def C47(f:A8t):Nat×Fn:=(259,⟨C45,C46,fun x=>f x.1⟩)
def D7i:Fn:=(C47 A62).2
theorem D7j(f_i_ClientOk:N6)(f_slices_Clone_byte_byte:C9)(f_i_Crc:A8q)(f_i_Client_isOver:K9):∀ x,(B9 cfg [A4O f_i_ClientOk,I5 f_slices_Clone_byte_byte,C6h f_i_Crc,S3 f_i_Client_isOver] D7h 55 [.cell 2 43,.tmp 3,.tmp 4] (Tryz.f259.body.getD .skip) C45 C46).fn x=B4Z f_i_ClientOk f_slices_Clone_byte_byte f_i_Crc f_i_Client_isOver x.1:=by intro x;kernel_rfl
theorem D7k:B1 Tryz.prog 259 D7i:=sm MO A7 (tc Tryz.call145 A7K (tc Tryz.call191 L9 (tc Tryz.call280 D4i (tc Tryz.call295 A0D A5)))) Tryz.func259 (by kernel_rfl) (by decide) (D7j K6 C7 A70 I7)
def C8q:Nat→Option Jn:=B3 [(3,⟨[],lt 8 26 [.x 23],false⟩)]
abbrev B5b:List PK:= [.ptr A0b,.val false (.int .i64) false]
abbrev B5c:List RK:= [.val false .bool]
def B5d(f:A3q):Nat×Fn:=(200,⟨B5b,B5c,fun x=>f x.1 x.2.1⟩)
def C8r:Fn:=(B5d A19).2
theorem C8s(f_i_inRange:C3)(f_i_NextReq:A8t):∀ x,(B9 cfg [G8 f_i_inRange,C47 f_i_NextReq] C8q 67 [.tmp 4] (Tryz.f200.body.getD .skip) B5b B5c).fn x=A7n f_i_inRange f_i_NextReq x.1 x.2.1:=by intro x;kernel_rfl
theorem C8t:B1 Tryz.prog 200 C8r:=sm MO A7 (tc Tryz.call80 H9 (tc Tryz.call259 D7k A5)) Tryz.func200 (by kernel_rfl) (by decide) (C8s C5 A62)
abbrev B5e:List PK:= [.ptr A3j]
abbrev B5f:List RK:= [.val false (.int .i64)]
def A1S(f:L5):Nat×Fn:=(277,⟨B5e,B5f,fun x=>f x.1⟩)
def C8u:Fn:=(A1S K1).2
theorem C8v:∀ x,(B9 cfg [] (B3 []) 14 [.tmp 2] (Tryz.f277.body.getD .skip) B5e B5f).fn x=A7o x.1:=by intro x;kernel_rfl
theorem A4V:B1 Tryz.prog 277 C8u:=sm MO A7 A5 Tryz.func277 (by kernel_rfl) (by decide) (C8v)
abbrev A4m:List PK:= [.ptr A3j,.val false (.int .i64) false,.val false .str false,.val false (.int .i64) false,.val false (.rs 5 (.int .u8)) false]
abbrev A4n:List RK:= []
def P6(f:F0):Nat×Fn:=(278,⟨A4m,A4n,fun x=>f x.1 x.2.1 x.2.2.1 x.2.2.2.1 x.2.2.2.2.1⟩)
def B4A:Fn:=(P6 C8).2
theorem B4B(f_i_fold:A7g)(f_i_PutRec:A4t):∀ x,(B9 cfg [C8b f_i_fold,B9e f_i_PutRec] (B3 []) 59 [] (Tryz.f278.body.getD .skip) A4m A4n).fn x=A0c f_i_fold f_i_PutRec x.1 x.2.1 x.2.2.1 x.2.2.2.1 x.2.2.2.2.1:=by intro x;kernel_rfl
theorem U5:B1 Tryz.prog 278 B4A:=sm MO A7 (tc Tryz.call239 D7V (tc Tryz.call288 C8X A5)) Tryz.func278 (by kernel_rfl) (by decide) (B4B A61 A33)
end
end Go.Proofs.YtpdcljonclhhpaaGreat.Ev
