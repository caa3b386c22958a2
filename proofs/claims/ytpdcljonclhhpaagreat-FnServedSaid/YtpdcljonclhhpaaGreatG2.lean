/- Each function of the program does what its plain function says. -/
import Derived.Test.YtpdcljonclhhpaaGreatG1
set_option linter.unusedVariables false
set_option maxRecDepth 100000
namespace Go.Proofs.YtpdcljonclhhpaaGreat.Ev
noncomputable section
def A9r:Nat→Option Jn:=B3 [(7,⟨[],lt 20 8 [],false⟩)]
abbrev A30:List PK:= [.ptr A6G,.val false (.int .i64) false]
abbrev A31:List RK:= [.val false (.int .i64)]
def A32(f:T7):Nat×Fn:=(285,⟨A30,A31,fun x=>f x.1 x.2.1⟩)
def A9s:Fn:=(A32 C3).2
theorem A9t(f_i_GetBig:A8Z):∀ x,(C7 cfg [B97 f_i_GetBig] A9r 40 [.tmp 4] (Tryz.f285.body.getD .skip) A30 A31).fn x=N8 f_i_GetBig x.1 x.2.1:=by intro x;kernel_rfl
theorem A9u:B1 Tryz.prog 285 A9s:=sm MO B2 (tc Tryz.call307 C5x A7) Tryz.func285 (by kernel_rfl) (by decide) (A9t A5c)
abbrev A1R:List PK:= [.val false (.rs 5 (.int .u8)) false]
abbrev A1S:List RK:= [.val false (.sl 5 (.int .u8))]
def W9(f:H7):Nat×Fn:=(191,⟨A1R,A1S,fun x=>f x.1⟩)
def A6z:Fn:=(W9 F0).2
theorem A70:∀ x,(C7 cfg [] (B3 []) 8 [.tmp 2] (Tryz.f191.body.getD .skip) A1R A1S).fn x=W6 x.1:=by intro x;kernel_rfl
theorem A1T:B1 Tryz.prog 191 A6z:=sm MO B2 A7 Tryz.func191 (by kernel_rfl) (by decide) (A70)
def B1m:Nat→Option Jn:=B3 [(3,⟨[],lt 5 18 [],false⟩)]
abbrev A4l:List PK:= [.ptr A6G,.val false (.int .i64) false]
abbrev A4m:List RK:= [.val false (.sl 5 (.int .u8))]
def A4n(f:X4):Nat×Fn:=(286,⟨A4l,A4m,fun x=>f x.1 x.2.1⟩)
def B1n:Fn:=(A4n G0).2
theorem B1o(f_slices_Clone_byte_byte:H7):∀ x,(C7 cfg [W9 f_slices_Clone_byte_byte] B1m 50 [.tmp 4] (Tryz.f286.body.getD .skip) A4l A4m).fn x=R3 f_slices_Clone_byte_byte x.1 x.2.1:=by intro x;kernel_rfl
theorem B1p:B1 Tryz.prog 286 B1n:=sm MO B2 (tc Tryz.call191 A1T A7) Tryz.func286 (by kernel_rfl) (by decide) (B1o F0)
def D08:Nat→Option Jn:=B3 [(3,⟨[],lt 3 30 [],false⟩),(26,⟨[.t 3 false [.int .i64]],lt 4 29 [],false⟩)]
abbrev C3t:List PK:= [.val false .str false]
abbrev C3u:List RK:= [.val false .bool]
def A62(f:V7):Nat×Fn:=(147,⟨C3t,C3u,fun x=>f x.1⟩)
def D09:Fn:=(A62 T0).2
theorem D0A(f_i_inRange:F7):∀ x,(C7 cfg [V9 f_i_inRange] D08 36 [.tmp 2] (Tryz.f147.body.getD .skip) C3t C3u).fn x=B7w f_i_inRange x.1:=by intro x;kernel_rfl
theorem A7k:B1 Tryz.prog 147 D09:=sm MO B2 (tc Tryz.call80 Y8 A7) Tryz.func147 (by kernel_rfl) (by decide) (D0A F8)
def C8I:Nat→Option Jn:=B3 [(3,⟨[],lt 3 22 [],false⟩)]
abbrev C0q:List PK:= [.val true (.pair (.int .i64) (.pair (.int .i64) (.pair (.int .i64) (.pair .str (.pair (.int .i64) (.rs 5 (.int .u8))))))) false]
abbrev C0r:List RK:= [.val false .bool]
def B51(f:A5C):Nat×Fn:=(287,⟨C0q,C0r,fun x=>f x.1⟩)
def C8J:Fn:=(B51 A3M).2
theorem C8K(f_i_inRange:F7)(f_i_idOk:V7)(f_i_isEpoch:A21):∀ x,(C7 cfg [V9 f_i_inRange,A62 f_i_idOk,B0w f_i_isEpoch] C8I 58 [.tmp 2] (Tryz.f287.body.getD .skip) C0q C0r).fn x=B4a f_i_inRange f_i_idOk f_i_isEpoch x.1:=by intro x;kernel_rfl
theorem C0s:B1 Tryz.prog 287 C8J:=sm MO B2 (tc Tryz.call80 Y8 (tc Tryz.call147 A7k (tc Tryz.call168 B65 A7))) Tryz.func287 (by kernel_rfl) (by decide) (C8K F8 T0 A0h)
def D1I:Nat→Option Jn:=B3 [(7,⟨[.t 3 false [.int .u32]],lt 5 24 [],true⟩),(58,⟨[.t 3 false [.int .u32],.t 9 false [.int .i64]],lt 10 19 [.t 5,.t 6],false⟩),(29902,⟨[.t 3 false [.int .u32],.t 17 false [.int .i64]],lt 18 10 [.t 6],false⟩)]
abbrev C6x:List PK:= [.val false (.rs 5 (.int .u8)) false]
abbrev C6y:List RK:= [.val false (.int .i64)]
def C1y(f:B1P):Nat×Fn:=(280,⟨C6x,C6y,fun x=>f x.1⟩)
def D1J:Fn:=(C1y A8b).2
theorem D1K:∀ x,(C7 cfg [] D1I 32 [.tmp 2] (Tryz.f280.body.getD .skip) C6x C6y).fn x=C1O x.1:=by intro x;kernel_rfl
theorem C6z:B1 Tryz.prog 280 D1J:=sm MO B2 A7 Tryz.func280 (by kernel_rfl) (by decide) (D1K)
def C5y:Nat→Option Jn:=B3 [(58,⟨[.t 0 false [.own 100000000],.t 7 false [.int .i64],.r 100000000 5 (.int .u8)],lt 12 13 [.r 23,.r 24,.r 1000],false⟩)]
abbrev B98:List PK:= [.val false (.sl 5 (.int .u8)) false,.val false (.int .i64) false,.val false (.int .i64) false]
abbrev B99:List RK:= [.val false (.sl 5 (.int .u8))]
def B9A(f:A8d):Nat×Fn:=(308,⟨B98,B99,fun x=>f x.1 x.2.1 x.2.2.1⟩)
def C5z:Fn:=(B9A A5d).2
theorem C60:∀ x,(C7 cfg [] C5y 26 [.tmp 6] (Tryz.f308.body.getD .skip) B98 B99).fn x=B2e x.1 x.2.1 x.2.2.1:=by intro x;kernel_rfl
theorem C61:B1 Tryz.prog 308 C5z:=sm MO B2 A7 Tryz.func308 (by kernel_rfl) (by decide) (C60)
abbrev B9B:List PK:= [.val true (.pair (.int .i64) (.pair (.int .i64) (.pair (.int .i64) (.pair .str (.pair (.int .i64) (.rs 5 (.int .u8))))))) false]
abbrev B9C:List RK:= [.val false .str]
def B2z(f:A3N):Nat×Fn:=(288,⟨B9B,B9C,fun x=>f x.1⟩)
def C62:Fn:=(B2z A1m).2
theorem C63(f_i_Crc:B1P)(f_i_RecOk:A5C)(f_i_putBig:A8d):∀ x,(C7 cfg [C1y f_i_Crc,B51 f_i_RecOk,B9A f_i_putBig] (B3 []) 45 [.tmp 2] (Tryz.f288.body.getD .skip) B9B B9C).fn x=B2f f_i_Crc f_i_RecOk f_i_putBig x.1:=by intro x;kernel_rfl
theorem B9D:B1 Tryz.prog 288 C62:=sm MO B2 (tc Tryz.call280 C6z (tc Tryz.call287 C0s (tc Tryz.call308 C61 A7))) Tryz.func288 (by kernel_rfl) (by decide) (C63 A8b A3M A5d)
abbrev B9E:List PK:= [.val false .str false]
abbrev B9F:List RK:= [.val true A4u,.val false .bool]
def B30(f:A0i):Nat×Fn:=(238,⟨B9E,B9F,fun x=>f x.1⟩)
def C64:Fn:=(B30 A00).2
theorem C65(f_i_byteReader_number:T7)(f_i_byteReader_take:X4)(f_i_RecOk:A5C)(f_i_PutRec:A3N):∀ x,(C7 cfg [A32 f_i_byteReader_number,A4n f_i_byteReader_take,B51 f_i_RecOk,B2z f_i_PutRec] (B3 []) 42 [.cell 2 194,.tmp 3] (Tryz.f238.body.getD .skip) B9E B9F).fn x=B2g f_i_byteReader_number f_i_byteReader_take f_i_RecOk f_i_PutRec x.1:=by intro x;kernel_rfl
theorem B9G:B1 Tryz.prog 238 C64:=sm MO B2 (tc Tryz.call285 A9u (tc Tryz.call286 B1p (tc Tryz.call287 C0s (tc Tryz.call288 B9D A7)))) Tryz.func238 (by kernel_rfl) (by decide) (C65 C3 G0 A3M A1m)
def C1z:Nat→Option Jn:=B3 [(122,⟨[.t 3 false [.own 100000000],.t 4 false [.int .i64],.t 12 false [.int .i64],.r 100000000 194 A4u],lt 13 30 (lt 5 4 [.b 7,.r 38,.r 39,.r 81925]),false⟩)]
abbrev B3y:List PK:= [.val true (.pair (.rs 9 .str) (.rs 9 .str)) false]
abbrev B3z:List RK:= [.val false (.sl 194 A4u)]
def B40(f:A4y):Nat×Fn:=(170,⟨B3y,B3z,fun x=>f x.1⟩)
def C20:Fn:=(B40 A2T).2
theorem C21(f_i_GetRec:A0i):∀ x,(C7 cfg [B30 f_i_GetRec] C1z 44 [.tmp 2] (Tryz.f170.body.getD .skip) B3y B3z).fn x=A8e f_i_GetRec x.1:=by intro x;kernel_rfl
theorem C22:B1 Tryz.prog 170 C20:=sm MO B2 (tc Tryz.call238 B9G A7) Tryz.func170 (by kernel_rfl) (by decide) (C21 A00)
def D0B:Nat→Option Jn:=B3 [(7,⟨[.t 6 false [.int .i64]],lt 7 15 [],true⟩),(28,⟨[.t 6 false [.int .i64]],lt 7 15 [],false⟩)]
abbrev C3v:List PK:= [.val false (.rs 109 kUp) false,.val false .str false]
abbrev C3w:List RK:= [.val false (.int .i64),.val false .bool]
def C3x(f:B3N):Nat×Fn:=(289,⟨C3v,C3w,fun x=>f x.1 x.2.1⟩)
def D0C:Fn:=(C3x A0j).2
theorem D0D:∀ x,(C7 cfg [] D0B 36 [.tmp 4,.tmp 5] (Tryz.f289.body.getD .skip) C3v C3w).fn x=B3O x.1 x.2.1:=by intro x;kernel_rfl
theorem C3y:B1 Tryz.prog 289 D0C:=sm MO B2 A7 Tryz.func289 (by kernel_rfl) (by decide) (D0D)
def D0E:Nat→Option Jn:=B3 [(58,⟨[],lt 19 6 [],false⟩),(2026,⟨[],lt 43 30 [],false⟩)]
abbrev C3z:List PK:= [.val false (.sl 109 kUp) false,.val true (.pair (.int .i64) (.pair (.int .i64) (.pair (.int .i64) (.pair .str (.pair (.int .i64) (.rs 5 (.int .u8))))))) false]
abbrev C40:List RK:= [.val false (.sl 109 kUp),.val false .bool]
def B9H(f:A5f):Nat×Fn:=(239,⟨C3z,C40,fun x=>f x.1 x.2.1⟩)
def D0F:Fn:=(B9H A42).2
theorem D0G(f_i_upAt:B3N)(f_slices_Insert_impl_Up_impl_Up:I8)(f_slices_Delete_impl_Up_impl_Up:J0):∀ x,(C7 cfg [C3x f_i_upAt,X0 f_slices_Insert_impl_Up_impl_Up,X1 f_slices_Delete_impl_Up_impl_Up] D0E 113 [.tmp 4,.tmp 5] (Tryz.f239.body.getD .skip) C3z C40).fn x=B7x f_i_upAt f_slices_Insert_impl_Up_impl_Up f_slices_Delete_impl_Up_impl_Up x.1 x.2.1:=by intro x;kernel_rfl
theorem C41:B1 Tryz.prog 239 D0F:=sm MO B2 (tc Tryz.call289 C3y (tc Tryz.call290 A2s (tc Tryz.call291 A2w A7))) Tryz.func239 (by kernel_rfl) (by decide) (D0G A0j I9 J1)
def C23:Nat→Option Jn:=B3 [(7,⟨[.t 4 false [.own 100000000],.r 100000000 109 kUp],lt 6 19 [.b 6,.r 77824],false⟩),(58,⟨[.t 4 false [.own 100000000],.t 11 false [.int .i64],.r 100000000 109 kUp],lt 12 13 (lt 6 3 [.b 6,.r 77824]),false⟩)]
abbrev B41:List PK:= [.val false (.rs 194 A4u) false]
abbrev B42:List RK:= [.val false (.sl 109 kUp),.val false .bool]
def B43(f:A4z):Nat×Fn:=(171,⟨B41,B42,fun x=>f x.1⟩)
def C24:Fn:=(B43 A2V).2
theorem C25(f_i_fold:A5f):∀ x,(C7 cfg [B9H f_i_fold] C23 26 [.tmp 2,.tmp 3] (Tryz.f171.body.getD .skip) B41 B42).fn x=A8f f_i_fold x.1:=by intro x;kernel_rfl
theorem C26:B1 Tryz.prog 171 C24:=sm MO B2 (tc Tryz.call239 C41 A7) Tryz.func171 (by kernel_rfl) (by decide) (C25 A42)
def C42:Nat→Option Jn:=B3 [(58,⟨[.t 3 false [.int .i64],.t 10 false [.int .i64]],lt 11 14 (lt 5 3 [.b 6,.r 69637]),false⟩)]
abbrev B66:List PK:= [.val false (.rs 9 .str) false]
abbrev B67:List RK:= [.val false (.int .i64)]
def B68(f:A6O):Nat×Fn:=(174,⟨B66,B67,fun x=>f x.1⟩)
def C43:Fn:=(B68 A43).2
theorem C44(f_i_GetRec:A0i):∀ x,(C7 cfg [B30 f_i_GetRec] C42 26 [.tmp 2] (Tryz.f174.body.getD .skip) B66 B67).fn x=B0T f_i_GetRec x.1:=by intro x;kernel_rfl
theorem C45:B1 Tryz.prog 174 C43:=sm MO B2 (tc Tryz.call238 B9G A7) Tryz.func174 (by kernel_rfl) (by decide) (C44 A00)
abbrev B29:List PK:= [.val false (.rs 5 (.int .u8)) false,.val false (.rs 5 (.int .u8)) false]
abbrev B2A:List RK:= [.val false .bool]
def B2B(f:A3m):Nat×Fn:=(77,⟨B29,B2A,fun x=>f x.1 x.2.1⟩)
def B9n:Fn:=(B2B A3n).2
theorem B9o:∀ x,(C7 cfg [] (B3 []) 10 [.tmp 4] (Tryz.f77.body.getD .skip) B29 B2A).fn x=A6q x.1 x.2.1:=by intro x;kernel_rfl
theorem B9p:B1 Tryz.prog 77 B9n:=sm MO B2 A7 Tryz.func77 (by kernel_rfl) (by decide) (B9o)
abbrev B9I:List PK:= [.val true (.pair .str (.pair (.int .i64) (.pair (.rs 5 (.int .u8)) .bool))) false,.val true (.pair .str (.pair (.int .i64) (.pair (.rs 5 (.int .u8)) .bool))) false]
abbrev B9J:List RK:= [.val false .bool]
def B9K(f:A5g):Nat×Fn:=(173,⟨B9I,B9J,fun x=>f x.1 x.2.1⟩)
def C66:Fn:=(B9K A5h).2
theorem C67(f_bytes_Equal:A3m):∀ x,(C7 cfg [B2B f_bytes_Equal] (B3 []) 31 [.tmp 4] (Tryz.f173.body.getD .skip) B9I B9J).fn x=B2h f_bytes_Equal x.1 x.2.1:=by intro x;kernel_rfl
theorem C68:B1 Tryz.prog 173 C66:=sm MO B2 (tc Tryz.call77 B9p A7) Tryz.func173 (by kernel_rfl) (by decide) (C67 A3n)
def N4:Nat→Option Jn:=B3 [(58,⟨[.t 17 false [.int .i64]],lt 18 14 (lt 7 3 [.b 8,.b 9]),false⟩)]
abbrev F4:List PK:= [.val false (.rs 109 kUp) false,.val false (.rs 109 kUp) false,.val false (.fnc 173) false]
abbrev F5:List RK:= [.val false .bool]
def F6(f:C0):Nat×Fn:=(172,⟨F4,F5,fun x=>f x.1 x.2.1 x.2.2.1⟩)
def N5:Fn:=(F6 B6).2
theorem N6(f_i_sameUp:A5g):∀ x,(C7 cfg [B9K f_i_sameUp] N4 32 [.tmp 6] (Tryz.f172.body.getD .skip) F4 F5).fn x=D3 f_i_sameUp x.1 x.2.1 x.2.2.1:=by intro x;kernel_rfl
theorem N7:B1 Tryz.prog 172 N5:=sm MO B2 (tc Tryz.call173 C68 A7) Tryz.func172 (by kernel_rfl) (by decide) (N6 A5h)
def C46:Nat→Option Jn:=B3 [(3,⟨[],lt 6 10 [],false⟩),(31,⟨[],lt 24 16 [],false⟩),(63,⟨[],lt 40 15 [.x 50],false⟩)]
abbrev B69:List PK:= [.val true (.pair (.pair (.rs 9 .str) (.rs 9 .str)) (.pair (.int .i64) (.pair (.int .i64) (.rs 109 kUp)))) false]
abbrev B6A:List RK:= [.val false .bool]
def B6B(f:A6P):Nat×Fn:=(94,⟨B69,B6A,fun x=>f x.1⟩)
def C47:Fn:=(B6B A0k).2
theorem C48(f_i_isEpoch:A21)(f_i_DiskOk:A8X)(f_i_ScanRecs:A4y)(f_i_FoldRecs:A4z)(f_slices_EqualFunc_impl_Up_impl_Up_impl_Up_impl_Up_r1002_173:C0)(f_i_topFrom:A6O):∀ x,(C7 cfg [B0w f_i_isEpoch,B94 f_i_DiskOk,B40 f_i_ScanRecs,B43 f_i_FoldRecs,F6 f_slices_EqualFunc_impl_Up_impl_Up_impl_Up_impl_Up_r1002_173,B68 f_i_topFrom] C46 65 [.tmp 2] (Tryz.f94.body.getD .skip) B69 B6A).fn x=B0U f_i_isEpoch f_i_DiskOk f_i_ScanRecs f_i_FoldRecs f_slices_EqualFunc_impl_Up_impl_Up_impl_Up_impl_Up_r1002_173 f_i_topFrom x.1:=by intro x;kernel_rfl
theorem C49:B1 Tryz.prog 94 C47:=sm MO B2 (tc Tryz.call168 B65 (tc Tryz.call169 C5t (tc Tryz.call170 C22 (tc Tryz.call171 C26 (tc Tryz.call172 N7 (tc Tryz.call174 C45 A7)))))) Tryz.func94 (by kernel_rfl) (by decide) (C48 A0h A8Y A2T A2V B6 A43)
def C27:Nat→Option Jn:=B3 [(3,⟨[],lt 4 13 [.b 4],false⟩),(26,⟨[.t 8 false [.int .i64]],lt 9 8 [.b 4,.t 4],false⟩)]
abbrev B44:List PK:= [.val true (.pair (.pair (.pair (.rs 9 .str) (.rs 9 .str)) (.pair (.int .i64) (.pair (.int .i64) (.rs 109 kUp)))) (.rs 130 J7)) false]
abbrev B45:List RK:= [.val false .bool]
def A95(f:A13):Nat×Fn:=(28,⟨B44,B45,fun x=>f x.1⟩)
def C28:Fn:=(A95 R7).2
theorem C29(f_i_RespOk:A5b)(f_i_StoreOk:A6P):∀ x,(C7 cfg [B91 f_i_RespOk,B6B f_i_StoreOk] C27 26 [.tmp 2] (Tryz.f28.body.getD .skip) B44 B45).fn x=A8g f_i_RespOk f_i_StoreOk x.1:=by intro x;kernel_rfl
theorem B46:B1 Tryz.prog 28 C28:=sm MO B2 (tc Tryz.call93 C5p (tc Tryz.call94 C49 A7)) Tryz.func28 (by kernel_rfl) (by decide) (C29 A1l A0k)
abbrev B9L:List PK:= [.val true (.pair .str (.pair (.int .i64) (.pair (.rs 5 (.int .u8)) .bool))) false]
abbrev B9M:List RK:= [.val true kUp]
def B9N(f:A5i):Nat×Fn:=(144,⟨B9L,B9M,fun x=>f x.1⟩)
def C69:Fn:=(B9N A3O).2
theorem C6A(f_slices_Clone_byte_byte:H7):∀ x,(C7 cfg [W9 f_slices_Clone_byte_byte] (B3 []) 8 [.cell 2 109] (Tryz.f144.body.getD .skip) B9L B9M).fn x=B2i f_slices_Clone_byte_byte x.1:=by intro x;kernel_rfl
theorem C6B:B1 Tryz.prog 144 C69:=sm MO B2 (tc Tryz.call191 A1T A7) Tryz.func144 (by kernel_rfl) (by decide) (C6A F0)
abbrev A0C:List PK:= [.val false (.rs 9 .str) false]
abbrev A0D:List RK:= [.val false (.sl 9 .str)]
def A0E(f:K9):Nat×Fn:=(275,⟨A0C,A0D,fun x=>f x.1⟩)
def A4O:Fn:=(A0E H3).2
theorem A4P:∀ x,(C7 cfg [] (B3 []) 8 [.tmp 2] (Tryz.f275.body.getD .skip) A0C A0D).fn x=Q8 x.1:=by intro x;kernel_rfl
theorem A4Q:B1 Tryz.prog 275 A4O:=sm MO B2 A7 Tryz.func275 (by kernel_rfl) (by decide) (A4P)
abbrev B47:List PK:= [.val true (.pair (.rs 9 .str) (.rs 9 .str)) false]
abbrev B48:List RK:= [.val true U2]
def B49(f:A50):Nat×Fn:=(221,⟨B47,B48,fun x=>f x.1⟩)
def C2A:Fn:=(B49 A2W).2
theorem C2B(f_slices_Clone_string_string:K9):∀ x,(C7 cfg [A0E f_slices_Clone_string_string] (B3 []) 10 [.cell 2 26] (Tryz.f221.body.getD .skip) B47 B48).fn x=A8h f_slices_Clone_string_string x.1:=by intro x;kernel_rfl
theorem C2C:B1 Tryz.prog 221 C2A:=sm MO B2 (tc Tryz.call275 A4Q A7) Tryz.func221 (by kernel_rfl) (by decide) (C2B H3)
def B9q:Nat→Option Jn:=B3 [(58,⟨[.t 17 false [.int .i64],.b 3 [.own 36864,.own 36865,.int .i64,.int .i64,.own 100000000],.r 36864 9 .str,.r 36865 9 .str,.r 100000000 109 kUp],lt 18 11 [.b 5,.r 25,.r 26,.r 102402,.t 5],false⟩)]
abbrev B2C:List PK:= [.val true (.pair (.pair (.rs 9 .str) (.rs 9 .str)) (.pair (.int .i64) (.pair (.int .i64) (.rs 109 kUp)))) false]
abbrev B2D:List RK:= [.val true A6o]
def B2E(f:A3o):Nat×Fn:=(154,⟨B2C,B2D,fun x=>f x.1⟩)
def B9r:Fn:=(B2E A1J).2
theorem B9s(f_i_copyUp:A5i)(f_i_copyDisk:A50):∀ x,(C7 cfg [B9N f_i_copyUp,B49 f_i_copyDisk] B9q 30 [.cell 2 29] (Tryz.f154.body.getD .skip) B2C B2D).fn x=A6r f_i_copyUp f_i_copyDisk x.1:=by intro x;kernel_rfl
theorem B9t:B1 Tryz.prog 154 B9r:=sm MO B2 (tc Tryz.call144 C6B (tc Tryz.call221 C2C A7)) Tryz.func154 (by kernel_rfl) (by decide) (B9s A3O A2W)
abbrev T4:List PK:= [.val false (.rs 130 J7) false]
abbrev T5:List RK:= [.val false (.sl 130 J7)]
def T6(f:G8):Nat×Fn:=(155,⟨T4,T5,fun x=>f x.1⟩)
def A1t:Fn:=(T6 E1).2
theorem A1u:∀ x,(C7 cfg [] (B3 []) 8 [.tmp 2] (Tryz.f155.body.getD .skip) T4 T5).fn x=L5 x.1:=by intro x;kernel_rfl
theorem A1v:B1 Tryz.prog 155 A1t:=sm MO B2 A7 Tryz.func155 (by kernel_rfl) (by decide) (A1u)
abbrev B0x:List PK:= [.val true (.pair (.pair (.pair (.rs 9 .str) (.rs 9 .str)) (.pair (.int .i64) (.pair (.int .i64) (.rs 109 kUp)))) (.rs 130 J7)) false]
abbrev B0y:List RK:= [.val true A3h]
def B0z(f:A2X):Nat×Fn:=(87,⟨B0x,B0y,fun x=>f x.1⟩)
def B9O:Fn:=(B0z A0l).2
theorem B9P(f_i_copyStore:A3o)(f_slices_Clone_impl_Held_impl_Held:G8):∀ x,(C7 cfg [B2E f_i_copyStore,T6 f_slices_Clone_impl_Held_impl_Held] (B3 []) 10 [.cell 2 32] (Tryz.f87.body.getD .skip) B0x B0y).fn x=A5j f_i_copyStore f_slices_Clone_impl_Held_impl_Held x.1:=by intro x;kernel_rfl
theorem B9Q:B1 Tryz.prog 87 B9O:=sm MO B2 (tc Tryz.call154 B9t (tc Tryz.call155 A1v A7)) Tryz.func87 (by kernel_rfl) (by decide) (B9P A1J E1)
abbrev A9M:List PK:= [.val false (.int .i64) false]
abbrev A9N:List RK:= [.val false .str,.val false (.int .i64)]
def A9O(f:A1Y):Nat×Fn:=(146,⟨A9M,A9N,fun x=>f x.1⟩)
def B6Q:Fn:=(A9O A1Z).2
theorem B6R:∀ x,(C7 cfg [] (B3 []) 11 [.tmp 2,.tmp 3] (Tryz.f146.body.getD .skip) A9M A9N).fn x=A4G x.1:=by intro x;kernel_rfl
theorem B6S:B1 Tryz.prog 146 B6Q:=sm MO B2 A7 Tryz.func146 (by kernel_rfl) (by decide) (B6R)
abbrev C0t:List PK:= [.val true B1d false]
abbrev C0u:List RK:= [.val false .bool]
def C0v(f:B1Q):Nat×Fn:=(79,⟨C0t,C0u,fun x=>f x.1⟩)
def C8L:Fn:=(C0v A7I).2
theorem C8M(f_i_inRange:F7)(f_i_numberField:A1Y)(f_i_idOk:V7):∀ x,(C7 cfg [V9 f_i_inRange,A9O f_i_numberField,A62 f_i_idOk] (B3 []) 25 [.tmp 2] (Tryz.f79.body.getD .skip) C0t C0u).fn x=B4b f_i_inRange f_i_numberField f_i_idOk x.1:=by intro x;kernel_rfl
theorem C8N:B1 Tryz.prog 79 C8L:=sm MO B2 (tc Tryz.call80 Y8 (tc Tryz.call146 B6S (tc Tryz.call147 A7k A7))) Tryz.func79 (by kernel_rfl) (by decide) (C8M F8 A1Z T0)
abbrev B10:List PK:= [.ptr A6o]
abbrev B11:List RK:= [.val false (.int .i64)]
def A0t(f:K8):Nat×Fn:=(277,⟨B10,B11,fun x=>f x.1⟩)
def B9R:Fn:=(A0t J5).2
theorem B9S:∀ x,(C7 cfg [] (B3 []) 14 [.tmp 2] (Tryz.f277.body.getD .skip) B10 B11).fn x=A5k x.1:=by intro x;kernel_rfl
theorem A2g:B1 Tryz.prog 277 B9R:=sm MO B2 A7 Tryz.func277 (by kernel_rfl) (by decide) (B9S)
abbrev A33:List PK:= [.ptr A6o,.val false (.int .i64) false,.val false .str false,.val false (.int .i64) false,.val false (.rs 5 (.int .u8)) false]
abbrev A34:List RK:= []
def O2(f:D5):Nat×Fn:=(278,⟨A33,A34,fun x=>f x.1 x.2.1 x.2.2.1 x.2.2.2.1 x.2.2.2.2.1⟩)
def A9v:Fn:=(O2 B9).2
theorem A9w(f_i_fold:A5f)(f_i_PutRec:A3N):∀ x,(C7 cfg [B9H f_i_fold,B2z f_i_PutRec] (B3 []) 59 [] (Tryz.f278.body.getD .skip) A33 A34).fn x=A0R f_i_fold f_i_PutRec x.1 x.2.1 x.2.2.1 x.2.2.2.1 x.2.2.2.2.1:=by intro x;kernel_rfl
theorem U0:B1 Tryz.prog 278 A9v:=sm MO B2 (tc Tryz.call239 C41 (tc Tryz.call288 B9D A7)) Tryz.func278 (by kernel_rfl) (by decide) (A9w A42 A1m)
end
end Go.Proofs.YtpdcljonclhhpaaGreat.Ev
