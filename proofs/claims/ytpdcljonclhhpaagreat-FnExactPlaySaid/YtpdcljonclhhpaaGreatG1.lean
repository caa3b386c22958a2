/- Each function of the program does what its plain function says. -/
import Derived.Test.YtpdcljonclhhpaaGreatTy
import Derived.Test.YtpdcljonclhhpaaGreatPu
import Derived.Test.YtpdcljonclhhpaaGreatIns
import Derived.Test.YtpdcljonclhhpaaGreatDelF
import Derived.Test.YtpdcljonclhhpaaGreatChunk
set_option linter.unusedVariables false
set_option maxRecDepth 100000
namespace Go.Proofs.YtpdcljonclhhpaaGreat.Ev
noncomputable section
abbrev A5A:List PK:= [.val false (.sl 109 kUp) false,.val false (.int .i64) false,.val false (.sl 109 kUp) false]
abbrev A5B:List RK:= [.val false (.sl 109 kUp)]
def Y7(f:J9):Nat×Fn:=(290,⟨A5A,A5B,fun x=>f x.1 x.2.1 x.2.2.1⟩)
def A5C:Fn:=(Y7 K0).2
theorem A5D:B0 Tryz.prog 290 A5C:=D6B kUp (by decide)
abbrev A5E:List PK:= [.val false (.sl 109 kUp) false,.val false (.int .i64) false,.val false (.int .i64) false]
abbrev A5F:List RK:= [.val false (.sl 109 kUp)]
def Y8(f:K1):Nat×Fn:=(291,⟨A5E,A5F,fun x=>f x.1 x.2.1 x.2.2.1⟩)
def A5G:Fn:=(Y8 K2).2
theorem A5H:B0 Tryz.prog 291 A5G:=D69 kUp (by decide)
abbrev A2c:List PK:= [.val false (.sl 113 B9) false,.val false (.int .i64) false,.val false (.int .i64) false]
abbrev A2d:List RK:= [.val false (.sl 113 B9)]
def T9(f:H9):Nat×Fn:=(260,⟨A2c,A2d,fun x=>f x.1 x.2.1 x.2.2.1⟩)
def A2e:Fn:=(T9 I0).2
theorem A2f:B0 Tryz.prog 260 A2e:=C1m B9 (by decide)
abbrev A2g:List PK:= [.val false (.sl 130 A9) false,.val false (.int .i64) false,.val false (.int .i64) false]
abbrev A2h:List RK:= [.val false (.sl 130 A9)]
def U0(f:I1):Nat×Fn:=(262,⟨A2g,A2h,fun x=>f x.1 x.2.1 x.2.2.1⟩)
def A2i:Fn:=(U0 I2).2
theorem A2j:B0 Tryz.prog 262 A2i:=C1n A9 (by decide)
abbrev A11:List PK:= [.val false (.sl 113 B9) false,.ptr (.int .i64)]
abbrev A12:List RK:= [.val false (.sl 113 B9)]
def Q2(f:G5):Nat×Fn:=(267000265,⟨A11,A12,fun x=>f x.1 x.2.1⟩)
def A13:Fn:=(Q2 G6).2
theorem A14:C06 Tryz.prog 265 266 A13:=B50 (.pair L5 (.sl 5 (.int .u8))) (by decide)
abbrev A15:List PK:= [.val false (.sl 130 A9) false,.ptr (.int .i64)]
abbrev A16:List RK:= [.val false (.sl 130 A9)]
def Q3(f:G7):Nat×Fn:=(265000267,⟨A15,A16,fun x=>f x.1 x.2.1⟩)
def A17:Fn:=(Q3 G8).2
theorem A18:C06 Tryz.prog 267 264 A17:=B4z F0 (by decide)
abbrev C5C:List PK:= [.val false (.int .i64) false,.val false (.int .i64) false,.val false (.int .i64) false]
abbrev C5D:List RK:= [.val false .bool]
def I4(f:C5):Nat×Fn:=(80,⟨C5C,C5D,fun x=>f x.1 x.2.1 x.2.2.1⟩)
def D9J:Fn:=(I4 C8).2
theorem D9K:∀ x,(B8 cfg [] (B3 []) 15 [.tmp 6] (Tryz.f80.body.getD .skip) C5C C5D).fn x=C4u x.1 x.2.1 x.2.2.1:=by intro x;kernel_rfl
theorem J3:B0 Tryz.prog 80 D9J:=sm MO A7 A5 Tryz.func80 (by kernel_rfl) (by decide) (D9K)
abbrev C9p:List PK:= [.val true F0 false]
abbrev C9q:List RK:= [.val false .bool]
def B43(f:Y0):Nat×Fn:=(93,⟨C9p,C9q,fun x=>f x.1⟩)
def E2z:Fn:=(B43 U3).2
theorem E30(f_i_inRange:C5):∀ x,(B8 cfg [I4 f_i_inRange] (B3 []) 11 [.tmp 2] (Tryz.f93.body.getD .skip) C9p C9q).fn x=C0A f_i_inRange x.1:=by intro x;kernel_rfl
theorem C0l:B0 Tryz.prog 93 E2z:=sm MO A7 (tc Tryz.call80 J3 A5) Tryz.func93 (by kernel_rfl) (by decide) (E30 C8)
abbrev C5E:List PK:= [.val false (.int .i64) false]
abbrev C5F:List RK:= [.val false .bool]
def B6U(f:A3d):Nat×Fn:=(168,⟨C5E,C5F,fun x=>f x.1⟩)
def D9L:Fn:=(B6U A1C).2
theorem D9M(f_i_inRange:C5):∀ x,(B8 cfg [I4 f_i_inRange] (B3 []) 5 [.tmp 2] (Tryz.f168.body.getD .skip) C5E C5F).fn x=A9r f_i_inRange x.1:=by intro x;kernel_rfl
theorem C5G:B0 Tryz.prog 168 D9L:=sm MO A7 (tc Tryz.call80 J3 A5) Tryz.func168 (by kernel_rfl) (by decide) (D9M C8)
def E31:Nat→Option Jn:=B3 [(3,⟨[],lt 4 13 [],false⟩),(58,⟨[.t 20 false [.int .i64]],lt 21 19 [.t 3],false⟩)]
abbrev C9r:List PK:= [.val true (.pair (.rs 9 .str) (.rs 9 .str)) false]
abbrev C9s:List RK:= [.val false .bool]
def B44(f:A1D):Nat×Fn:=(169,⟨C9r,C9s,fun x=>f x.1⟩)
def E32:Fn:=(B44 A1E).2
theorem E33:∀ x,(B8 cfg [] E31 40 [.tmp 2] (Tryz.f169.body.getD .skip) C9r C9s).fn x=C8q x.1:=by intro x;kernel_rfl
theorem C0m:B0 Tryz.prog 169 E32:=sm MO A7 A5 Tryz.func169 (by kernel_rfl) (by decide) (E33)
def E34:Nat→Option Jn:=B3 [(3,⟨[],lt 11 15 [],false⟩),(15,⟨[.t 8 false [.int .i64]],lt 26 17 [.t 10],true⟩),(122,⟨[.t 8 false [.int .i64],.t 33 false [.int .i64]],lt 34 9 [.t 10],false⟩)]
abbrev C9t:List PK:= [.val false (.rs 5 (.int .u8)) false,.val false (.int .i64) false,.val false (.int .i64) false]
abbrev C9u:List RK:= [.val false (.int .i64),.val false .bool]
def C9v(f:B36):Nat×Fn:=(307,⟨C9t,C9u,fun x=>f x.1 x.2.1 x.2.2.1⟩)
def E35:Fn:=(C9v A8b).2
theorem E36(f_i_inRange:C5):∀ x,(B8 cfg [I4 f_i_inRange] E34 44 [.tmp 6,.tmp 7] (Tryz.f307.body.getD .skip) C9t C9u).fn x=C0B f_i_inRange x.1 x.2.1 x.2.2.1:=by intro x;kernel_rfl
theorem E37:B0 Tryz.prog 307 E35:=sm MO A7 (tc Tryz.call80 J3 A5) Tryz.func307 (by kernel_rfl) (by decide) (E36 C8)
def B51:Nat→Option Jn:=B3 [(7,⟨[],lt 20 8 [],false⟩)]
abbrev A5N:List PK:= [.ptr A9q,.val false (.int .i64) false]
abbrev A5O:List RK:= [.val false (.int .i64)]
def A5P(f:V3):Nat×Fn:=(285,⟨A5N,A5O,fun x=>f x.1 x.2.1⟩)
def B52:Fn:=(A5P E0).2
theorem B53(f_i_GetBig:B36):∀ x,(B8 cfg [C9v f_i_GetBig] B51 40 [.tmp 4] (Tryz.f285.body.getD .skip) A5N A5O).fn x=P6 f_i_GetBig x.1 x.2.1:=by intro x;kernel_rfl
theorem B54:B0 Tryz.prog 285 B52:=sm MO A7 (tc Tryz.call307 E37 A5) Tryz.func285 (by kernel_rfl) (by decide) (B53 A8b)
abbrev A2k:List PK:= [.val false (.rs 5 (.int .u8)) false]
abbrev A2l:List RK:= [.val false (.sl 5 (.int .u8))]
def J2(f:D0):Nat×Fn:=(191,⟨A2k,A2l,fun x=>f x.1⟩)
def B1W:Fn:=(J2 C7).2
theorem B1X:∀ x,(B8 cfg [] (B3 []) 8 [.tmp 2] (Tryz.f191.body.getD .skip) A2k A2l).fn x=Y1 x.1:=by intro x;kernel_rfl
theorem M2:B0 Tryz.prog 191 B1W:=sm MO A7 A5 Tryz.func191 (by kernel_rfl) (by decide) (B1X)
def B84:Nat→Option Jn:=B3 [(3,⟨[],lt 5 18 [],false⟩)]
abbrev A7i:List PK:= [.ptr A9q,.val false (.int .i64) false]
abbrev A7j:List RK:= [.val false (.sl 5 (.int .u8))]
def A7k(f:Z1):Nat×Fn:=(286,⟨A7i,A7j,fun x=>f x.1 x.2.1⟩)
def B85:Fn:=(A7k H5).2
theorem B86(f_slices_Clone_byte_byte:D0):∀ x,(B8 cfg [J2 f_slices_Clone_byte_byte] B84 50 [.tmp 4] (Tryz.f286.body.getD .skip) A7i A7j).fn x=S4 f_slices_Clone_byte_byte x.1 x.2.1:=by intro x;kernel_rfl
theorem B87:B0 Tryz.prog 286 B85:=sm MO A7 (tc Tryz.call191 M2 A5) Tryz.func286 (by kernel_rfl) (by decide) (B86 C7)
def E97:Nat→Option Jn:=B3 [(3,⟨[],lt 3 30 [],false⟩),(26,⟨[.t 3 false [.int .i64]],lt 4 29 [],false⟩)]
abbrev D9N:List PK:= [.val false .str false]
abbrev D9O:List RK:= [.val false .bool]
def A7E(f:S5):Nat×Fn:=(147,⟨D9N,D9O,fun x=>f x.1⟩)
def E98:Fn:=(A7E Q9).2
theorem E99(f_i_inRange:C5):∀ x,(B8 cfg [I4 f_i_inRange] E97 36 [.tmp 2] (Tryz.f147.body.getD .skip) D9N D9O).fn x=C8r f_i_inRange x.1:=by intro x;kernel_rfl
theorem A9Q:B0 Tryz.prog 147 E98:=sm MO A7 (tc Tryz.call80 J3 A5) Tryz.func147 (by kernel_rfl) (by decide) (E99 C8)
def E6k:Nat→Option Jn:=B3 [(3,⟨[],lt 3 22 [],false⟩)]
abbrev D4q:List PK:= [.val true (.pair (.int .i64) (.pair (.int .i64) (.pair (.int .i64) (.pair .str (.pair (.int .i64) (.rs 5 (.int .u8))))))) false]
abbrev D4r:List RK:= [.val false .bool]
def C48(f:A8M):Nat×Fn:=(287,⟨D4q,D4r,fun x=>f x.1⟩)
def E6l:Fn:=(C48 A5W).2
theorem E6m(f_i_inRange:C5)(f_i_idOk:S5)(f_i_isEpoch:A3d):∀ x,(B8 cfg [I4 f_i_inRange,A7E f_i_idOk,B6U f_i_isEpoch] E6k 58 [.tmp 2] (Tryz.f287.body.getD .skip) D4q D4r).fn x=C3c f_i_inRange f_i_idOk f_i_isEpoch x.1:=by intro x;kernel_rfl
theorem D4s:B0 Tryz.prog 287 E6l:=sm MO A7 (tc Tryz.call80 J3 (tc Tryz.call147 A9Q (tc Tryz.call168 C5G A5))) Tryz.func287 (by kernel_rfl) (by decide) (E6m C8 Q9 A1C)
def F0e:Nat→Option Jn:=B3 [(7,⟨[.t 3 false [.int .u32]],lt 5 24 [],true⟩),(58,⟨[.t 3 false [.int .u32],.t 9 false [.int .i64]],lt 10 19 [.t 5,.t 6],false⟩),(29902,⟨[.t 3 false [.int .u32],.t 17 false [.int .i64]],lt 18 10 [.t 6],false⟩)]
abbrev E5S:List PK:= [.val false (.rs 5 (.int .u8)) false]
abbrev E5T:List RK:= [.val false (.int .i64)]
def C8B(f:A9s):Nat×Fn:=(280,⟨E5S,E5T,fun x=>f x.1⟩)
def F0f:Fn:=(C8B A7r).2
theorem F0g:∀ x,(B8 cfg [] F0e 32 [.tmp 2] (Tryz.f280.body.getD .skip) E5S E5T).fn x=D5j x.1:=by intro x;kernel_rfl
theorem D6F:B0 Tryz.prog 280 F0f:=sm MO A7 A5 Tryz.func280 (by kernel_rfl) (by decide) (F0g)
def E38:Nat→Option Jn:=B3 [(58,⟨[.t 0 false [.own 100000000],.t 7 false [.int .i64],.r 100000000 5 (.int .u8)],lt 12 13 [.r 23,.r 24,.r 1000],false⟩)]
abbrev C9w:List PK:= [.val false (.sl 5 (.int .u8)) false,.val false (.int .i64) false,.val false (.int .i64) false]
abbrev C9x:List RK:= [.val false (.sl 5 (.int .u8))]
def C9y(f:B39):Nat×Fn:=(308,⟨C9w,C9x,fun x=>f x.1 x.2.1 x.2.2.1⟩)
def E39:Fn:=(C9y A8c).2
theorem E3A:∀ x,(B8 cfg [] E38 26 [.tmp 6] (Tryz.f308.body.getD .skip) C9w C9x).fn x=C0C x.1 x.2.1 x.2.2.1:=by intro x;kernel_rfl
theorem E3B:B0 Tryz.prog 308 E39:=sm MO A7 A5 Tryz.func308 (by kernel_rfl) (by decide) (E3A)
abbrev C9z:List PK:= [.val true (.pair (.int .i64) (.pair (.int .i64) (.pair (.int .i64) (.pair .str (.pair (.int .i64) (.rs 5 (.int .u8))))))) false]
abbrev D00:List RK:= [.val false .str]
def C0n(f:A5X):Nat×Fn:=(288,⟨C9z,D00,fun x=>f x.1⟩)
def E3C:Fn:=(C0n A3N).2
theorem E3D(f_i_Crc:A9s)(f_i_RecOk:A8M)(f_i_putBig:B39):∀ x,(B8 cfg [C8B f_i_Crc,C48 f_i_RecOk,C9y f_i_putBig] (B3 []) 45 [.tmp 2] (Tryz.f288.body.getD .skip) C9z D00).fn x=C0D f_i_Crc f_i_RecOk f_i_putBig x.1:=by intro x;kernel_rfl
theorem D01:B0 Tryz.prog 288 E3C:=sm MO A7 (tc Tryz.call280 D6F (tc Tryz.call287 D4s (tc Tryz.call308 E3B A5))) Tryz.func288 (by kernel_rfl) (by decide) (E3D A7r A5W A8c)
abbrev D02:List PK:= [.val false .str false]
abbrev D03:List RK:= [.val true A7q,.val false .bool]
def C0o(f:A1F):Nat×Fn:=(238,⟨D02,D03,fun x=>f x.1⟩)
def E3E:Fn:=(C0o A0I).2
theorem E3F(f_i_byteReader_number:V3)(f_i_byteReader_take:Z1)(f_i_RecOk:A8M)(f_i_PutRec:A5X):∀ x,(B8 cfg [A5P f_i_byteReader_number,A7k f_i_byteReader_take,C48 f_i_RecOk,C0n f_i_PutRec] (B3 []) 42 [.cell 2 194,.tmp 3] (Tryz.f238.body.getD .skip) D02 D03).fn x=C0E f_i_byteReader_number f_i_byteReader_take f_i_RecOk f_i_PutRec x.1:=by intro x;kernel_rfl
theorem D04:B0 Tryz.prog 238 E3E:=sm MO A7 (tc Tryz.call285 B54 (tc Tryz.call286 B87 (tc Tryz.call287 D4s (tc Tryz.call288 D01 A5)))) Tryz.func238 (by kernel_rfl) (by decide) (E3F E0 H5 A5W A3N)
def D6G:Nat→Option Jn:=B3 [(122,⟨[.t 3 false [.own 100000000],.t 4 false [.int .i64],.t 12 false [.int .i64],.r 100000000 194 A7q],lt 13 30 (lt 5 4 [.b 7,.r 38,.r 39,.r 81925]),false⟩)]
abbrev C1o:List PK:= [.val true (.pair (.rs 9 .str) (.rs 9 .str)) false]
abbrev C1p:List RK:= [.val false (.sl 194 A7q)]
def B45(f:A1s):Nat×Fn:=(170,⟨C1o,C1p,fun x=>f x.1⟩)
def D6H:Fn:=(B45 A0J).2
theorem D6I(f_i_GetRec:A1F):∀ x,(B8 cfg [C0o f_i_GetRec] D6G 44 [.tmp 2] (Tryz.f170.body.getD .skip) C1o C1p).fn x=B3A f_i_GetRec x.1:=by intro x;kernel_rfl
theorem C1q:B0 Tryz.prog 170 D6H:=sm MO A7 (tc Tryz.call238 D04 A5) Tryz.func170 (by kernel_rfl) (by decide) (D6I A0I)
def E9A:Nat→Option Jn:=B3 [(7,⟨[.t 6 false [.int .i64]],lt 7 15 [],true⟩),(28,⟨[.t 6 false [.int .i64]],lt 7 15 [],false⟩)]
abbrev D9P:List PK:= [.val false (.rs 109 kUp) false,.val false .str false]
abbrev D9Q:List RK:= [.val false (.int .i64),.val false .bool]
def D9R(f:C1M):Nat×Fn:=(289,⟨D9P,D9Q,fun x=>f x.1 x.2.1⟩)
def E9B:Fn:=(D9R A1G).2
theorem E9C:∀ x,(B8 cfg [] E9A 36 [.tmp 4,.tmp 5] (Tryz.f289.body.getD .skip) D9P D9Q).fn x=C1N x.1 x.2.1:=by intro x;kernel_rfl
theorem D9S:B0 Tryz.prog 289 E9B:=sm MO A7 A5 Tryz.func289 (by kernel_rfl) (by decide) (E9C)
def E9D:Nat→Option Jn:=B3 [(58,⟨[],lt 19 6 [],false⟩),(2026,⟨[],lt 43 30 [],false⟩)]
abbrev D9T:List PK:= [.val false (.sl 109 kUp) false,.val true (.pair (.int .i64) (.pair (.int .i64) (.pair (.int .i64) (.pair .str (.pair (.int .i64) (.rs 5 (.int .u8))))))) false]
abbrev D9U:List RK:= [.val false (.sl 109 kUp),.val false .bool]
def D05(f:A8e):Nat×Fn:=(239,⟨D9T,D9U,fun x=>f x.1 x.2.1⟩)
def E9E:Fn:=(D05 A6k).2
theorem E9F(f_i_upAt:C1M)(f_slices_Insert_impl_Up_impl_Up:J9)(f_slices_Delete_impl_Up_impl_Up:K1):∀ x,(B8 cfg [D9R f_i_upAt,Y7 f_slices_Insert_impl_Up_impl_Up,Y8 f_slices_Delete_impl_Up_impl_Up] E9D 113 [.tmp 4,.tmp 5] (Tryz.f239.body.getD .skip) D9T D9U).fn x=C8s f_i_upAt f_slices_Insert_impl_Up_impl_Up f_slices_Delete_impl_Up_impl_Up x.1 x.2.1:=by intro x;kernel_rfl
theorem D9V:B0 Tryz.prog 239 E9E:=sm MO A7 (tc Tryz.call289 D9S (tc Tryz.call290 A5D (tc Tryz.call291 A5H A5))) Tryz.func239 (by kernel_rfl) (by decide) (E9F A1G K0 K2)
def D6J:Nat→Option Jn:=B3 [(7,⟨[.t 4 false [.own 100000000],.r 100000000 109 kUp],lt 6 19 [.b 6,.r 77824],false⟩),(58,⟨[.t 4 false [.own 100000000],.t 11 false [.int .i64],.r 100000000 109 kUp],lt 12 13 (lt 6 3 [.b 6,.r 77824]),false⟩)]
abbrev C1r:List PK:= [.val false (.rs 194 A7q) false]
abbrev C1s:List RK:= [.val false (.sl 109 kUp),.val false .bool]
def B46(f:A1t):Nat×Fn:=(171,⟨C1r,C1s,fun x=>f x.1⟩)
def D6K:Fn:=(B46 A0K).2
theorem D6L(f_i_fold:A8e):∀ x,(B8 cfg [D05 f_i_fold] D6J 26 [.tmp 2,.tmp 3] (Tryz.f171.body.getD .skip) C1r C1s).fn x=B3B f_i_fold x.1:=by intro x;kernel_rfl
theorem C1t:B0 Tryz.prog 171 D6K:=sm MO A7 (tc Tryz.call239 D9V A5) Tryz.func171 (by kernel_rfl) (by decide) (D6L A6k)
def D9W:Nat→Option Jn:=B3 [(58,⟨[.t 3 false [.int .i64],.t 10 false [.int .i64]],lt 11 14 (lt 5 3 [.b 6,.r 69637]),false⟩)]
abbrev C5H:List PK:= [.val false (.rs 9 .str) false]
abbrev C5I:List RK:= [.val false (.int .i64)]
def B6V(f:A3e):Nat×Fn:=(174,⟨C5H,C5I,fun x=>f x.1⟩)
def D9X:Fn:=(B6V A1H).2
theorem D9Y(f_i_GetRec:A1F):∀ x,(B8 cfg [C0o f_i_GetRec] D9W 26 [.tmp 2] (Tryz.f174.body.getD .skip) C5H C5I).fn x=B5Q f_i_GetRec x.1:=by intro x;kernel_rfl
theorem C5J:B0 Tryz.prog 174 D9X:=sm MO A7 (tc Tryz.call238 D04 A5) Tryz.func174 (by kernel_rfl) (by decide) (D9Y A0I)
abbrev B8W:List PK:= [.val false (.rs 5 (.int .u8)) false,.val false (.rs 5 (.int .u8)) false]
abbrev B8X:List RK:= [.val false .bool]
def B8Y(f:A5z):Nat×Fn:=(77,⟨B8W,B8X,fun x=>f x.1 x.2.1⟩)
def D2Q:Fn:=(B8Y A60).2
theorem D2R:∀ x,(B8 cfg [] (B3 []) 10 [.tmp 4] (Tryz.f77.body.getD .skip) B8W B8X).fn x=B10 x.1 x.2.1:=by intro x;kernel_rfl
theorem D2S:B0 Tryz.prog 77 D2Q:=sm MO A7 A5 Tryz.func77 (by kernel_rfl) (by decide) (D2R)
abbrev D06:List PK:= [.val true (.pair .str (.pair (.int .i64) (.pair (.rs 5 (.int .u8)) .bool))) false,.val true (.pair .str (.pair (.int .i64) (.pair (.rs 5 (.int .u8)) .bool))) false]
abbrev D07:List RK:= [.val false .bool]
def D08(f:A8f):Nat×Fn:=(173,⟨D06,D07,fun x=>f x.1 x.2.1⟩)
def E3G:Fn:=(D08 A8g).2
theorem E3H(f_bytes_Equal:A5z):∀ x,(B8 cfg [B8Y f_bytes_Equal] (B3 []) 31 [.tmp 4] (Tryz.f173.body.getD .skip) D06 D07).fn x=C0F f_bytes_Equal x.1 x.2.1:=by intro x;kernel_rfl
theorem E3I:B0 Tryz.prog 173 E3G:=sm MO A7 (tc Tryz.call77 D2S A5) Tryz.func173 (by kernel_rfl) (by decide) (E3H A60)
def P2:Nat→Option Jn:=B3 [(58,⟨[.t 17 false [.int .i64]],lt 18 14 (lt 7 3 [.b 8,.b 9]),false⟩)]
abbrev H2:List PK:= [.val false (.rs 109 kUp) false,.val false (.rs 109 kUp) false,.val false (.fnc 173) false]
abbrev H3:List RK:= [.val false .bool]
def H4(f:D4):Nat×Fn:=(172,⟨H2,H3,fun x=>f x.1 x.2.1 x.2.2.1⟩)
def P3:Fn:=(H4 C3).2
theorem P4(f_i_sameUp:A8f):∀ x,(B8 cfg [D08 f_i_sameUp] P2 32 [.tmp 6] (Tryz.f172.body.getD .skip) H2 H3).fn x=F2 f_i_sameUp x.1 x.2.1 x.2.2.1:=by intro x;kernel_rfl
theorem P5:B0 Tryz.prog 172 P3:=sm MO A7 (tc Tryz.call173 E3I A5) Tryz.func172 (by kernel_rfl) (by decide) (P4 A8g)
def D9Z:Nat→Option Jn:=B3 [(3,⟨[],lt 6 10 [],false⟩),(31,⟨[],lt 24 16 [],false⟩),(63,⟨[],lt 40 15 [.x 50],false⟩)]
abbrev C5K:List PK:= [.val true (.pair (.pair (.rs 9 .str) (.rs 9 .str)) (.pair (.int .i64) (.pair (.int .i64) (.rs 109 kUp)))) false]
abbrev C5L:List RK:= [.val false .bool]
def C5M(f:A9t):Nat×Fn:=(94,⟨C5K,C5L,fun x=>f x.1⟩)
def D9a:Fn:=(C5M A1I).2
theorem D9b(f_i_isEpoch:A3d)(f_i_DiskOk:A1D)(f_i_ScanRecs:A1s)(f_i_FoldRecs:A1t)(f_slices_EqualFunc_impl_Up_impl_Up_impl_Up_impl_Up_r1002_173:D4)(f_i_topFrom:A3e):∀ x,(B8 cfg [B6U f_i_isEpoch,B44 f_i_DiskOk,B45 f_i_ScanRecs,B46 f_i_FoldRecs,H4 f_slices_EqualFunc_impl_Up_impl_Up_impl_Up_impl_Up_r1002_173,B6V f_i_topFrom] D9Z 65 [.tmp 2] (Tryz.f94.body.getD .skip) C5K C5L).fn x=B5R f_i_isEpoch f_i_DiskOk f_i_ScanRecs f_i_FoldRecs f_slices_EqualFunc_impl_Up_impl_Up_impl_Up_impl_Up_r1002_173 f_i_topFrom x.1:=by intro x;kernel_rfl
theorem D9c:B0 Tryz.prog 94 D9a:=sm MO A7 (tc Tryz.call168 C5G (tc Tryz.call169 C0m (tc Tryz.call170 C1q (tc Tryz.call171 C1t (tc Tryz.call172 P5 (tc Tryz.call174 C5J A5)))))) Tryz.func94 (by kernel_rfl) (by decide) (D9b A1C A1E A0J A0K C3 A1H)
def D6M:Nat→Option Jn:=B3 [(3,⟨[],lt 4 13 [.b 4],false⟩),(26,⟨[.t 8 false [.int .i64]],lt 9 8 [.b 4,.t 4],false⟩)]
abbrev C1u:List PK:= [.val true (.pair (.pair (.pair (.rs 9 .str) (.rs 9 .str)) (.pair (.int .i64) (.pair (.int .i64) (.rs 109 kUp)))) (.rs 130 A9)) false]
abbrev C1v:List RK:= [.val false .bool]
def C1w(f:A7s):Nat×Fn:=(28,⟨C1u,C1v,fun x=>f x.1⟩)
def D6N:Fn:=(C1w A4B).2
theorem D6O(f_i_RespOk:Y0)(f_i_StoreOk:A9t):∀ x,(B8 cfg [B43 f_i_RespOk,C5M f_i_StoreOk] D6M 26 [.tmp 2] (Tryz.f28.body.getD .skip) C1u C1v).fn x=B3C f_i_RespOk f_i_StoreOk x.1:=by intro x;kernel_rfl
theorem D6P:B0 Tryz.prog 28 D6N:=sm MO A7 (tc Tryz.call93 C0l (tc Tryz.call94 D9c A5)) Tryz.func28 (by kernel_rfl) (by decide) (D6O U3 A1I)
abbrev C1x:List PK:= [.val true (.pair .str (.pair (.rs 5 (.int .u8)) F0)) false]
abbrev C1y:List RK:= [.val false .bool]
def A52(f:N9):Nat×Fn:=(145,⟨C1x,C1y,fun x=>f x.1⟩)
def D6Q:Fn:=(A52 L0).2
theorem D6R(f_i_inRange:C5)(f_i_idOk:S5):∀ x,(B8 cfg [I4 f_i_inRange,A7E f_i_idOk] (B3 []) 25 [.tmp 2] (Tryz.f145.body.getD .skip) C1x C1y).fn x=B3D f_i_inRange f_i_idOk x.1:=by intro x;kernel_rfl
theorem A8H:B0 Tryz.prog 145 D6Q:=sm MO A7 (tc Tryz.call80 J3 (tc Tryz.call147 A9Q A5)) Tryz.func145 (by kernel_rfl) (by decide) (D6R C8 Q9)
def D2T:Nat→Option Jn:=B3 [(3,⟨[],lt 6 28 [.b 4,.b 6,.t 3,.t 4],false⟩),(26,⟨[.t 10 false [.int .i64]],lt 11 23 [.b 4,.b 6,.t 3,.t 4,.t 6],false⟩),(13518,⟨[.t 23 false [.int .i64]],lt 24 9 [.b 6,.t 6],false⟩)]
abbrev B8Z:List PK:= [.val true (.pair (.pair (.pair (.pair (.rs 9 .str) (.rs 9 .str)) (.pair (.int .i64) (.pair (.int .i64) (.rs 109 kUp)))) (.rs 130 A9)) (.pair (.rs 79 B2) (.pair (.rs 4 .bool) (.pair (.rs 113 B9) (.pair (.rs 130 A9) (.rs 3 (.int .i64))))))) false]
abbrev B8a:List RK:= [.val false .bool]
def B8b(f:A61):Nat×Fn:=(78,⟨B8Z,B8a,fun x=>f x.1⟩)
def D2U:Fn:=(B8b A2C).2
theorem D2V(f_i_ClientOk:N9):∀ x,(B8 cfg [A52 f_i_ClientOk] D2T 56 [.tmp 2] (Tryz.f78.body.getD .skip) B8Z B8a).fn x=B11 f_i_ClientOk x.1:=by intro x;kernel_rfl
theorem D2W:B0 Tryz.prog 78 D2U:=sm MO A7 (tc Tryz.call145 A8H A5) Tryz.func78 (by kernel_rfl) (by decide) (D2V L0)
abbrev B4N:List PK:= [.val false (.int .i64) false]
abbrev B4O:List RK:= [.val false .str,.val false (.int .i64)]
def B4P(f:A2t):Nat×Fn:=(146,⟨B4N,B4O,fun x=>f x.1⟩)
def C78:Fn:=(B4P A2u).2
theorem C79:∀ x,(B8 cfg [] (B3 []) 11 [.tmp 2,.tmp 3] (Tryz.f146.body.getD .skip) B4N B4O).fn x=A7L x.1:=by intro x;kernel_rfl
theorem C7A:B0 Tryz.prog 146 C78:=sm MO A7 A5 Tryz.func146 (by kernel_rfl) (by decide) (C79)
abbrev D4t:List PK:= [.val true L5 false]
abbrev D4u:List RK:= [.val false .bool]
def C49(f:A5Y):Nat×Fn:=(79,⟨D4t,D4u,fun x=>f x.1⟩)
def E6n:Fn:=(C49 A3f).2
theorem E6o(f_i_inRange:C5)(f_i_numberField:A2t)(f_i_idOk:S5):∀ x,(B8 cfg [I4 f_i_inRange,B4P f_i_numberField,A7E f_i_idOk] (B3 []) 25 [.tmp 2] (Tryz.f79.body.getD .skip) D4t D4u).fn x=C3d f_i_inRange f_i_numberField f_i_idOk x.1:=by intro x;kernel_rfl
theorem D4v:B0 Tryz.prog 79 E6n:=sm MO A7 (tc Tryz.call80 J3 (tc Tryz.call146 C7A (tc Tryz.call147 A9Q A5))) Tryz.func79 (by kernel_rfl) (by decide) (E6o C8 A2u Q9)
def E3J:Nat→Option Jn:=B3 [(26,⟨[.t 9 false [.int .i64]],lt 10 18 [.b 6,.t 6],false⟩)]
abbrev D09:List PK:= [.val true (.pair (.pair (.pair (.pair (.rs 9 .str) (.rs 9 .str)) (.pair (.int .i64) (.pair (.int .i64) (.rs 109 kUp)))) (.rs 130 A9)) (.pair (.rs 79 B2) (.pair (.rs 4 .bool) (.pair (.rs 113 B9) (.pair (.rs 130 A9) (.rs 3 (.int .i64))))))) false,.val false (.rs 130 A9) false]
abbrev D0A:List RK:= [.val false .bool]
def D0B(f:B3F):Nat×Fn:=(81,⟨D09,D0A,fun x=>f x.1 x.2.1⟩)
def E3K:Fn:=(D0B A8h).2
theorem E3L(f_i_inRange:C5)(f_i_RespOk:Y0):∀ x,(B8 cfg [I4 f_i_inRange,B43 f_i_RespOk] E3J 28 [.tmp 4] (Tryz.f81.body.getD .skip) D09 D0A).fn x=C0G f_i_inRange f_i_RespOk x.1 x.2.1:=by intro x;kernel_rfl
theorem E3M:B0 Tryz.prog 81 E3K:=sm MO A7 (tc Tryz.call80 J3 (tc Tryz.call93 C0l A5)) Tryz.func81 (by kernel_rfl) (by decide) (E3L C8 U3)
def D9d:Nat→Option Jn:=B3 [(3,⟨[],lt 5 15 [],false⟩),(7,⟨[],lt 20 22 [.b 4,.t 4],false⟩),(58,⟨[.t 23 false [.int .i64]],lt 24 18 [.b 4,.t 4],false⟩)]
abbrev C5N:List PK:= [.val true (.pair (.pair (.pair (.pair (.rs 9 .str) (.rs 9 .str)) (.pair (.int .i64) (.pair (.int .i64) (.rs 109 kUp)))) (.rs 130 A9)) (.pair (.rs 79 B2) (.pair (.rs 4 .bool) (.pair (.rs 113 B9) (.pair (.rs 130 A9) (.rs 3 (.int .i64))))))) false]
abbrev C5O:List RK:= [.val false .bool]
def C5P(f:A9u):Nat×Fn:=(23,⟨C5N,C5O,fun x=>f x.1⟩)
def D9e:Fn:=(C5P A3g).2
theorem D9f(f_i_ServerOk:A7s)(f_i_clientsOk:A61)(f_i_ReqOk:A5Y)(f_i_inRange:C5)(f_i_heldOk:B3F):∀ x,(B8 cfg [C1w f_i_ServerOk,B8b f_i_clientsOk,C49 f_i_ReqOk,I4 f_i_inRange,D0B f_i_heldOk] D9d 58 [.tmp 2] (Tryz.f23.body.getD .skip) C5N C5O).fn x=B5T f_i_ServerOk f_i_clientsOk f_i_ReqOk f_i_inRange f_i_heldOk x.1:=by intro x;kernel_rfl
theorem D9g:B0 Tryz.prog 23 D9e:=sm MO A7 (tc Tryz.call28 D6P (tc Tryz.call78 D2W (tc Tryz.call79 D4v (tc Tryz.call80 J3 (tc Tryz.call81 E3M A5))))) Tryz.func23 (by kernel_rfl) (by decide) (D9f A4B A2C A3f C8 A8h)
abbrev D0C:List PK:= [.val true (.pair .str (.pair (.int .i64) (.pair (.rs 5 (.int .u8)) .bool))) false]
abbrev D0D:List RK:= [.val true kUp]
def D0E(f:A8i):Nat×Fn:=(144,⟨D0C,D0D,fun x=>f x.1⟩)
def E3N:Fn:=(D0E A5Z).2
theorem E3O(f_slices_Clone_byte_byte:D0):∀ x,(B8 cfg [J2 f_slices_Clone_byte_byte] (B3 []) 8 [.cell 2 109] (Tryz.f144.body.getD .skip) D0C D0D).fn x=C0H f_slices_Clone_byte_byte x.1:=by intro x;kernel_rfl
theorem E3P:B0 Tryz.prog 144 E3N:=sm MO A7 (tc Tryz.call191 M2 A5) Tryz.func144 (by kernel_rfl) (by decide) (E3O C7)
abbrev A0f:List PK:= [.val false (.rs 9 .str) false]
abbrev A0g:List RK:= [.val false (.sl 9 .str)]
def S3(f:G9):Nat×Fn:=(275,⟨A0f,A0g,fun x=>f x.1⟩)
def A7d:Fn:=(S3 G1).2
theorem A7e:∀ x,(B8 cfg [] (B3 []) 8 [.tmp 2] (Tryz.f275.body.getD .skip) A0f A0g).fn x=S1 x.1:=by intro x;kernel_rfl
theorem A0h:B0 Tryz.prog 275 A7d:=sm MO A7 A5 Tryz.func275 (by kernel_rfl) (by decide) (A7e)
abbrev C1z:List PK:= [.val true (.pair (.rs 9 .str) (.rs 9 .str)) false]
abbrev C20:List RK:= [.val true A0U]
def A8I(f:W7):Nat×Fn:=(221,⟨C1z,C20,fun x=>f x.1⟩)
def D6S:Fn:=(A8I S6).2
theorem D6T(f_slices_Clone_string_string:G9):∀ x,(B8 cfg [S3 f_slices_Clone_string_string] (B3 []) 10 [.cell 2 26] (Tryz.f221.body.getD .skip) C1z C20).fn x=B3G f_slices_Clone_string_string x.1:=by intro x;kernel_rfl
theorem B47:B0 Tryz.prog 221 D6S:=sm MO A7 (tc Tryz.call275 A0h A5) Tryz.func221 (by kernel_rfl) (by decide) (D6T G1)
def D2X:Nat→Option Jn:=B3 [(58,⟨[.t 17 false [.int .i64],.b 3 [.own 36864,.own 36865,.int .i64,.int .i64,.own 100000000],.r 36864 9 .str,.r 36865 9 .str,.r 100000000 109 kUp],lt 18 11 [.b 5,.r 25,.r 26,.r 102402,.t 5],false⟩)]
abbrev B8c:List PK:= [.val true (.pair (.pair (.rs 9 .str) (.rs 9 .str)) (.pair (.int .i64) (.pair (.int .i64) (.rs 109 kUp)))) false]
abbrev B8d:List RK:= [.val true A47]
def B8e(f:A63):Nat×Fn:=(154,⟨B8c,B8d,fun x=>f x.1⟩)
def D2Y:Fn:=(B8e A2D).2
theorem D2Z(f_i_copyUp:A8i)(f_i_copyDisk:W7):∀ x,(B8 cfg [D0E f_i_copyUp,A8I f_i_copyDisk] D2X 30 [.cell 2 29] (Tryz.f154.body.getD .skip) B8c B8d).fn x=B12 f_i_copyUp f_i_copyDisk x.1:=by intro x;kernel_rfl
theorem D2a:B0 Tryz.prog 154 D2Y:=sm MO A7 (tc Tryz.call144 E3P (tc Tryz.call221 B47 A5)) Tryz.func154 (by kernel_rfl) (by decide) (D2Z A5Z S6)
abbrev U9:List PK:= [.val false (.rs 130 A9) false]
abbrev V0:List RK:= [.val false (.sl 130 A9)]
def M8(f:F6):Nat×Fn:=(155,⟨U9,V0,fun x=>f x.1⟩)
def A3W:Fn:=(M8 E2).2
theorem A3X:∀ x,(B8 cfg [] (B3 []) 8 [.tmp 2] (Tryz.f155.body.getD .skip) U9 V0).fn x=M6 x.1:=by intro x;kernel_rfl
theorem V1:B0 Tryz.prog 155 A3W:=sm MO A7 A5 Tryz.func155 (by kernel_rfl) (by decide) (A3X)
abbrev B6W:List PK:= [.val true (.pair (.pair (.pair (.rs 9 .str) (.rs 9 .str)) (.pair (.int .i64) (.pair (.int .i64) (.rs 109 kUp)))) (.rs 130 A9)) false]
abbrev B6X:List RK:= [.val true A1r]
def B6Y(f:A4C):Nat×Fn:=(87,⟨B6W,B6X,fun x=>f x.1⟩)
def D0F:Fn:=(B6Y A1J).2
theorem D0G(f_i_copyStore:A63)(f_slices_Clone_impl_Held_impl_Held:F6):∀ x,(B8 cfg [B8e f_i_copyStore,M8 f_slices_Clone_impl_Held_impl_Held] (B3 []) 10 [.cell 2 32] (Tryz.f87.body.getD .skip) B6W B6X).fn x=A8j f_i_copyStore f_slices_Clone_impl_Held_impl_Held x.1:=by intro x;kernel_rfl
theorem D0H:B0 Tryz.prog 87 D0F:=sm MO A7 (tc Tryz.call154 D2a (tc Tryz.call155 V1 A5)) Tryz.func87 (by kernel_rfl) (by decide) (D0G A2D E2)
abbrev A2m:List PK:= [.val false (.rs 4 .bool) false]
abbrev A2n:List RK:= [.val false (.sl 4 .bool)]
def A2o(f:Q4):Nat×Fn:=(188,⟨A2m,A2n,fun x=>f x.1⟩)
def B1Y:Fn:=(A2o L7).2
theorem B1Z:∀ x,(B8 cfg [] (B3 []) 8 [.tmp 2] (Tryz.f188.body.getD .skip) A2m A2n).fn x=Y2 x.1:=by intro x;kernel_rfl
theorem B1a:B0 Tryz.prog 188 B1Y:=sm MO A7 A5 Tryz.func188 (by kernel_rfl) (by decide) (B1Z)
abbrev A53:List PK:= [.val false (.rs 3 (.int .i64)) false]
abbrev A54:List RK:= [.val false (.sl 3 (.int .i64))]
def A55(f:S7):Nat×Fn:=(189,⟨A53,A54,fun x=>f x.1⟩)
def B48:Fn:=(A55 O0).2
theorem B49:∀ x,(B8 cfg [] (B3 []) 8 [.tmp 2] (Tryz.f189.body.getD .skip) A53 A54).fn x=A0L x.1:=by intro x;kernel_rfl
theorem B4A:B0 Tryz.prog 189 B48:=sm MO A7 A5 Tryz.func189 (by kernel_rfl) (by decide) (B49)
abbrev B6Z:List PK:= [.val true (.pair .str (.pair (.rs 5 (.int .u8)) F0)) false]
abbrev B6a:List RK:= [.val true B2]
def A56(f:O1):Nat×Fn:=(190,⟨B6Z,B6a,fun x=>f x.1⟩)
def D0I:Fn:=(A56 K5).2
theorem D0J(f_slices_Clone_byte_byte:D0):∀ x,(B8 cfg [J2 f_slices_Clone_byte_byte] (B3 []) 8 [.cell 2 79] (Tryz.f190.body.getD .skip) B6Z B6a).fn x=A8k f_slices_Clone_byte_byte x.1:=by intro x;kernel_rfl
theorem A9R:B0 Tryz.prog 190 D0I:=sm MO A7 (tc Tryz.call191 M2 A5) Tryz.func190 (by kernel_rfl) (by decide) (D0J C7)
def D2b:Nat→Option Jn:=B3 [(7,⟨[.b 3 [.own 45056,.own 45057,.int .i64,.int .i64,.own 45060,.own 45061,.own 100000000,.own 57344,.nil,.own 69632,.own 81920],.r 45056 9 .str,.r 45057 9 .str,.r 45060 109 kUp,.r 45061 130 A9,.r 57344 4 .bool,.r 69632 130 A9,.r 81920 3 (.int .i64),.r 100000000 79 B2],lt 21 15 [.b 5,.r 32,.r 33,.r 131073,.t 5],true⟩),(58,⟨[.t 24 false [.int .i64],.b 3 [.own 45056,.own 45057,.int .i64,.int .i64,.own 45060,.own 45061,.own 100000000,.own 57344,.nil,.own 69632,.own 81920],.r 45056 9 .str,.r 45057 9 .str,.r 45060 109 kUp,.r 45061 130 A9,.r 57344 4 .bool,.r 69632 130 A9,.r 81920 3 (.int .i64),.r 100000000 79 B2],lt 25 11 [.b 5,.r 32,.r 33,.r 131073,.t 5],false⟩),(122,⟨[.t 39 false [.int .i64],.b 3 [.own 45056,.own 45057,.int .i64,.int .i64,.own 45060,.own 45061,.own 100000000,.own 57344,.own 100002001,.own 69632,.own 81920],.r 45056 9 .str,.r 45057 9 .str,.r 45060 109 kUp,.r 45061 130 A9,.r 57344 4 .bool,.r 69632 130 A9,.r 81920 3 (.int .i64),.r 100000000 79 B2,.r 100002001 113 B9],lt 40 14 [.b 7,.r 50,.r 51,.r 188416,.t 7],false⟩)]
abbrev B8f:List PK:= [.val true (.pair (.pair (.pair (.pair (.rs 9 .str) (.rs 9 .str)) (.pair (.int .i64) (.pair (.int .i64) (.rs 109 kUp)))) (.rs 130 A9)) (.pair (.rs 79 B2) (.pair (.rs 4 .bool) (.pair (.rs 113 B9) (.pair (.rs 130 A9) (.rs 3 (.int .i64))))))) false]
abbrev B8g:List RK:= [.val true A29]
def B8h(f:A64):Nat×Fn:=(107,⟨B8f,B8g,fun x=>f x.1⟩)
def D2c:Fn:=(B8h A2E).2
theorem D2d(f_i_copyServer:A4C)(f_slices_Clone_impl_Held_impl_Held:F6)(f_slices_Clone_bool_bool:Q4)(f_slices_Clone_int_int:S7)(f_i_copyClient:O1)(f_slices_Clone_byte_byte:D0):∀ x,(B8 cfg [B6Y f_i_copyServer,M8 f_slices_Clone_impl_Held_impl_Held,A2o f_slices_Clone_bool_bool,A55 f_slices_Clone_int_int,A56 f_i_copyClient,J2 f_slices_Clone_byte_byte] D2b 55 [.cell 2 38] (Tryz.f107.body.getD .skip) B8f B8g).fn x=B13 f_i_copyServer f_slices_Clone_impl_Held_impl_Held f_slices_Clone_bool_bool f_slices_Clone_int_int f_i_copyClient f_slices_Clone_byte_byte x.1:=by intro x;kernel_rfl
theorem D2e:B0 Tryz.prog 107 D2c:=sm MO A7 (tc Tryz.call87 D0H (tc Tryz.call155 V1 (tc Tryz.call188 B1a (tc Tryz.call189 B4A (tc Tryz.call190 A9R (tc Tryz.call191 M2 A5)))))) Tryz.func107 (by kernel_rfl) (by decide) (D2d A1J E2 L7 O0 K5 C7)
abbrev A57:List PK:= [.ptr (.pair .str (.pair (.rs 5 (.int .u8)) F0))]
abbrev A58:List RK:= [.val false .bool]
def T1(f:L3):Nat×Fn:=(295,⟨A57,A58,fun x=>f x.1⟩)
def B4B:Fn:=(T1 J5).2
theorem B4C:∀ x,(B8 cfg [] (B3 []) 15 [.tmp 2] (Tryz.f295.body.getD .skip) A57 A58).fn x=A4D x.1:=by intro x;kernel_rfl
theorem A0T:B0 Tryz.prog 295 B4B:=sm MO A7 A5 Tryz.func295 (by kernel_rfl) (by decide) (B4C)
def D9h:Nat→Option Jn:=B3 [(3,⟨[.b 1 [.str,.ro 5 (.int .u8),.int .i64,.int .i64]],lt 6 6 [],false⟩)]
abbrev C5Q:List PK:= [.val true (.pair .str (.pair (.rs 5 (.int .u8)) F0)) false]
abbrev C5R:List RK:= [.val true L5,.val false (.sl 5 (.int .u8)),.val false .bool]
def C5S(f:A9v):Nat×Fn:=(259,⟨C5Q,C5R,fun x=>f x.1⟩)
def D9i:Fn:=(C5S A6l).2
theorem D9j(f_i_ClientOk:N9)(f_slices_Clone_byte_byte:D0)(f_i_Crc:A9s)(f_i_Client_isOver:L3):∀ x,(B8 cfg [A52 f_i_ClientOk,J2 f_slices_Clone_byte_byte,C8B f_i_Crc,T1 f_i_Client_isOver] D9h 55 [.cell 2 43,.tmp 3,.tmp 4] (Tryz.f259.body.getD .skip) C5Q C5R).fn x=B5U f_i_ClientOk f_slices_Clone_byte_byte f_i_Crc f_i_Client_isOver x.1:=by intro x;kernel_rfl
theorem D9k:B0 Tryz.prog 259 D9i:=sm MO A7 (tc Tryz.call145 A8H (tc Tryz.call191 M2 (tc Tryz.call280 D6F (tc Tryz.call295 A0T A5)))) Tryz.func259 (by kernel_rfl) (by decide) (D9j L0 C7 A7r J5)
def D0K:Nat→Option Jn:=B3 [(3,⟨[],lt 8 26 [.x 23],false⟩)]
abbrev B6b:List PK:= [.ptr A29,.val false (.int .i64) false]
abbrev B6c:List RK:= [.val false .bool]
def B6d(f:A4E):Nat×Fn:=(200,⟨B6b,B6c,fun x=>f x.1 x.2.1⟩)
def D0L:Fn:=(B6d A1K).2
theorem D0M(f_i_inRange:C5)(f_i_NextReq:A9v):∀ x,(B8 cfg [I4 f_i_inRange,C5S f_i_NextReq] D0K 67 [.tmp 4] (Tryz.f200.body.getD .skip) B6b B6c).fn x=A8l f_i_inRange f_i_NextReq x.1 x.2.1:=by intro x;kernel_rfl
theorem D0N:B0 Tryz.prog 200 D0L:=sm MO A7 (tc Tryz.call80 J3 (tc Tryz.call259 D9k A5)) Tryz.func200 (by kernel_rfl) (by decide) (D0M C8 A6l)
abbrev B6e:List PK:= [.ptr A47]
abbrev B6f:List RK:= [.val false (.int .i64)]
def A1j(f:L8):Nat×Fn:=(277,⟨B6e,B6f,fun x=>f x.1⟩)
def D0O:Fn:=(A1j K6).2
theorem D0P:∀ x,(B8 cfg [] (B3 []) 14 [.tmp 2] (Tryz.f277.body.getD .skip) B6e B6f).fn x=A8m x.1:=by intro x;kernel_rfl
theorem A59:B0 Tryz.prog 277 D0O:=sm MO A7 A5 Tryz.func277 (by kernel_rfl) (by decide) (D0P)
abbrev A5Q:List PK:= [.ptr A47,.val false (.int .i64) false,.val false .str false,.val false (.int .i64) false,.val false (.rs 5 (.int .u8)) false]
abbrev A5R:List RK:= []
def P8(f:F4):Nat×Fn:=(278,⟨A5Q,A5R,fun x=>f x.1 x.2.1 x.2.2.1 x.2.2.2.1 x.2.2.2.2.1⟩)
def B55:Fn:=(P8 C9).2
theorem B56(f_i_fold:A8e)(f_i_PutRec:A5X):∀ x,(B8 cfg [D05 f_i_fold,C0n f_i_PutRec] (B3 []) 59 [] (Tryz.f278.body.getD .skip) A5Q A5R).fn x=A0p f_i_fold f_i_PutRec x.1 x.2.1 x.2.2.1 x.2.2.2.1 x.2.2.2.2.1:=by intro x;kernel_rfl
theorem V4:B0 Tryz.prog 278 B55:=sm MO A7 (tc Tryz.call239 D9V (tc Tryz.call288 D01 A5)) Tryz.func278 (by kernel_rfl) (by decide) (B56 A6k A3N)
end
end Go.Proofs.YtpdcljonclhhpaaGreat.Ev
