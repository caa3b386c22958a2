/- Each function of the program does what its plain function says. -/
import Derived.Test.YtpdcljonclhhpaaGreatTy
import Derived.Test.YtpdcljonclhhpaaGreatPu
import Derived.Test.YtpdcljonclhhpaaGreatIns
import Derived.Test.YtpdcljonclhhpaaGreatDelF
import Derived.Test.YtpdcljonclhhpaaGreatChunk
set_option linter.unusedVariables false
set_option maxRecDepth 100000
namespace Go.Proofs.YtpdcljonclhhpaaGreat.Ev
noncomputable section
abbrev A83:List PK:= [.val false (.sl 109 kUp) false,.val false (.int .i64) false,.val false (.sl 109 kUp) false]
abbrev A84:List RK:= [.val false (.sl 109 kUp)]
def A1m(f:N4):Nat×Fn:=(290,⟨A83,A84,fun x=>f x.1 x.2.1 x.2.2.1⟩)
def A85:Fn:=(A1m N5).2
theorem A86:B1 Tryz.prog 290 A85:=D6V kUp (by decide)
abbrev A87:List PK:= [.val false (.sl 109 kUp) false,.val false (.int .i64) false,.val false (.int .i64) false]
abbrev A88:List RK:= [.val false (.sl 109 kUp)]
def A1n(f:N6):Nat×Fn:=(291,⟨A87,A88,fun x=>f x.1 x.2.1 x.2.2.1⟩)
def A89:Fn:=(A1n N7).2
theorem A8A:B1 Tryz.prog 291 A89:=D6T kUp (by decide)
abbrev A5F:List PK:= [.val false (.sl 113 E5) false,.val false (.int .i64) false,.val false (.int .i64) false]
abbrev A5G:List RK:= [.val false (.sl 113 E5)]
def A0r(f:K2):Nat×Fn:=(260,⟨A5F,A5G,fun x=>f x.1 x.2.1 x.2.2.1⟩)
def A5H:Fn:=(A0r K3).2
theorem A5I:B1 Tryz.prog 260 A5H:=C4V E5 (by decide)
abbrev A5J:List PK:= [.val false (.sl 130 A9) false,.val false (.int .i64) false,.val false (.int .i64) false]
abbrev A5K:List RK:= [.val false (.sl 130 A9)]
def A0s(f:K4):Nat×Fn:=(262,⟨A5J,A5K,fun x=>f x.1 x.2.1 x.2.2.1⟩)
def A5L:Fn:=(A0s K5).2
theorem A5M:B1 Tryz.prog 262 A5L:=C4W A9 (by decide)
abbrev A3U:List PK:= [.val false (.sl 113 E5) false,.ptr (.int .i64)]
abbrev A3V:List RK:= [.val false (.sl 113 E5)]
def A04(f:H7):Nat×Fn:=(267000265,⟨A3U,A3V,fun x=>f x.1 x.2.1⟩)
def A3W:Fn:=(A04 H8).2
theorem A3a:C2k Tryz.prog 265 266 A3W:=B8G (.pair A06 (.sl 5 (.int .u8))) (by decide)
abbrev A3b:List PK:= [.val false (.sl 130 A9) false,.ptr (.int .i64)]
abbrev A3c:List RK:= [.val false (.sl 130 A9)]
def A05(f:H9):Nat×Fn:=(265000267,⟨A3b,A3c,fun x=>f x.1 x.2.1⟩)
def A3d:Fn:=(A05 I0).2
theorem A3e:C2k Tryz.prog 267 264 A3d:=B8F D8 (by decide)
abbrev E3e:List PK:= [.val false (.rs 5 (.int .u8)) false]
abbrev E3f:List RK:= [.val false .bool]
def E3g(f:C9w):Nat×Fn:=(15,⟨E3e,E3f,fun x=>f x.1⟩)
def E94:Fn:=(E3g D00).2
theorem E95:∀ x,(C4 cfg [] (B4 []) 6 [.tmp 2] (Tryz.f15.body.getD .skip) E3e E3f).fn x=D68 x.1:=by intro x;kernel_rfl
theorem E96:B1 Tryz.prog 15 E94:=sm MO B2 A7 Tryz.func15 (by kernel_rfl) (by decide) (E95)
abbrev C7j:List PK:= [.val false (.int .i64) false,.val false (.int .i64) false,.val false (.int .i64) false]
abbrev C7k:List RK:= [.val false .bool]
def K7(f:C8):Nat×Fn:=(80,⟨C7j,C7k,fun x=>f x.1 x.2.1 x.2.2.1⟩)
def D8r:Fn:=(K7 D3).2
theorem D8s:∀ x,(C4 cfg [] (B4 []) 15 [.tmp 6] (Tryz.f80.body.getD .skip) C7j C7k).fn x=C7V x.1 x.2.1 x.2.2.1:=by intro x;kernel_rfl
theorem M3:B1 Tryz.prog 80 D8r:=sm MO B2 A7 Tryz.func80 (by kernel_rfl) (by decide) (D8s)
abbrev D1l:List PK:= [.val true D8 false]
abbrev D1m:List RK:= [.val false .bool]
def B6m(f:A1U):Nat×Fn:=(93,⟨D1l,D1m,fun x=>f x.1⟩)
def E1e:Fn:=(B6m A0v).2
theorem E1f(f_i_inRange:C8):∀ x,(C4 cfg [K7 f_i_inRange] (B4 []) 11 [.tmp 2] (Tryz.f93.body.getD .skip) D1l D1m).fn x=C2o f_i_inRange x.1:=by intro x;kernel_rfl
theorem C3R:B1 Tryz.prog 93 E1e:=sm MO B2 (tc Tryz.call80 M3 A7) Tryz.func93 (by kernel_rfl) (by decide) (E1f D3)
abbrev C7l:List PK:= [.val false (.int .i64) false]
abbrev C7m:List RK:= [.val false .bool]
def B9m(f:A6H):Nat×Fn:=(168,⟨C7l,C7m,fun x=>f x.1⟩)
def D8t:Fn:=(B9m A3j).2
theorem D8u(f_i_inRange:C8):∀ x,(C4 cfg [K7 f_i_inRange] (B4 []) 5 [.tmp 2] (Tryz.f168.body.getD .skip) C7l C7m).fn x=B2k f_i_inRange x.1:=by intro x;kernel_rfl
theorem C7n:B1 Tryz.prog 168 D8t:=sm MO B2 (tc Tryz.call80 M3 A7) Tryz.func168 (by kernel_rfl) (by decide) (D8u D3)
def E1g:Nat->Option Jn:=B4 [(3,⟨[],lt 4 13 [],false⟩),(58,⟨[.t 20 false [.int .i64]],lt 21 19 [.t 3],false⟩)]
abbrev D1n:List PK:= [.val true (.pair (.rs 9 .str) (.rs 9 .str)) false]
abbrev D1o:List RK:= [.val false .bool]
def B6n(f:A3k):Nat×Fn:=(169,⟨D1n,D1o,fun x=>f x.1⟩)
def E1h:Fn:=(B6n A3l).2
theorem E1i:∀ x,(C4 cfg [] E1g 40 [.tmp 2] (Tryz.f169.body.getD .skip) D1n D1o).fn x=D0r x.1:=by intro x;kernel_rfl
theorem C3S:B1 Tryz.prog 169 E1h:=sm MO B2 A7 Tryz.func169 (by kernel_rfl) (by decide) (E1i)
def E1j:Nat->Option Jn:=B4 [(3,⟨[],lt 11 15 [],false⟩),(15,⟨[.t 8 false [.int .i64]],lt 26 17 [.t 10],true⟩),(122,⟨[.t 8 false [.int .i64],.t 33 false [.int .i64]],lt 34 9 [.t 10],false⟩)]
abbrev D1p:List PK:= [.val false (.rs 5 (.int .u8)) false,.val false (.int .i64) false,.val false (.int .i64) false]
abbrev D1q:List RK:= [.val false (.int .i64),.val false .bool]
def D1r(f:B5v):Nat×Fn:=(307,⟨D1p,D1q,fun x=>f x.1 x.2.1 x.2.2.1⟩)
def E1k:Fn:=(D1r B1b).2
theorem E1l(f_i_inRange:C8):∀ x,(C4 cfg [K7 f_i_inRange] E1j 44 [.tmp 6,.tmp 7] (Tryz.f307.body.getD .skip) D1p D1q).fn x=C2p f_i_inRange x.1 x.2.1 x.2.2.1:=by intro x;kernel_rfl
theorem E1m:B1 Tryz.prog 307 E1k:=sm MO B2 (tc Tryz.call80 M3 A7) Tryz.func307 (by kernel_rfl) (by decide) (E1l D3)
def B8H:Nat->Option Jn:=B4 [(7,⟨[],lt 20 8 [],false⟩)]
abbrev A8C:List PK:= [.ptr B2j,.val false (.int .i64) false]
abbrev A8D:List RK:= [.val false (.int .i64)]
def A8E(f:A18):Nat×Fn:=(285,⟨A8C,A8D,fun x=>f x.1 x.2.1⟩)
def B8I:Fn:=(A8E E1).2
theorem B8J(f_i_GetBig:B5v):∀ x,(C4 cfg [D1r f_i_GetBig] B8H 40 [.tmp 4] (Tryz.f285.body.getD .skip) A8C A8D).fn x=W4 f_i_GetBig x.1 x.2.1:=by intro x;kernel_rfl
theorem B8K:B1 Tryz.prog 285 B8I:=sm MO B2 (tc Tryz.call307 E1m A7) Tryz.func285 (by kernel_rfl) (by decide) (B8J B1b)
abbrev A5N:List PK:= [.val false (.rs 5 (.int .u8)) false]
abbrev A5O:List RK:= [.val false (.sl 5 (.int .u8))]
def L9(f:D6):Nat×Fn:=(191,⟨A5N,A5O,fun x=>f x.1⟩)
def B42:Fn:=(L9 D0).2
theorem B43:∀ x,(C4 cfg [] (B4 []) 8 [.tmp 2] (Tryz.f191.body.getD .skip) A5N A5O).fn x=A1V x.1:=by intro x;kernel_rfl
theorem Q5:B1 Tryz.prog 191 B42:=sm MO B2 A7 Tryz.func191 (by kernel_rfl) (by decide) (B43)
def C1O:Nat->Option Jn:=B4 [(3,⟨[],lt 5 18 [],false⟩)]
abbrev B0b:List PK:= [.ptr B2j,.val false (.int .i64) false]
abbrev B0c:List RK:= [.val false (.sl 5 (.int .u8))]
def B0d(f:A1p):Nat×Fn:=(286,⟨B0b,B0c,fun x=>f x.1 x.2.1⟩)
def C1P:Fn:=(B0d J4).2
theorem C1Q(f_slices_Clone_byte_byte:D6):∀ x,(C4 cfg [L9 f_slices_Clone_byte_byte] C1O 50 [.tmp 4] (Tryz.f286.body.getD .skip) B0b B0c).fn x=A0b f_slices_Clone_byte_byte x.1 x.2.1:=by intro x;kernel_rfl
theorem C1R:B1 Tryz.prog 286 C1P:=sm MO B2 (tc Tryz.call191 Q5 A7) Tryz.func286 (by kernel_rfl) (by decide) (C1Q D0)
def E7S:Nat->Option Jn:=B4 [(3,⟨[],lt 3 30 [],false⟩),(26,⟨[.t 3 false [.int .i64]],lt 4 29 [],false⟩)]
abbrev D8v:List PK:= [.val false .str false]
abbrev D8w:List RK:= [.val false .bool]
def A9w(f:A0c):Nat×Fn:=(147,⟨D8v,D8w,fun x=>f x.1⟩)
def E7T:Fn:=(A9w A0D).2
theorem E7U(f_i_inRange:C8):∀ x,(C4 cfg [K7 f_i_inRange] E7S 36 [.tmp 2] (Tryz.f147.body.getD .skip) D8v D8w).fn x=D0s f_i_inRange x.1:=by intro x;kernel_rfl
theorem B2A:B1 Tryz.prog 147 E7T:=sm MO B2 (tc Tryz.call80 M3 A7) Tryz.func147 (by kernel_rfl) (by decide) (E7U D3)
def E5C:Nat->Option Jn:=B4 [(3,⟨[],lt 3 22 [],false⟩)]
abbrev D5Q:List PK:= [.val true (.pair (.int .i64) (.pair (.int .i64) (.pair (.int .i64) (.pair .str (.pair (.int .i64) (.rs 5 (.int .u8))))))) false]
abbrev D5R:List RK:= [.val false .bool]
def C6T(f:B1I):Nat×Fn:=(287,⟨D5Q,D5R,fun x=>f x.1⟩)
def E5D:Fn:=(C6T A8U).2
theorem E5E(f_i_inRange:C8)(f_i_idOk:A0c)(f_i_isEpoch:A6H):∀ x,(C4 cfg [K7 f_i_inRange,A9w f_i_idOk,B9m f_i_isEpoch] E5C 58 [.tmp 2] (Tryz.f287.body.getD .skip) D5Q D5R).fn x=C5u f_i_inRange f_i_idOk f_i_isEpoch x.1:=by intro x;kernel_rfl
theorem D5S:B1 Tryz.prog 287 E5D:=sm MO B2 (tc Tryz.call80 M3 (tc Tryz.call147 B2A (tc Tryz.call168 C7n A7))) Tryz.func287 (by kernel_rfl) (by decide) (E5E D3 A0D A3j)
def E97:Nat->Option Jn:=B4 [(7,⟨[.t 3 false [.int .u32]],lt 5 24 [],true⟩),(58,⟨[.t 3 false [.int .u32],.t 9 false [.int .i64]],lt 10 19 [.t 5,.t 6],false⟩),(29902,⟨[.t 3 false [.int .u32],.t 17 false [.int .i64]],lt 18 10 [.t 6],false⟩)]
abbrev E3h:List PK:= [.val false (.rs 5 (.int .u8)) false]
abbrev E3i:List RK:= [.val false (.int .i64)]
def D08(f:B2l):Nat×Fn:=(280,⟨E3h,E3i,fun x=>f x.1⟩)
def E98:Fn:=(D08 B0r).2
theorem E99:∀ x,(C4 cfg [] E97 32 [.tmp 2] (Tryz.f280.body.getD .skip) E3h E3i).fn x=D6A x.1:=by intro x;kernel_rfl
theorem D6c:B1 Tryz.prog 280 E98:=sm MO B2 A7 Tryz.func280 (by kernel_rfl) (by decide) (E99)
def E1n:Nat->Option Jn:=B4 [(58,⟨[.t 0 false [.own 100000000],.t 7 false [.int .i64],.r 100000000 5 (.int .u8)],lt 12 13 [.r 23,.r 24,.r 1000],false⟩)]
abbrev D1s:List PK:= [.val false (.sl 5 (.int .u8)) false,.val false (.int .i64) false,.val false (.int .i64) false]
abbrev D1t:List RK:= [.val false (.sl 5 (.int .u8))]
def D1u(f:B61):Nat×Fn:=(308,⟨D1s,D1t,fun x=>f x.1 x.2.1 x.2.2.1⟩)
def E1o:Fn:=(D1u B1c).2
theorem E1p:∀ x,(C4 cfg [] E1n 26 [.tmp 6] (Tryz.f308.body.getD .skip) D1s D1t).fn x=C2q x.1 x.2.1 x.2.2.1:=by intro x;kernel_rfl
theorem E1q:B1 Tryz.prog 308 E1o:=sm MO B2 A7 Tryz.func308 (by kernel_rfl) (by decide) (E1p)
abbrev D1v:List PK:= [.val true (.pair (.int .i64) (.pair (.int .i64) (.pair (.int .i64) (.pair .str (.pair (.int .i64) (.rs 5 (.int .u8))))))) false]
abbrev D1w:List RK:= [.val false .str]
def C3T(f:A8V):Nat×Fn:=(288,⟨D1v,D1w,fun x=>f x.1⟩)
def E1r:Fn:=(C3T A5u).2
theorem E1s(f_i_Crc:B2l)(f_i_RecOk:B1I)(f_i_putBig:B61):∀ x,(C4 cfg [D08 f_i_Crc,C6T f_i_RecOk,D1u f_i_putBig] (B4 []) 45 [.tmp 2] (Tryz.f288.body.getD .skip) D1v D1w).fn x=C2r f_i_Crc f_i_RecOk f_i_putBig x.1:=by intro x;kernel_rfl
theorem D20:B1 Tryz.prog 288 E1r:=sm MO B2 (tc Tryz.call280 D6c (tc Tryz.call287 D5S (tc Tryz.call308 E1q A7))) Tryz.func288 (by kernel_rfl) (by decide) (E1s B0r A8U B1c)
abbrev D21:List PK:= [.val false .str false]
abbrev D22:List RK:= [.val true B0q,.val false .bool]
def C3U(f:A3m):Nat×Fn:=(238,⟨D21,D22,fun x=>f x.1⟩)
def E1t:Fn:=(C3U A2L).2
theorem E1u(f_i_byteReader_number:A18)(f_i_byteReader_take:A1p)(f_i_RecOk:B1I)(f_i_PutRec:A8V):∀ x,(C4 cfg [A8E f_i_byteReader_number,B0d f_i_byteReader_take,C6T f_i_RecOk,C3T f_i_PutRec] (B4 []) 42 [.cell 2 194,.tmp 3] (Tryz.f238.body.getD .skip) D21 D22).fn x=C2s f_i_byteReader_number f_i_byteReader_take f_i_RecOk f_i_PutRec x.1:=by intro x;kernel_rfl
theorem D23:B1 Tryz.prog 238 E1t:=sm MO B2 (tc Tryz.call285 B8K (tc Tryz.call286 C1R (tc Tryz.call287 D5S (tc Tryz.call288 D20 A7)))) Tryz.func238 (by kernel_rfl) (by decide) (E1u E1 J4 A8U A5u)
def D6d:Nat->Option Jn:=B4 [(122,⟨[.t 3 false [.own 100000000],.t 4 false [.int .i64],.t 12 false [.int .i64],.r 100000000 194 B0q],lt 13 30 (lt 5 4 [.b 7,.r 38,.r 39,.r 81925]),false⟩)]
abbrev C4a:List PK:= [.val true (.pair (.rs 9 .str) (.rs 9 .str)) false]
abbrev C4b:List RK:= [.val false (.sl 194 B0q)]
def B6o(f:A4N):Nat×Fn:=(170,⟨C4a,C4b,fun x=>f x.1⟩)
def D6e:Fn:=(B6o A2M).2
theorem D6f(f_i_GetRec:A3m):∀ x,(C4 cfg [C3U f_i_GetRec] D6d 44 [.tmp 2] (Tryz.f170.body.getD .skip) C4a C4b).fn x=B62 f_i_GetRec x.1:=by intro x;kernel_rfl
theorem C4c:B1 Tryz.prog 170 D6e:=sm MO B2 (tc Tryz.call238 D23 A7) Tryz.func170 (by kernel_rfl) (by decide) (D6f A2L)
def E7V:Nat->Option Jn:=B4 [(7,⟨[.t 6 false [.int .i64]],lt 7 15 [],true⟩),(28,⟨[.t 6 false [.int .i64]],lt 7 15 [],false⟩)]
abbrev D90:List PK:= [.val false (.rs 109 kUp) false,.val false .str false]
abbrev D91:List RK:= [.val false (.int .i64),.val false .bool]
def D92(f:C4D):Nat×Fn:=(289,⟨D90,D91,fun x=>f x.1 x.2.1⟩)
def E7W:Fn:=(D92 A3n).2
theorem E7a:∀ x,(C4 cfg [] E7V 36 [.tmp 4,.tmp 5] (Tryz.f289.body.getD .skip) D90 D91).fn x=C4E x.1 x.2.1:=by intro x;kernel_rfl
theorem D93:B1 Tryz.prog 289 E7W:=sm MO B2 A7 Tryz.func289 (by kernel_rfl) (by decide) (E7a)
def E7b:Nat->Option Jn:=B4 [(58,⟨[],lt 19 6 [],false⟩),(2026,⟨[],lt 43 30 [],false⟩)]
abbrev D94:List PK:= [.val false (.sl 109 kUp) false,.val true (.pair (.int .i64) (.pair (.int .i64) (.pair (.int .i64) (.pair .str (.pair (.int .i64) (.rs 5 (.int .u8))))))) false]
abbrev D95:List RK:= [.val false (.sl 109 kUp),.val false .bool]
def D24(f:B1e):Nat×Fn:=(239,⟨D94,D95,fun x=>f x.1 x.2.1⟩)
def E7c:Fn:=(D24 A9d).2
theorem E7d(f_i_upAt:C4D)(f_slices_Insert_impl_Up_impl_Up:N4)(f_slices_Delete_impl_Up_impl_Up:N6):∀ x,(C4 cfg [D92 f_i_upAt,A1m f_slices_Insert_impl_Up_impl_Up,A1n f_slices_Delete_impl_Up_impl_Up] E7b 113 [.tmp 4,.tmp 5] (Tryz.f239.body.getD .skip) D94 D95).fn x=D0t f_i_upAt f_slices_Insert_impl_Up_impl_Up f_slices_Delete_impl_Up_impl_Up x.1 x.2.1:=by intro x;kernel_rfl
theorem D96:B1 Tryz.prog 239 E7c:=sm MO B2 (tc Tryz.call289 D93 (tc Tryz.call290 A86 (tc Tryz.call291 A8A A7))) Tryz.func239 (by kernel_rfl) (by decide) (E7d A3n N5 N7)
def D6g:Nat->Option Jn:=B4 [(7,⟨[.t 4 false [.own 100000000],.r 100000000 109 kUp],lt 6 19 [.b 6,.r 77824],false⟩),(58,⟨[.t 4 false [.own 100000000],.t 11 false [.int .i64],.r 100000000 109 kUp],lt 12 13 (lt 6 3 [.b 6,.r 77824]),false⟩)]
abbrev C4d:List PK:= [.val false (.rs 194 B0q) false]
abbrev C4e:List RK:= [.val false (.sl 109 kUp),.val false .bool]
def B6p(f:A4O):Nat×Fn:=(171,⟨C4d,C4e,fun x=>f x.1⟩)
def D6h:Fn:=(B6p A2N).2
theorem D6i(f_i_fold:B1e):∀ x,(C4 cfg [D24 f_i_fold] D6g 26 [.tmp 2,.tmp 3] (Tryz.f171.body.getD .skip) C4d C4e).fn x=B63 f_i_fold x.1:=by intro x;kernel_rfl
theorem C4f:B1 Tryz.prog 171 D6h:=sm MO B2 (tc Tryz.call239 D96 A7) Tryz.func171 (by kernel_rfl) (by decide) (D6i A9d)
def D97:Nat->Option Jn:=B4 [(58,⟨[.t 3 false [.int .i64],.t 10 false [.int .i64]],lt 11 14 (lt 5 3 [.b 6,.r 69637]),false⟩)]
abbrev C7o:List PK:= [.val false (.rs 9 .str) false]
abbrev C7p:List RK:= [.val false (.int .i64)]
def B9n(f:A6I):Nat×Fn:=(174,⟨C7o,C7p,fun x=>f x.1⟩)
def D98:Fn:=(B9n A3o).2
theorem D99(f_i_GetRec:A3m):∀ x,(C4 cfg [C3U f_i_GetRec] D97 26 [.tmp 2] (Tryz.f174.body.getD .skip) C7o C7p).fn x=B8t f_i_GetRec x.1:=by intro x;kernel_rfl
theorem C7q:B1 Tryz.prog 174 D98:=sm MO B2 (tc Tryz.call238 D23 A7) Tryz.func174 (by kernel_rfl) (by decide) (D99 A2L)
abbrev C1q:List PK:= [.val false (.rs 5 (.int .u8)) false,.val false (.rs 5 (.int .u8)) false]
abbrev C1r:List RK:= [.val false .bool]
def C1s(f:A9A):Nat×Fn:=(77,⟨C1q,C1r,fun x=>f x.1 x.2.1⟩)
def D3m:Fn:=(C1s A9B).2
theorem D3n:∀ x,(C4 cfg [] (B4 []) 10 [.tmp 4] (Tryz.f77.body.getD .skip) C1q C1r).fn x=B3l x.1 x.2.1:=by intro x;kernel_rfl
theorem D3o:B1 Tryz.prog 77 D3m:=sm MO B2 A7 Tryz.func77 (by kernel_rfl) (by decide) (D3n)
abbrev D25:List PK:= [.val true (.pair .str (.pair (.int .i64) (.pair (.rs 5 (.int .u8)) .bool))) false,.val true (.pair .str (.pair (.int .i64) (.pair (.rs 5 (.int .u8)) .bool))) false]
abbrev D26:List RK:= [.val false .bool]
def D27(f:B1f):Nat×Fn:=(173,⟨D25,D26,fun x=>f x.1 x.2.1⟩)
def E1v:Fn:=(D27 B1g).2
theorem E1w(f_bytes_Equal:A9A):∀ x,(C4 cfg [C1s f_bytes_Equal] (B4 []) 31 [.tmp 4] (Tryz.f173.body.getD .skip) D25 D26).fn x=C2t f_bytes_Equal x.1 x.2.1:=by intro x;kernel_rfl
theorem E20:B1 Tryz.prog 173 E1v:=sm MO B2 (tc Tryz.call77 D3o A7) Tryz.func173 (by kernel_rfl) (by decide) (E1w A9B)
def V5:Nat->Option Jn:=B4 [(58,⟨[.t 17 false [.int .i64]],lt 18 14 (lt 7 3 [.b 8,.b 9]),false⟩)]
abbrev J1:List PK:= [.val false (.rs 109 kUp) false,.val false (.rs 109 kUp) false,.val false (.fnc 173) false]
abbrev J2:List RK:= [.val false .bool]
def J3(f:D7):Nat×Fn:=(172,⟨J1,J2,fun x=>f x.1 x.2.1 x.2.2.1⟩)
def V6:Fn:=(J3 C6).2
theorem V7(f_i_sameUp:B1f):∀ x,(C4 cfg [D27 f_i_sameUp] V5 32 [.tmp 6] (Tryz.f172.body.getD .skip) J1 J2).fn x=F9 f_i_sameUp x.1 x.2.1 x.2.2.1:=by intro x;kernel_rfl
theorem V8:B1 Tryz.prog 172 V6:=sm MO B2 (tc Tryz.call173 E20 A7) Tryz.func172 (by kernel_rfl) (by decide) (V7 B1g)
def D9A:Nat->Option Jn:=B4 [(3,⟨[],lt 6 10 [],false⟩),(31,⟨[],lt 24 16 [],false⟩),(63,⟨[],lt 40 15 [.x 50],false⟩)]
abbrev C7r:List PK:= [.val true (.pair (.pair (.rs 9 .str) (.rs 9 .str)) (.pair (.int .i64) (.pair (.int .i64) (.rs 109 kUp)))) false]
abbrev C7s:List RK:= [.val false .bool]
def C7t(f:B2m):Nat×Fn:=(94,⟨C7r,C7s,fun x=>f x.1⟩)
def D9B:Fn:=(C7t A3p).2
theorem D9C(f_i_isEpoch:A6H)(f_i_DiskOk:A3k)(f_i_ScanRecs:A4N)(f_i_FoldRecs:A4O)(f_slices_EqualFunc_impl_Up_impl_Up_impl_Up_impl_Up_r1002_173:D7)(f_i_topFrom:A6I):∀ x,(C4 cfg [B9m f_i_isEpoch,B6n f_i_DiskOk,B6o f_i_ScanRecs,B6p f_i_FoldRecs,J3 f_slices_EqualFunc_impl_Up_impl_Up_impl_Up_impl_Up_r1002_173,B9n f_i_topFrom] D9A 65 [.tmp 2] (Tryz.f94.body.getD .skip) C7r C7s).fn x=B8u f_i_isEpoch f_i_DiskOk f_i_ScanRecs f_i_FoldRecs f_slices_EqualFunc_impl_Up_impl_Up_impl_Up_impl_Up_r1002_173 f_i_topFrom x.1:=by intro x;kernel_rfl
theorem D9D:B1 Tryz.prog 94 D9B:=sm MO B2 (tc Tryz.call168 C7n (tc Tryz.call169 C3S (tc Tryz.call170 C4c (tc Tryz.call171 C4f (tc Tryz.call172 V8 (tc Tryz.call174 C7q A7)))))) Tryz.func94 (by kernel_rfl) (by decide) (D9C A3j A3l A2M A2N C6 A3o)
def D6j:Nat->Option Jn:=B4 [(3,⟨[],lt 4 13 [.b 4],false⟩),(26,⟨[.t 8 false [.int .i64]],lt 9 8 [.b 4,.t 4],false⟩)]
abbrev C4g:List PK:= [.val true (.pair (.pair (.pair (.rs 9 .str) (.rs 9 .str)) (.pair (.int .i64) (.pair (.int .i64) (.rs 109 kUp)))) (.rs 130 A9)) false]
abbrev C4h:List RK:= [.val false .bool]
def C4i(f:B0s):Nat×Fn:=(28,⟨C4g,C4h,fun x=>f x.1⟩)
def D6k:Fn:=(C4i A4P).2
theorem D6l(f_i_RespOk:A1U)(f_i_StoreOk:B2m):∀ x,(C4 cfg [B6m f_i_RespOk,C7t f_i_StoreOk] D6j 26 [.tmp 2] (Tryz.f28.body.getD .skip) C4g C4h).fn x=B64 f_i_RespOk f_i_StoreOk x.1:=by intro x;kernel_rfl
theorem D6m:B1 Tryz.prog 28 D6k:=sm MO B2 (tc Tryz.call93 C3R (tc Tryz.call94 D9D A7)) Tryz.func28 (by kernel_rfl) (by decide) (D6l A0v A3p)
abbrev C4j:List PK:= [.val true (.pair .str (.pair (.rs 5 (.int .u8)) D8)) false]
abbrev C4k:List RK:= [.val false .bool]
def A7a(f:T0):Nat×Fn:=(145,⟨C4j,C4k,fun x=>f x.1⟩)
def D6n:Fn:=(A7a O5).2
theorem D6o(f_i_inRange:C8)(f_i_idOk:A0c):∀ x,(C4 cfg [K7 f_i_inRange,A9w f_i_idOk] (B4 []) 25 [.tmp 2] (Tryz.f145.body.getD .skip) C4j C4k).fn x=B65 f_i_inRange f_i_idOk x.1:=by intro x;kernel_rfl
theorem B18:B1 Tryz.prog 145 D6n:=sm MO B2 (tc Tryz.call80 M3 (tc Tryz.call147 B2A A7)) Tryz.func145 (by kernel_rfl) (by decide) (D6o D3 A0D)
def D3p:Nat->Option Jn:=B4 [(3,⟨[],lt 6 28 [.b 4,.b 6,.t 3,.t 4],false⟩),(26,⟨[.t 10 false [.int .i64]],lt 11 23 [.b 4,.b 6,.t 3,.t 4,.t 6],false⟩),(13518,⟨[.t 23 false [.int .i64]],lt 24 9 [.b 6,.t 6],false⟩)]
abbrev C1t:List PK:= [.val true (.pair (.pair (.pair (.pair (.rs 9 .str) (.rs 9 .str)) (.pair (.int .i64) (.pair (.int .i64) (.rs 109 kUp)))) (.rs 130 A9)) (.pair (.rs 79 B3) (.pair (.rs 4 .bool) (.pair (.rs 113 E5) (.pair (.rs 130 A9) (.rs 3 (.int .i64))))))) false]
abbrev C1u:List RK:= [.val false .bool]
def C1v(f:A9C):Nat×Fn:=(78,⟨C1t,C1u,fun x=>f x.1⟩)
def D3q:Fn:=(C1v A4u).2
theorem D3r(f_i_ClientOk:T0):∀ x,(C4 cfg [A7a f_i_ClientOk] D3p 56 [.tmp 2] (Tryz.f78.body.getD .skip) C1t C1u).fn x=B3m f_i_ClientOk x.1:=by intro x;kernel_rfl
theorem D3s:B1 Tryz.prog 78 D3q:=sm MO B2 (tc Tryz.call145 B18 A7) Tryz.func78 (by kernel_rfl) (by decide) (D3r O5)
abbrev B7Q:List PK:= [.val false (.int .i64) false]
abbrev B7R:List RK:= [.val false .str,.val false (.int .i64)]
def B7S(f:A5f):Nat×Fn:=(146,⟨B7Q,B7R,fun x=>f x.1⟩)
def C8r:Fn:=(B7S A5g).2
theorem C8s:∀ x,(C4 cfg [] (B4 []) 11 [.tmp 2,.tmp 3] (Tryz.f146.body.getD .skip) B7Q B7R).fn x=B09 x.1:=by intro x;kernel_rfl
theorem C8t:B1 Tryz.prog 146 C8r:=sm MO B2 A7 Tryz.func146 (by kernel_rfl) (by decide) (C8s)
abbrev D5T:List PK:= [.val true A06 false]
abbrev D5U:List RK:= [.val false .bool]
def C6U(f:A8W):Nat×Fn:=(79,⟨D5T,D5U,fun x=>f x.1⟩)
def E5F:Fn:=(C6U A6J).2
theorem E5G(f_i_inRange:C8)(f_i_numberField:A5f)(f_i_idOk:A0c):∀ x,(C4 cfg [K7 f_i_inRange,B7S f_i_numberField,A9w f_i_idOk] (B4 []) 25 [.tmp 2] (Tryz.f79.body.getD .skip) D5T D5U).fn x=C5v f_i_inRange f_i_numberField f_i_idOk x.1:=by intro x;kernel_rfl
theorem D5V:B1 Tryz.prog 79 E5F:=sm MO B2 (tc Tryz.call80 M3 (tc Tryz.call146 C8t (tc Tryz.call147 B2A A7))) Tryz.func79 (by kernel_rfl) (by decide) (E5G D3 A5g A0D)
def E21:Nat->Option Jn:=B4 [(26,⟨[.t 9 false [.int .i64]],lt 10 18 [.b 6,.t 6],false⟩)]
abbrev D28:List PK:= [.val true (.pair (.pair (.pair (.pair (.rs 9 .str) (.rs 9 .str)) (.pair (.int .i64) (.pair (.int .i64) (.rs 109 kUp)))) (.rs 130 A9)) (.pair (.rs 79 B3) (.pair (.rs 4 .bool) (.pair (.rs 113 E5) (.pair (.rs 130 A9) (.rs 3 (.int .i64))))))) false,.val false (.rs 130 A9) false]
abbrev D29:List RK:= [.val false .bool]
def D2A(f:B67):Nat×Fn:=(81,⟨D28,D29,fun x=>f x.1 x.2.1⟩)
def E22:Fn:=(D2A B1h).2
theorem E23(f_i_inRange:C8)(f_i_RespOk:A1U):∀ x,(C4 cfg [K7 f_i_inRange,B6m f_i_RespOk] E21 28 [.tmp 4] (Tryz.f81.body.getD .skip) D28 D29).fn x=C2u f_i_inRange f_i_RespOk x.1 x.2.1:=by intro x;kernel_rfl
theorem E24:B1 Tryz.prog 81 E22:=sm MO B2 (tc Tryz.call80 M3 (tc Tryz.call93 C3R A7)) Tryz.func81 (by kernel_rfl) (by decide) (E23 D3 A0v)
def D9E:Nat->Option Jn:=B4 [(3,⟨[],lt 5 15 [],false⟩),(7,⟨[],lt 20 22 [.b 4,.t 4],false⟩),(58,⟨[.t 23 false [.int .i64]],lt 24 18 [.b 4,.t 4],false⟩)]
abbrev C7u:List PK:= [.val true (.pair (.pair (.pair (.pair (.rs 9 .str) (.rs 9 .str)) (.pair (.int .i64) (.pair (.int .i64) (.rs 109 kUp)))) (.rs 130 A9)) (.pair (.rs 79 B3) (.pair (.rs 4 .bool) (.pair (.rs 113 E5) (.pair (.rs 130 A9) (.rs 3 (.int .i64))))))) false]
abbrev C7v:List RK:= [.val false .bool]
def B9o(f:A6K):Nat×Fn:=(23,⟨C7u,C7v,fun x=>f x.1⟩)
def D9F:Fn:=(B9o A1J).2
theorem D9G(f_i_ServerOk:B0s)(f_i_clientsOk:A9C)(f_i_ReqOk:A8W)(f_i_inRange:C8)(f_i_heldOk:B67):∀ x,(C4 cfg [C4i f_i_ServerOk,C1v f_i_clientsOk,C6U f_i_ReqOk,K7 f_i_inRange,D2A f_i_heldOk] D9E 58 [.tmp 2] (Tryz.f23.body.getD .skip) C7u C7v).fn x=B8w f_i_ServerOk f_i_clientsOk f_i_ReqOk f_i_inRange f_i_heldOk x.1:=by intro x;kernel_rfl
theorem C7w:B1 Tryz.prog 23 D9F:=sm MO B2 (tc Tryz.call28 D6m (tc Tryz.call78 D3s (tc Tryz.call79 D5V (tc Tryz.call80 M3 (tc Tryz.call81 E24 A7))))) Tryz.func23 (by kernel_rfl) (by decide) (D9G A4P A4u A6J D3 B1h)
def D3t:Nat->Option Jn:=B4 [(58,⟨[.t 5 false [.int .i64]],lt 11 15 [],false⟩)]
abbrev C1w:List PK:= [.val false (.rs 5 (.int .u8)) false,.val false (.rs 5 (.int .u8)) false]
abbrev C20:List RK:= [.val false .bool]
def C21(f:A4v):Nat×Fn:=(95,⟨C1w,C20,fun x=>f x.1 x.2.1⟩)
def D3u:Fn:=(C21 A39).2
theorem D3v:∀ x,(C4 cfg [] D3t 26 [.tmp 4] (Tryz.f95.body.getD .skip) C1w C20).fn x=B3n x.1 x.2.1:=by intro x;kernel_rfl
theorem D3w:B1 Tryz.prog 95 D3u:=sm MO B2 A7 Tryz.func95 (by kernel_rfl) (by decide) (D3v)
def D9H:Nat->Option Jn:=B4 [(58,⟨[.t 5 false [.int .i64]],lt 11 57 [],false⟩)]
abbrev C80:List PK:= [.val false (.rs 109 kUp) false,.val false (.rs 109 kUp) false]
abbrev C81:List RK:= [.val false .bool]
def C82(f:B2n):Nat×Fn:=(29,⟨C80,C81,fun x=>f x.1 x.2.1⟩)
def D9I:Fn:=(C82 A9e).2
theorem D9J(f_w_sameBytes:A4v):∀ x,(C4 cfg [C21 f_w_sameBytes] D9H 68 [.tmp 4] (Tryz.f29.body.getD .skip) C80 C81).fn x=B90 f_w_sameBytes x.1 x.2.1:=by intro x;kernel_rfl
theorem D9K:B1 Tryz.prog 29 D9I:=sm MO B2 (tc Tryz.call95 D3w A7) Tryz.func29 (by kernel_rfl) (by decide) (D9J A39)
abbrev D2B:List PK:= [.val true (.pair .str (.pair (.int .i64) (.pair (.rs 5 (.int .u8)) .bool))) false]
abbrev D2C:List RK:= [.val true kUp]
def D2D(f:B1i):Nat×Fn:=(144,⟨D2B,D2C,fun x=>f x.1⟩)
def E25:Fn:=(D2D A8a).2
theorem E26(f_slices_Clone_byte_byte:D6):∀ x,(C4 cfg [L9 f_slices_Clone_byte_byte] (B4 []) 8 [.cell 2 109] (Tryz.f144.body.getD .skip) D2B D2C).fn x=C2v f_slices_Clone_byte_byte x.1:=by intro x;kernel_rfl
theorem E27:B1 Tryz.prog 144 E25:=sm MO B2 (tc Tryz.call191 Q5 A7) Tryz.func144 (by kernel_rfl) (by decide) (E26 D0)
abbrev A31:List PK:= [.val false (.rs 9 .str) false]
abbrev A32:List RK:= [.val false (.sl 9 .str)]
def A0W(f:I3):Nat×Fn:=(275,⟨A31,A32,fun x=>f x.1⟩)
def B0M:Fn:=(A0W G7).2
theorem B0N:∀ x,(C4 cfg [] (B4 []) 8 [.tmp 2] (Tryz.f275.body.getD .skip) A31 A32).fn x=A0R x.1:=by intro x;kernel_rfl
theorem A33:B1 Tryz.prog 275 B0M:=sm MO B2 A7 Tryz.func275 (by kernel_rfl) (by decide) (B0N)
abbrev C4l:List PK:= [.val true (.pair (.rs 9 .str) (.rs 9 .str)) false]
abbrev C4m:List RK:= [.val true A0C]
def B19(f:A1K):Nat×Fn:=(221,⟨C4l,C4m,fun x=>f x.1⟩)
def D6p:Fn:=(B19 A0d).2
theorem D6q(f_slices_Clone_string_string:I3):∀ x,(C4 cfg [A0W f_slices_Clone_string_string] (B4 []) 10 [.cell 2 26] (Tryz.f221.body.getD .skip) C4l C4m).fn x=B68 f_slices_Clone_string_string x.1:=by intro x;kernel_rfl
theorem B6q:B1 Tryz.prog 221 D6p:=sm MO B2 (tc Tryz.call275 A33 A7) Tryz.func221 (by kernel_rfl) (by decide) (D6q G7)
def D40:Nat->Option Jn:=B4 [(58,⟨[.t 17 false [.int .i64],.b 3 [.own 36864,.own 36865,.int .i64,.int .i64,.own 100000000],.r 36864 9 .str,.r 36865 9 .str,.r 100000000 109 kUp],lt 18 11 [.b 5,.r 25,.r 26,.r 102402,.t 5],false⟩)]
abbrev C22:List PK:= [.val true (.pair (.pair (.rs 9 .str) (.rs 9 .str)) (.pair (.int .i64) (.pair (.int .i64) (.rs 109 kUp)))) false]
abbrev C23:List RK:= [.val true B1a]
def C24(f:A9F):Nat×Fn:=(154,⟨C22,C23,fun x=>f x.1⟩)
def D41:Fn:=(C24 A4w).2
theorem D42(f_i_copyUp:B1i)(f_i_copyDisk:A1K):∀ x,(C4 cfg [D2D f_i_copyUp,B19 f_i_copyDisk] D40 30 [.cell 2 29] (Tryz.f154.body.getD .skip) C22 C23).fn x=B3o f_i_copyUp f_i_copyDisk x.1:=by intro x;kernel_rfl
theorem D43:B1 Tryz.prog 154 D41:=sm MO B2 (tc Tryz.call144 E27 (tc Tryz.call221 B6q A7)) Tryz.func154 (by kernel_rfl) (by decide) (D42 A8a A0d)
abbrev A13:List PK:= [.val false (.rs 130 A9) false]
abbrev A14:List RK:= [.val false (.sl 130 A9)]
def R5(f:G2):Nat×Fn:=(155,⟨A13,A14,fun x=>f x.1⟩)
def A69:Fn:=(R5 E4).2
theorem A6A:∀ x,(C4 cfg [] (B4 []) 8 [.tmp 2] (Tryz.f155.body.getD .skip) A13 A14).fn x=R2 x.1:=by intro x;kernel_rfl
theorem A15:B1 Tryz.prog 155 A69:=sm MO B2 A7 Tryz.func155 (by kernel_rfl) (by decide) (A6A)
abbrev B9p:List PK:= [.val true (.pair (.pair (.pair (.rs 9 .str) (.rs 9 .str)) (.pair (.int .i64) (.pair (.int .i64) (.rs 109 kUp)))) (.rs 130 A9)) false]
abbrev B9q:List RK:= [.val true A6s]
def B9r(f:A70):Nat×Fn:=(87,⟨B9p,B9q,fun x=>f x.1⟩)
def D2E:Fn:=(B9r A3q).2
theorem D2F(f_i_copyStore:A9F)(f_slices_Clone_impl_Held_impl_Held:G2):∀ x,(C4 cfg [C24 f_i_copyStore,R5 f_slices_Clone_impl_Held_impl_Held] (B4 []) 10 [.cell 2 32] (Tryz.f87.body.getD .skip) B9p B9q).fn x=B1j f_i_copyStore f_slices_Clone_impl_Held_impl_Held x.1:=by intro x;kernel_rfl
theorem D2G:B1 Tryz.prog 87 D2E:=sm MO B2 (tc Tryz.call154 D43 (tc Tryz.call155 A15 A7)) Tryz.func87 (by kernel_rfl) (by decide) (D2F A4w E4)
abbrev A5P:List PK:= [.val false (.rs 4 .bool) false]
abbrev A5Q:List RK:= [.val false (.sl 4 .bool)]
def A5R(f:A07):Nat×Fn:=(188,⟨A5P,A5Q,fun x=>f x.1⟩)
def B44:Fn:=(A5R Q0).2
theorem B45:∀ x,(C4 cfg [] (B4 []) 8 [.tmp 2] (Tryz.f188.body.getD .skip) A5P A5Q).fn x=A1W x.1:=by intro x;kernel_rfl
theorem B46:B1 Tryz.prog 188 B44:=sm MO B2 A7 Tryz.func188 (by kernel_rfl) (by decide) (B45)
abbrev A7b:List PK:= [.val false (.rs 3 (.int .i64)) false]
abbrev A7c:List RK:= [.val false (.sl 3 (.int .i64))]
def A7d(f:A0e):Nat×Fn:=(189,⟨A7b,A7c,fun x=>f x.1⟩)
def B6r:Fn:=(A7d T1).2
theorem B6s:∀ x,(C4 cfg [] (B4 []) 8 [.tmp 2] (Tryz.f189.body.getD .skip) A7b A7c).fn x=A2O x.1:=by intro x;kernel_rfl
theorem B6t:B1 Tryz.prog 189 B6r:=sm MO B2 A7 Tryz.func189 (by kernel_rfl) (by decide) (B6s)
abbrev B9s:List PK:= [.val true (.pair .str (.pair (.rs 5 (.int .u8)) D8)) false]
abbrev B9t:List RK:= [.val true B3]
def A7e(f:T2):Nat×Fn:=(190,⟨B9s,B9t,fun x=>f x.1⟩)
def D2H:Fn:=(A7e N9).2
theorem D2I(f_slices_Clone_byte_byte:D6):∀ x,(C4 cfg [L9 f_slices_Clone_byte_byte] (B4 []) 8 [.cell 2 79] (Tryz.f190.body.getD .skip) B9s B9t).fn x=B1k f_slices_Clone_byte_byte x.1:=by intro x;kernel_rfl
theorem B2B:B1 Tryz.prog 190 D2H:=sm MO B2 (tc Tryz.call191 Q5 A7) Tryz.func190 (by kernel_rfl) (by decide) (D2I D0)
def D44:Nat->Option Jn:=B4 [(7,⟨[.b 3 [.own 45056,.own 45057,.int .i64,.int .i64,.own 45060,.own 45061,.own 100000000,.own 57344,.nil,.own 69632,.own 81920],.r 45056 9 .str,.r 45057 9 .str,.r 45060 109 kUp,.r 45061 130 A9,.r 57344 4 .bool,.r 69632 130 A9,.r 81920 3 (.int .i64),.r 100000000 79 B3],lt 21 15 [.b 5,.r 32,.r 33,.r 131073,.t 5],true⟩),(58,⟨[.t 24 false [.int .i64],.b 3 [.own 45056,.own 45057,.int .i64,.int .i64,.own 45060,.own 45061,.own 100000000,.own 57344,.nil,.own 69632,.own 81920],.r 45056 9 .str,.r 45057 9 .str,.r 45060 109 kUp,.r 45061 130 A9,.r 57344 4 .bool,.r 69632 130 A9,.r 81920 3 (.int .i64),.r 100000000 79 B3],lt 25 11 [.b 5,.r 32,.r 33,.r 131073,.t 5],false⟩),(122,⟨[.t 39 false [.int .i64],.b 3 [.own 45056,.own 45057,.int .i64,.int .i64,.own 45060,.own 45061,.own 100000000,.own 57344,.own 100002001,.own 69632,.own 81920],.r 45056 9 .str,.r 45057 9 .str,.r 45060 109 kUp,.r 45061 130 A9,.r 57344 4 .bool,.r 69632 130 A9,.r 81920 3 (.int .i64),.r 100000000 79 B3,.r 100002001 113 E5],lt 40 14 [.b 7,.r 50,.r 51,.r 188416,.t 7],false⟩)]
abbrev C25:List PK:= [.val true (.pair (.pair (.pair (.pair (.rs 9 .str) (.rs 9 .str)) (.pair (.int .i64) (.pair (.int .i64) (.rs 109 kUp)))) (.rs 130 A9)) (.pair (.rs 79 B3) (.pair (.rs 4 .bool) (.pair (.rs 113 E5) (.pair (.rs 130 A9) (.rs 3 (.int .i64))))))) false]
abbrev C26:List RK:= [.val true A6t]
def C27(f:A9G):Nat×Fn:=(107,⟨C25,C26,fun x=>f x.1⟩)
def D45:Fn:=(C27 A50).2
theorem D46(f_i_copyServer:A70)(f_slices_Clone_impl_Held_impl_Held:G2)(f_slices_Clone_bool_bool:A07)(f_slices_Clone_int_int:A0e)(f_i_copyClient:T2)(f_slices_Clone_byte_byte:D6):∀ x,(C4 cfg [B9r f_i_copyServer,R5 f_slices_Clone_impl_Held_impl_Held,A5R f_slices_Clone_bool_bool,A7d f_slices_Clone_int_int,A7e f_i_copyClient,L9 f_slices_Clone_byte_byte] D44 55 [.cell 2 38] (Tryz.f107.body.getD .skip) C25 C26).fn x=B3p f_i_copyServer f_slices_Clone_impl_Held_impl_Held f_slices_Clone_bool_bool f_slices_Clone_int_int f_i_copyClient f_slices_Clone_byte_byte x.1:=by intro x;kernel_rfl
theorem D47:B1 Tryz.prog 107 D45:=sm MO B2 (tc Tryz.call87 D2G (tc Tryz.call155 A15 (tc Tryz.call188 B46 (tc Tryz.call189 B6t (tc Tryz.call190 B2B (tc Tryz.call191 Q5 A7)))))) Tryz.func107 (by kernel_rfl) (by decide) (D46 A3q E4 Q0 T1 N9 D0)
abbrev A7f:List PK:= [.ptr (.pair .str (.pair (.rs 5 (.int .u8)) D8))]
abbrev A7g:List RK:= [.val false .bool]
def A0m(f:P4):Nat×Fn:=(295,⟨A7f,A7g,fun x=>f x.1⟩)
def B6u:Fn:=(A0m M7).2
theorem B6v:∀ x,(C4 cfg [] (B4 []) 15 [.tmp 2] (Tryz.f295.body.getD .skip) A7f A7g).fn x=A71 x.1:=by intro x;kernel_rfl
theorem A2i:B1 Tryz.prog 295 B6u:=sm MO B2 A7 Tryz.func295 (by kernel_rfl) (by decide) (B6v)
def D9L:Nat->Option Jn:=B4 [(3,⟨[.b 1 [.str,.ro 5 (.int .u8),.int .i64,.int .i64]],lt 6 6 [],false⟩)]
abbrev C83:List PK:= [.val true (.pair .str (.pair (.rs 5 (.int .u8)) D8)) false]
abbrev C84:List RK:= [.val true A06,.val false (.sl 5 (.int .u8)),.val false .bool]
def C85(f:B2o):Nat×Fn:=(259,⟨C83,C84,fun x=>f x.1⟩)
def D9M:Fn:=(C85 A9f).2
theorem D9N(f_i_ClientOk:T0)(f_slices_Clone_byte_byte:D6)(f_i_Crc:B2l)(f_i_Client_isOver:P4):∀ x,(C4 cfg [A7a f_i_ClientOk,L9 f_slices_Clone_byte_byte,D08 f_i_Crc,A0m f_i_Client_isOver] D9L 55 [.cell 2 43,.tmp 3,.tmp 4] (Tryz.f259.body.getD .skip) C83 C84).fn x=B91 f_i_ClientOk f_slices_Clone_byte_byte f_i_Crc f_i_Client_isOver x.1:=by intro x;kernel_rfl
theorem D9O:B1 Tryz.prog 259 D9M:=sm MO B2 (tc Tryz.call145 B18 (tc Tryz.call191 Q5 (tc Tryz.call280 D6c (tc Tryz.call295 A2i A7)))) Tryz.func259 (by kernel_rfl) (by decide) (D9N O5 D0 B0r M7)
def D2J:Nat->Option Jn:=B4 [(3,⟨[],lt 8 26 [.x 23],false⟩)]
abbrev B9u:List PK:= [.ptr A6t,.val false (.int .i64) false]
abbrev B9v:List RK:= [.val false .bool]
def B9w(f:A72):Nat×Fn:=(200,⟨B9u,B9v,fun x=>f x.1 x.2.1⟩)
def D2K:Fn:=(B9w A3r).2
theorem D2L(f_i_inRange:C8)(f_i_NextReq:B2o):∀ x,(C4 cfg [K7 f_i_inRange,C85 f_i_NextReq] D2J 67 [.tmp 4] (Tryz.f200.body.getD .skip) B9u B9v).fn x=B1l f_i_inRange f_i_NextReq x.1 x.2.1:=by intro x;kernel_rfl
theorem D2M:B1 Tryz.prog 200 D2K:=sm MO B2 (tc Tryz.call80 M3 (tc Tryz.call259 D9O A7)) Tryz.func200 (by kernel_rfl) (by decide) (D2L D3 A9f)
abbrev C00:List PK:= [.ptr B1a]
abbrev C01:List RK:= [.val false (.int .i64)]
def A4D(f:Q1):Nat×Fn:=(277,⟨C00,C01,fun x=>f x.1⟩)
def D2N:Fn:=(A4D O0).2
theorem D2O:∀ x,(C4 cfg [] (B4 []) 14 [.tmp 2] (Tryz.f277.body.getD .skip) C00 C01).fn x=B1m x.1:=by intro x;kernel_rfl
theorem A7h:B1 Tryz.prog 277 D2N:=sm MO B2 A7 Tryz.func277 (by kernel_rfl) (by decide) (D2O)
abbrev A8F:List PK:= [.ptr B1a,.val false (.int .i64) false,.val false .str false,.val false (.int .i64) false,.val false (.rs 5 (.int .u8)) false]
abbrev A8G:List RK:= []
def W9(f:G1):Nat×Fn:=(278,⟨A8F,A8G,fun x=>f x.1 x.2.1 x.2.2.1 x.2.2.2.1 x.2.2.2.2.1⟩)
def B8L:Fn:=(W9 D5).2
theorem B8M(f_i_fold:B1e)(f_i_PutRec:A8V):∀ x,(C4 cfg [D24 f_i_fold,C3T f_i_PutRec] (B4 []) 59 [] (Tryz.f278.body.getD .skip) A8F A8G).fn x=A3G f_i_fold f_i_PutRec x.1 x.2.1 x.2.2.1 x.2.2.2.1 x.2.2.2.2.1:=by intro x;kernel_rfl
theorem A1C:B1 Tryz.prog 278 B8L:=sm MO B2 (tc Tryz.call239 D96 (tc Tryz.call288 D20 A7)) Tryz.func278 (by kernel_rfl) (by decide) (B8M A9d A5u)
end
end Go.Proofs.YtpdcljonclhhpaaGreat.Ev
