/- Each function of the program does what its plain function says. -/
import Derived.Test.YtpdcljonclhhpaaGreatTy
import Derived.Test.YtpdcljonclhhpaaGreatPu
import Derived.Test.YtpdcljonclhhpaaGreatIns
import Derived.Test.YtpdcljonclhhpaaGreatDelF
import Derived.Test.YtpdcljonclhhpaaGreatChunk
set_option maxRecDepth 100000
namespace Go.Proofs.YtpdcljonclhhpaaGreat.Ev
abbrev A4w:List PK:= [.val false (.sl 109 kUp) false,.val false (.int .i64) false,.val false (.sl 109 kUp) false]
abbrev A4x:List RK:= [.val false (.sl 109 kUp)]
noncomputable def Y2(f:J7):Nat×Fn:=(290,⟨A4w,A4x,fun x=>f x.1 x.2.1 x.2.2.1⟩)
noncomputable def A4y:Fn:=(Y2 J8).2
theorem A4z:B0 Tryz.prog 290 A4y:=D5d kUp (by decide)
abbrev A50:List PK:= [.val false (.sl 109 kUp) false,.val false (.int .i64) false,.val false (.int .i64) false]
abbrev A51:List RK:= [.val false (.sl 109 kUp)]
noncomputable def Y3(f:J9):Nat×Fn:=(291,⟨A50,A51,fun x=>f x.1 x.2.1 x.2.2.1⟩)
noncomputable def A52:Fn:=(Y3 K0).2
theorem A53:B0 Tryz.prog 291 A52:=D5b kUp (by decide)
abbrev A2V:List PK:= [.val false (.sl 113 B7) false,.val false (.int .i64) false,.val false (.int .i64) false]
abbrev A2W:List RK:= [.val false (.sl 113 B7)]
noncomputable def T5(f:H7):Nat×Fn:=(260,⟨A2V,A2W,fun x=>f x.1 x.2.1 x.2.2.1⟩)
noncomputable def A2X:Fn:=(T5 H8).2
theorem A2Y:B0 Tryz.prog 260 A2X:=C1R B7 (by decide)
abbrev A2Z:List PK:= [.val false (.sl 130 A9) false,.val false (.int .i64) false,.val false (.int .i64) false]
abbrev A2a:List RK:= [.val false (.sl 130 A9)]
noncomputable def T6(f:H9):Nat×Fn:=(262,⟨A2Z,A2a,fun x=>f x.1 x.2.1 x.2.2.1⟩)
noncomputable def A2b:Fn:=(T6 I0).2
theorem A2c:B0 Tryz.prog 262 A2b:=C1S A9 (by decide)
abbrev A0v:List PK:= [.val false (.sl 113 B7) false,.ptr (.int .i64)]
abbrev A0w:List RK:= [.val false (.sl 113 B7)]
noncomputable def Q0(f:G3):Nat×Fn:=(267000265,⟨A0v,A0w,fun x=>f x.1 x.2.1⟩)
noncomputable def A0x:Fn:=(Q0 G4).2
theorem A0y:B9l Tryz.prog 265 266 A0x:=B4l (.pair L5 (.sl 5 (.int .u8))) (by decide)
abbrev A0z:List PK:= [.val false (.sl 130 A9) false,.ptr (.int .i64)]
abbrev A10:List RK:= [.val false (.sl 130 A9)]
noncomputable def Q1(f:G5):Nat×Fn:=(265000267,⟨A0z,A10,fun x=>f x.1 x.2.1⟩)
noncomputable def A11:Fn:=(Q1 G6).2
theorem A12:B9l Tryz.prog 267 264 A11:=B4k E9 (by decide)
abbrev C4j:List PK:= [.val false (.int .i64) false,.val false (.int .i64) false,.val false (.int .i64) false]
abbrev C4k:List RK:= [.val false .bool]
noncomputable def I2(f:C4):Nat×Fn:=(80,⟨C4j,C4k,fun x=>f x.1 x.2.1 x.2.2.1⟩)
noncomputable def D8U:Fn:=(I2 C7).2
theorem D8V:∀ x,(B6 cfg [] (B3 []) 15 [.tmp 6] (Tryz.f80.body.getD .skip) C4j C4k).fn x=C4U x.1 x.2.1 x.2.2.1:=by intro x;kernel_rfl
theorem J1:B0 Tryz.prog 80 D8U:=sm MO A6 A5 Tryz.func80 (by kernel_rfl) (by decide) (D8V)
abbrev C9I:List PK:= [.val true E9 false]
abbrev C9J:List RK:= [.val false .bool]
noncomputable def B3q(f:X6):Nat×Fn:=(93,⟨C9I,C9J,fun x=>f x.1⟩)
noncomputable def E28:Fn:=(B3q T9).2
theorem E29(f_i_inRange:C4):∀ x,(B6 cfg [I2 f_i_inRange] (B3 []) 11 [.tmp 2] (Tryz.f93.body.getD .skip) C9I C9J).fn x=B9p f_i_inRange x.1:=by intro x;kernel_rfl
theorem C0Q:B0 Tryz.prog 93 E28:=sm MO A6 (tc Tryz.call80 J1 A5) Tryz.func93 (by kernel_rfl) (by decide) (E29 C7)
abbrev C4l:List PK:= [.val false (.int .i64) false]
abbrev C4m:List RK:= [.val false .bool]
noncomputable def B6B(f:A3V):Nat×Fn:=(168,⟨C4l,C4m,fun x=>f x.1⟩)
noncomputable def D8W:Fn:=(B6B A16).2
theorem D8X(f_i_inRange:C4):∀ x,(B6 cfg [I2 f_i_inRange] (B3 []) 5 [.tmp 2] (Tryz.f168.body.getD .skip) C4l C4m).fn x=A9X f_i_inRange x.1:=by intro x;kernel_rfl
theorem C4n:B0 Tryz.prog 168 D8W:=sm MO A6 (tc Tryz.call80 J1 A5) Tryz.func168 (by kernel_rfl) (by decide) (D8X C7)
def E2A:Nat→Option Jn:=B3 [(3,⟨[],lt 4 13 [],false⟩),(58,⟨[.t 20 false [.int .i64]],lt 21 19 [.t 3],false⟩)]
abbrev C9K:List PK:= [.val true (.pair (.rs 9 .str) (.rs 9 .str)) false]
abbrev C9L:List RK:= [.val false .bool]
noncomputable def B3r(f:A17):Nat×Fn:=(169,⟨C9K,C9L,fun x=>f x.1⟩)
noncomputable def E2B:Fn:=(B3r A18).2
theorem E2C:∀ x,(B6 cfg [] E2A 40 [.tmp 2] (Tryz.f169.body.getD .skip) C9K C9L).fn x=C8J x.1:=by intro x;kernel_rfl
theorem C0R:B0 Tryz.prog 169 E2B:=sm MO A6 A5 Tryz.func169 (by kernel_rfl) (by decide) (E2C)
def E2D:Nat→Option Jn:=B3 [(3,⟨[],lt 11 15 [],false⟩),(15,⟨[.t 8 false [.int .i64]],lt 26 17 [.t 10],true⟩),(122,⟨[.t 8 false [.int .i64],.t 33 false [.int .i64]],lt 34 9 [.t 10],false⟩)]
abbrev C9M:List PK:= [.val false (.rs 5 (.int .u8)) false,.val false (.int .i64) false,.val false (.int .i64) false]
abbrev C9N:List RK:= [.val false (.int .i64),.val false .bool]
noncomputable def C9O(f:B2q):Nat×Fn:=(307,⟨C9M,C9N,fun x=>f x.1 x.2.1 x.2.2.1⟩)
noncomputable def E2E:Fn:=(C9O A8K).2
theorem E2F(f_i_inRange:C4):∀ x,(B6 cfg [I2 f_i_inRange] E2D 44 [.tmp 6,.tmp 7] (Tryz.f307.body.getD .skip) C9M C9N).fn x=B9q f_i_inRange x.1 x.2.1 x.2.2.1:=by intro x;kernel_rfl
theorem E2G:B0 Tryz.prog 307 E2E:=sm MO A6 (tc Tryz.call80 J1 A5) Tryz.func307 (by kernel_rfl) (by decide) (E2F C7)
def B4m:Nat→Option Jn:=B3 [(7,⟨[],lt 20 8 [],false⟩)]
abbrev A5A:List PK:= [.ptr A9W,.val false (.int .i64) false]
abbrev A5B:List RK:= [.val false (.int .i64)]
noncomputable def A5C(f:U9):Nat×Fn:=(285,⟨A5A,A5B,fun x=>f x.1 x.2.1⟩)
noncomputable def B4n:Fn:=(A5C D7).2
theorem B4o(f_i_GetBig:B2q):∀ x,(B6 cfg [C9O f_i_GetBig] B4m 40 [.tmp 4] (Tryz.f285.body.getD .skip) A5A A5B).fn x=P4 f_i_GetBig x.1 x.2.1:=by intro x;kernel_rfl
theorem B4p:B0 Tryz.prog 285 B4n:=sm MO A6 (tc Tryz.call307 E2G A5) Tryz.func285 (by kernel_rfl) (by decide) (B4o A8K)
abbrev A2d:List PK:= [.val false (.rs 5 (.int .u8)) false]
abbrev A2e:List RK:= [.val false (.sl 5 (.int .u8))]
noncomputable def J0(f:D0):Nat×Fn:=(191,⟨A2d,A2e,fun x=>f x.1⟩)
noncomputable def B1I:Fn:=(J0 C6).2
theorem B1J:∀ x,(B6 cfg [] (B3 []) 8 [.tmp 2] (Tryz.f191.body.getD .skip) A2d A2e).fn x=X7 x.1:=by intro x;kernel_rfl
theorem M1:B0 Tryz.prog 191 B1I:=sm MO A6 A5 Tryz.func191 (by kernel_rfl) (by decide) (B1J)
def B7f:Nat→Option Jn:=B3 [(3,⟨[],lt 5 18 [],false⟩)]
abbrev A7S:List PK:= [.ptr A9W,.val false (.int .i64) false]
abbrev A7T:List RK:= [.val false (.sl 5 (.int .u8))]
noncomputable def A7U(f:Y6):Nat×Fn:=(286,⟨A7S,A7T,fun x=>f x.1 x.2.1⟩)
noncomputable def B7g:Fn:=(A7U H2).2
theorem B7h(f_slices_Clone_byte_byte:D0):∀ x,(B6 cfg [J0 f_slices_Clone_byte_byte] B7f 50 [.tmp 4] (Tryz.f286.body.getD .skip) A7S A7T).fn x=S1 f_slices_Clone_byte_byte x.1 x.2.1:=by intro x;kernel_rfl
theorem B7i:B0 Tryz.prog 286 B7g:=sm MO A6 (tc Tryz.call191 M1 A5) Tryz.func286 (by kernel_rfl) (by decide) (B7h C6)
def E8G:Nat→Option Jn:=B3 [(3,⟨[],lt 3 30 [],false⟩),(26,⟨[.t 3 false [.int .i64]],lt 4 29 [],false⟩)]
abbrev D8Y:List PK:= [.val false .str false]
abbrev D8Z:List RK:= [.val false .bool]
noncomputable def A71(f:S2):Nat×Fn:=(147,⟨D8Y,D8Z,fun x=>f x.1⟩)
noncomputable def E8H:Fn:=(A71 Q5).2
theorem E8I(f_i_inRange:C4):∀ x,(B6 cfg [I2 f_i_inRange] E8G 36 [.tmp 2] (Tryz.f147.body.getD .skip) D8Y D8Z).fn x=C8K f_i_inRange x.1:=by intro x;kernel_rfl
theorem A96:B0 Tryz.prog 147 E8H:=sm MO A6 (tc Tryz.call80 J1 A5) Tryz.func147 (by kernel_rfl) (by decide) (E8I C7)
def E5t:Nat→Option Jn:=B3 [(3,⟨[],lt 3 22 [],false⟩)]
abbrev D4G:List PK:= [.val true (.pair (.int .i64) (.pair (.int .i64) (.pair (.int .i64) (.pair .str (.pair (.int .i64) (.rs 5 (.int .u8))))))) false]
abbrev D4H:List RK:= [.val false .bool]
noncomputable def C3h(f:A85):Nat×Fn:=(287,⟨D4G,D4H,fun x=>f x.1⟩)
noncomputable def E5u:Fn:=(C3h A5K).2
theorem E5v(f_i_inRange:C4)(f_i_idOk:S2)(f_i_isEpoch:A3V):∀ x,(B6 cfg [I2 f_i_inRange,A71 f_i_idOk,B6B f_i_isEpoch] E5t 58 [.tmp 2] (Tryz.f287.body.getD .skip) D4G D4H).fn x=C3B f_i_inRange f_i_idOk f_i_isEpoch x.1:=by intro x;kernel_rfl
theorem D4I:B0 Tryz.prog 287 E5u:=sm MO A6 (tc Tryz.call80 J1 (tc Tryz.call147 A96 (tc Tryz.call168 C4n A5))) Tryz.func287 (by kernel_rfl) (by decide) (E5v C7 Q5 A16)
def E9l:Nat→Option Jn:=B3 [(7,⟨[.t 3 false [.int .u32]],lt 5 24 [],true⟩),(58,⟨[.t 3 false [.int .u32],.t 9 false [.int .i64]],lt 10 19 [.t 5,.t 6],false⟩),(29902,⟨[.t 3 false [.int .u32],.t 17 false [.int .i64]],lt 18 10 [.t 6],false⟩)]
abbrev E4a:List PK:= [.val false (.rs 5 (.int .u8)) false]
abbrev E4b:List RK:= [.val false (.int .i64)]
noncomputable def C7e(f:A9Y):Nat×Fn:=(280,⟨E4a,E4b,fun x=>f x.1⟩)
noncomputable def E9m:Fn:=(C7e A7b).2
theorem E9n:∀ x,(B6 cfg [] E9l 32 [.tmp 2] (Tryz.f280.body.getD .skip) E4a E4b).fn x=D59 x.1:=by intro x;kernel_rfl
theorem D5h:B0 Tryz.prog 280 E9m:=sm MO A6 A5 Tryz.func280 (by kernel_rfl) (by decide) (E9n)
def E2H:Nat→Option Jn:=B3 [(58,⟨[.t 0 false [.own 100000000],.t 7 false [.int .i64],.r 100000000 5 (.int .u8)],lt 12 13 [.r 23,.r 24,.r 1000],false⟩)]
abbrev C9P:List PK:= [.val false (.sl 5 (.int .u8)) false,.val false (.int .i64) false,.val false (.int .i64) false]
abbrev C9Q:List RK:= [.val false (.sl 5 (.int .u8))]
noncomputable def C9R(f:B2t):Nat×Fn:=(308,⟨C9P,C9Q,fun x=>f x.1 x.2.1 x.2.2.1⟩)
noncomputable def E2I:Fn:=(C9R A8L).2
theorem E2J:∀ x,(B6 cfg [] E2H 26 [.tmp 6] (Tryz.f308.body.getD .skip) C9P C9Q).fn x=B9r x.1 x.2.1 x.2.2.1:=by intro x;kernel_rfl
theorem E2K:B0 Tryz.prog 308 E2I:=sm MO A6 A5 Tryz.func308 (by kernel_rfl) (by decide) (E2J)
abbrev C9S:List PK:= [.val true (.pair (.int .i64) (.pair (.int .i64) (.pair (.int .i64) (.pair .str (.pair (.int .i64) (.rs 5 (.int .u8))))))) false]
abbrev C9T:List RK:= [.val false .str]
noncomputable def C0S(f:A5L):Nat×Fn:=(288,⟨C9S,C9T,fun x=>f x.1⟩)
noncomputable def E2L:Fn:=(C0S A3F).2
theorem E2M(f_i_Crc:A9Y)(f_i_RecOk:A85)(f_i_putBig:B2t):∀ x,(B6 cfg [C7e f_i_Crc,C3h f_i_RecOk,C9R f_i_putBig] (B3 []) 45 [.tmp 2] (Tryz.f288.body.getD .skip) C9S C9T).fn x=B9s f_i_Crc f_i_RecOk f_i_putBig x.1:=by intro x;kernel_rfl
theorem C9U:B0 Tryz.prog 288 E2L:=sm MO A6 (tc Tryz.call280 D5h (tc Tryz.call287 D4I (tc Tryz.call308 E2K A5))) Tryz.func288 (by kernel_rfl) (by decide) (E2M A7b A5K A8L)
abbrev C9V:List PK:= [.val false .str false]
abbrev C9W:List RK:= [.val true A7a,.val false .bool]
noncomputable def C0T(f:A19):Nat×Fn:=(238,⟨C9V,C9W,fun x=>f x.1⟩)
noncomputable def E2N:Fn:=(C0T A0A).2
theorem E2O(f_i_byteReader_number:U9)(f_i_byteReader_take:Y6)(f_i_RecOk:A85)(f_i_PutRec:A5L):∀ x,(B6 cfg [A5C f_i_byteReader_number,A7U f_i_byteReader_take,C3h f_i_RecOk,C0S f_i_PutRec] (B3 []) 42 [.cell 2 194,.tmp 3] (Tryz.f238.body.getD .skip) C9V C9W).fn x=B9t f_i_byteReader_number f_i_byteReader_take f_i_RecOk f_i_PutRec x.1:=by intro x;kernel_rfl
theorem C9X:B0 Tryz.prog 238 E2N:=sm MO A6 (tc Tryz.call285 B4p (tc Tryz.call286 B7i (tc Tryz.call287 D4I (tc Tryz.call288 C9U A5)))) Tryz.func238 (by kernel_rfl) (by decide) (E2O D7 H2 A5K A3F)
def D5i:Nat→Option Jn:=B3 [(122,⟨[.t 3 false [.own 100000000],.t 4 false [.int .i64],.t 12 false [.int .i64],.r 100000000 194 A7a],lt 13 30 (lt 5 4 [.b 7,.r 38,.r 39,.r 81925]),false⟩)]
abbrev C1T:List PK:= [.val true (.pair (.rs 9 .str) (.rs 9 .str)) false]
abbrev C1U:List RK:= [.val false (.sl 194 A7a)]
noncomputable def B3s(f:A1m):Nat×Fn:=(170,⟨C1T,C1U,fun x=>f x.1⟩)
noncomputable def D5j:Fn:=(B3s A0B).2
theorem D5k(f_i_GetRec:A19):∀ x,(B6 cfg [C0T f_i_GetRec] D5i 44 [.tmp 2] (Tryz.f170.body.getD .skip) C1T C1U).fn x=B2u f_i_GetRec x.1:=by intro x;kernel_rfl
theorem C1V:B0 Tryz.prog 170 D5j:=sm MO A6 (tc Tryz.call238 C9X A5) Tryz.func170 (by kernel_rfl) (by decide) (D5k A0A)
def E8J:Nat→Option Jn:=B3 [(7,⟨[.t 6 false [.int .i64]],lt 7 15 [],true⟩),(28,⟨[.t 6 false [.int .i64]],lt 7 15 [],false⟩)]
abbrev D8a:List PK:= [.val false (.rs 109 kUp) false,.val false .str false]
abbrev D8b:List RK:= [.val false (.int .i64),.val false .bool]
noncomputable def D8c(f:C10):Nat×Fn:=(289,⟨D8a,D8b,fun x=>f x.1 x.2.1⟩)
noncomputable def E8K:Fn:=(D8c A1A).2
theorem E8L:∀ x,(B6 cfg [] E8J 36 [.tmp 4,.tmp 5] (Tryz.f289.body.getD .skip) D8a D8b).fn x=C11 x.1 x.2.1:=by intro x;kernel_rfl
theorem D8d:B0 Tryz.prog 289 E8K:=sm MO A6 A5 Tryz.func289 (by kernel_rfl) (by decide) (E8L)
def E8M:Nat→Option Jn:=B3 [(58,⟨[],lt 19 6 [],false⟩),(2026,⟨[],lt 43 30 [],false⟩)]
abbrev D8e:List PK:= [.val false (.sl 109 kUp) false,.val true (.pair (.int .i64) (.pair (.int .i64) (.pair (.int .i64) (.pair .str (.pair (.int .i64) (.rs 5 (.int .u8))))))) false]
abbrev D8f:List RK:= [.val false (.sl 109 kUp),.val false .bool]
noncomputable def C9Y(f:A8N):Nat×Fn:=(239,⟨D8e,D8f,fun x=>f x.1 x.2.1⟩)
noncomputable def E8N:Fn:=(C9Y A6Z).2
theorem E8O(f_i_upAt:C10)(f_slices_Insert_impl_Up_impl_Up:J7)(f_slices_Delete_impl_Up_impl_Up:J9):∀ x,(B6 cfg [D8c f_i_upAt,Y2 f_slices_Insert_impl_Up_impl_Up,Y3 f_slices_Delete_impl_Up_impl_Up] E8M 113 [.tmp 4,.tmp 5] (Tryz.f239.body.getD .skip) D8e D8f).fn x=C8L f_i_upAt f_slices_Insert_impl_Up_impl_Up f_slices_Delete_impl_Up_impl_Up x.1 x.2.1:=by intro x;kernel_rfl
theorem D8g:B0 Tryz.prog 239 E8N:=sm MO A6 (tc Tryz.call289 D8d (tc Tryz.call290 A4z (tc Tryz.call291 A53 A5))) Tryz.func239 (by kernel_rfl) (by decide) (E8O A1A J8 K0)
def D5l:Nat→Option Jn:=B3 [(7,⟨[.t 4 false [.own 100000000],.r 100000000 109 kUp],lt 6 19 [.b 6,.r 77824],false⟩),(58,⟨[.t 4 false [.own 100000000],.t 11 false [.int .i64],.r 100000000 109 kUp],lt 12 13 (lt 6 3 [.b 6,.r 77824]),false⟩)]
abbrev C1W:List PK:= [.val false (.rs 194 A7a) false]
abbrev C1X:List RK:= [.val false (.sl 109 kUp),.val false .bool]
noncomputable def B3t(f:A1n):Nat×Fn:=(171,⟨C1W,C1X,fun x=>f x.1⟩)
noncomputable def D5m:Fn:=(B3t A0C).2
theorem D5n(f_i_fold:A8N):∀ x,(B6 cfg [C9Y f_i_fold] D5l 26 [.tmp 2,.tmp 3] (Tryz.f171.body.getD .skip) C1W C1X).fn x=B2v f_i_fold x.1:=by intro x;kernel_rfl
theorem C1Y:B0 Tryz.prog 171 D5m:=sm MO A6 (tc Tryz.call239 D8g A5) Tryz.func171 (by kernel_rfl) (by decide) (D5n A6Z)
def D8h:Nat→Option Jn:=B3 [(58,⟨[.t 3 false [.int .i64],.t 10 false [.int .i64]],lt 11 14 (lt 5 3 [.b 6,.r 69637]),false⟩)]
abbrev C4o:List PK:= [.val false (.rs 9 .str) false]
abbrev C4p:List RK:= [.val false (.int .i64)]
noncomputable def B6C(f:A3W):Nat×Fn:=(174,⟨C4o,C4p,fun x=>f x.1⟩)
noncomputable def D8i:Fn:=(B6C A1B).2
theorem D8j(f_i_GetRec:A19):∀ x,(B6 cfg [C0T f_i_GetRec] D8h 26 [.tmp 2] (Tryz.f174.body.getD .skip) C4o C4p).fn x=B5B f_i_GetRec x.1:=by intro x;kernel_rfl
theorem C4q:B0 Tryz.prog 174 D8i:=sm MO A6 (tc Tryz.call238 C9X A5) Tryz.func174 (by kernel_rfl) (by decide) (D8j A0A)
abbrev B87:List PK:= [.val false (.rs 5 (.int .u8)) false,.val false (.rs 5 (.int .u8)) false]
abbrev B88:List RK:= [.val false .bool]
noncomputable def B89(f:A5l):Nat×Fn:=(77,⟨B87,B88,fun x=>f x.1 x.2.1⟩)
noncomputable def D1j:Fn:=(B89 A5m).2
theorem D1k:∀ x,(B6 cfg [] (B3 []) 10 [.tmp 4] (Tryz.f77.body.getD .skip) B87 B88).fn x=B0j x.1 x.2.1:=by intro x;kernel_rfl
theorem D1l:B0 Tryz.prog 77 D1j:=sm MO A6 A5 Tryz.func77 (by kernel_rfl) (by decide) (D1k)
abbrev C9Z:List PK:= [.val true (.pair .str (.pair (.int .i64) (.pair (.rs 5 (.int .u8)) .bool))) false,.val true (.pair .str (.pair (.int .i64) (.pair (.rs 5 (.int .u8)) .bool))) false]
abbrev C9a:List RK:= [.val false .bool]
noncomputable def C9b(f:A8O):Nat×Fn:=(173,⟨C9Z,C9a,fun x=>f x.1 x.2.1⟩)
noncomputable def E2P:Fn:=(C9b A8P).2
theorem E2Q(f_bytes_Equal:A5l):∀ x,(B6 cfg [B89 f_bytes_Equal] (B3 []) 31 [.tmp 4] (Tryz.f173.body.getD .skip) C9Z C9a).fn x=B9u f_bytes_Equal x.1 x.2.1:=by intro x;kernel_rfl
theorem E2R:B0 Tryz.prog 173 E2P:=sm MO A6 (tc Tryz.call77 D1l A5) Tryz.func173 (by kernel_rfl) (by decide) (E2Q A5m)
def P0:Nat→Option Jn:=B3 [(58,⟨[.t 17 false [.int .i64]],lt 18 14 (lt 7 3 [.b 8,.b 9]),false⟩)]
abbrev G9:List PK:= [.val false (.rs 109 kUp) false,.val false (.rs 109 kUp) false,.val false (.fnc 173) false]
abbrev H0:List RK:= [.val false .bool]
noncomputable def H1(f:D4):Nat×Fn:=(172,⟨G9,H0,fun x=>f x.1 x.2.1 x.2.2.1⟩)
noncomputable def P1:Fn:=(H1 C3).2
theorem P2(f_i_sameUp:A8O):∀ x,(B6 cfg [C9b f_i_sameUp] P0 32 [.tmp 6] (Tryz.f172.body.getD .skip) G9 H0).fn x=E8 f_i_sameUp x.1 x.2.1 x.2.2.1:=by intro x;kernel_rfl
theorem P3:B0 Tryz.prog 172 P1:=sm MO A6 (tc Tryz.call173 E2R A5) Tryz.func172 (by kernel_rfl) (by decide) (P2 A8P)
def D8k:Nat→Option Jn:=B3 [(3,⟨[],lt 6 10 [],false⟩),(31,⟨[],lt 24 16 [],false⟩),(63,⟨[],lt 40 15 [.x 50],false⟩)]
abbrev C4r:List PK:= [.val true (.pair (.pair (.rs 9 .str) (.rs 9 .str)) (.pair (.int .i64) (.pair (.int .i64) (.rs 109 kUp)))) false]
abbrev C4s:List RK:= [.val false .bool]
noncomputable def C4t(f:A9Z):Nat×Fn:=(94,⟨C4r,C4s,fun x=>f x.1⟩)
noncomputable def D8l:Fn:=(C4t A1C).2
theorem D8m(f_i_isEpoch:A3V)(f_i_DiskOk:A17)(f_i_ScanRecs:A1m)(f_i_FoldRecs:A1n)(f_slices_EqualFunc_impl_Up_impl_Up_impl_Up_impl_Up_r1002_173:D4)(f_i_topFrom:A3W):∀ x,(B6 cfg [B6B f_i_isEpoch,B3r f_i_DiskOk,B3s f_i_ScanRecs,B3t f_i_FoldRecs,H1 f_slices_EqualFunc_impl_Up_impl_Up_impl_Up_impl_Up_r1002_173,B6C f_i_topFrom] D8k 65 [.tmp 2] (Tryz.f94.body.getD .skip) C4r C4s).fn x=B5C f_i_isEpoch f_i_DiskOk f_i_ScanRecs f_i_FoldRecs f_slices_EqualFunc_impl_Up_impl_Up_impl_Up_impl_Up_r1002_173 f_i_topFrom x.1:=by intro x;kernel_rfl
theorem D8n:B0 Tryz.prog 94 D8l:=sm MO A6 (tc Tryz.call168 C4n (tc Tryz.call169 C0R (tc Tryz.call170 C1V (tc Tryz.call171 C1Y (tc Tryz.call172 P3 (tc Tryz.call174 C4q A5)))))) Tryz.func94 (by kernel_rfl) (by decide) (D8m A16 A18 A0B A0C C3 A1B)
def D5o:Nat→Option Jn:=B3 [(3,⟨[],lt 4 13 [.b 4],false⟩),(26,⟨[.t 8 false [.int .i64]],lt 9 8 [.b 4,.t 4],false⟩)]
abbrev C1Z:List PK:= [.val true (.pair (.pair (.pair (.rs 9 .str) (.rs 9 .str)) (.pair (.int .i64) (.pair (.int .i64) (.rs 109 kUp)))) (.rs 130 A9)) false]
abbrev C1a:List RK:= [.val false .bool]
noncomputable def C1b(f:A7c):Nat×Fn:=(28,⟨C1Z,C1a,fun x=>f x.1⟩)
noncomputable def D5p:Fn:=(C1b A43).2
theorem D5q(f_i_RespOk:X6)(f_i_StoreOk:A9Z):∀ x,(B6 cfg [B3q f_i_RespOk,C4t f_i_StoreOk] D5o 26 [.tmp 2] (Tryz.f28.body.getD .skip) C1Z C1a).fn x=B2w f_i_RespOk f_i_StoreOk x.1:=by intro x;kernel_rfl
theorem D5r:B0 Tryz.prog 28 D5p:=sm MO A6 (tc Tryz.call93 C0Q (tc Tryz.call94 D8n A5)) Tryz.func28 (by kernel_rfl) (by decide) (D5q T9 A1C)
abbrev C1c:List PK:= [.val true (.pair .str (.pair (.rs 5 (.int .u8)) E9)) false]
abbrev C1d:List RK:= [.val false .bool]
noncomputable def A4o(f:N7):Nat×Fn:=(145,⟨C1c,C1d,fun x=>f x.1⟩)
noncomputable def D5s:Fn:=(A4o K8).2
theorem D5t(f_i_inRange:C4)(f_i_idOk:S2):∀ x,(B6 cfg [I2 f_i_inRange,A71 f_i_idOk] (B3 []) 25 [.tmp 2] (Tryz.f145.body.getD .skip) C1c C1d).fn x=B2x f_i_inRange f_i_idOk x.1:=by intro x;kernel_rfl
theorem A80:B0 Tryz.prog 145 D5s:=sm MO A6 (tc Tryz.call80 J1 (tc Tryz.call147 A96 A5)) Tryz.func145 (by kernel_rfl) (by decide) (D5t C7 Q5)
def D1m:Nat→Option Jn:=B3 [(3,⟨[],lt 6 28 [.b 4,.b 6,.t 3,.t 4],false⟩),(26,⟨[.t 10 false [.int .i64]],lt 11 23 [.b 4,.b 6,.t 3,.t 4,.t 6],false⟩),(13518,⟨[.t 23 false [.int .i64]],lt 24 9 [.b 6,.t 6],false⟩)]
abbrev B8A:List PK:= [.val true (.pair (.pair (.pair (.pair (.rs 9 .str) (.rs 9 .str)) (.pair (.int .i64) (.pair (.int .i64) (.rs 109 kUp)))) (.rs 130 A9)) (.pair (.rs 79 B1) (.pair (.rs 4 .bool) (.pair (.rs 113 B7) (.pair (.rs 130 A9) (.rs 3 (.int .i64))))))) false]
abbrev B8B:List RK:= [.val false .bool]
noncomputable def B8C(f:A5n):Nat×Fn:=(78,⟨B8A,B8B,fun x=>f x.1⟩)
noncomputable def D1n:Fn:=(B8C A26).2
theorem D1o(f_i_ClientOk:N7):∀ x,(B6 cfg [A4o f_i_ClientOk] D1m 56 [.tmp 2] (Tryz.f78.body.getD .skip) B8A B8B).fn x=B0k f_i_ClientOk x.1:=by intro x;kernel_rfl
theorem D1p:B0 Tryz.prog 78 D1n:=sm MO A6 (tc Tryz.call145 A80 A5) Tryz.func78 (by kernel_rfl) (by decide) (D1o K8)
abbrev B49:List PK:= [.val false (.int .i64) false]
abbrev B4A:List RK:= [.val false .str,.val false (.int .i64)]
noncomputable def B4B(f:A2m):Nat×Fn:=(146,⟨B49,B4A,fun x=>f x.1⟩)
noncomputable def C6f:Fn:=(B4B A2n).2
theorem C6g:∀ x,(B6 cfg [] (B3 []) 11 [.tmp 2,.tmp 3] (Tryz.f146.body.getD .skip) B49 B4A).fn x=A78 x.1:=by intro x;kernel_rfl
theorem C6h:B0 Tryz.prog 146 C6f:=sm MO A6 A5 Tryz.func146 (by kernel_rfl) (by decide) (C6g)
abbrev D4J:List PK:= [.val true L5 false]
abbrev D4K:List RK:= [.val false .bool]
noncomputable def C3i(f:A5M):Nat×Fn:=(79,⟨D4J,D4K,fun x=>f x.1⟩)
noncomputable def E5w:Fn:=(C3i A3X).2
theorem E5x(f_i_inRange:C4)(f_i_numberField:A2m)(f_i_idOk:S2):∀ x,(B6 cfg [I2 f_i_inRange,B4B f_i_numberField,A71 f_i_idOk] (B3 []) 25 [.tmp 2] (Tryz.f79.body.getD .skip) D4J D4K).fn x=C3C f_i_inRange f_i_numberField f_i_idOk x.1:=by intro x;kernel_rfl
theorem D4L:B0 Tryz.prog 79 E5w:=sm MO A6 (tc Tryz.call80 J1 (tc Tryz.call146 C6h (tc Tryz.call147 A96 A5))) Tryz.func79 (by kernel_rfl) (by decide) (E5x C7 A2n Q5)
def E2S:Nat→Option Jn:=B3 [(26,⟨[.t 9 false [.int .i64]],lt 10 18 [.b 6,.t 6],false⟩)]
abbrev C9c:List PK:= [.val true (.pair (.pair (.pair (.pair (.rs 9 .str) (.rs 9 .str)) (.pair (.int .i64) (.pair (.int .i64) (.rs 109 kUp)))) (.rs 130 A9)) (.pair (.rs 79 B1) (.pair (.rs 4 .bool) (.pair (.rs 113 B7) (.pair (.rs 130 A9) (.rs 3 (.int .i64))))))) false,.val false (.rs 130 A9) false]
abbrev C9d:List RK:= [.val false .bool]
noncomputable def C9e(f:B2z):Nat×Fn:=(81,⟨C9c,C9d,fun x=>f x.1 x.2.1⟩)
noncomputable def E2T:Fn:=(C9e A8Q).2
theorem E2U(f_i_inRange:C4)(f_i_RespOk:X6):∀ x,(B6 cfg [I2 f_i_inRange,B3q f_i_RespOk] E2S 28 [.tmp 4] (Tryz.f81.body.getD .skip) C9c C9d).fn x=B9v f_i_inRange f_i_RespOk x.1 x.2.1:=by intro x;kernel_rfl
theorem E2V:B0 Tryz.prog 81 E2T:=sm MO A6 (tc Tryz.call80 J1 (tc Tryz.call93 C0Q A5)) Tryz.func81 (by kernel_rfl) (by decide) (E2U C7 T9)
def D8o:Nat→Option Jn:=B3 [(3,⟨[],lt 5 15 [],false⟩),(7,⟨[],lt 20 22 [.b 4,.t 4],false⟩),(58,⟨[.t 23 false [.int .i64]],lt 24 18 [.b 4,.t 4],false⟩)]
abbrev C4u:List PK:= [.val true (.pair (.pair (.pair (.pair (.rs 9 .str) (.rs 9 .str)) (.pair (.int .i64) (.pair (.int .i64) (.rs 109 kUp)))) (.rs 130 A9)) (.pair (.rs 79 B1) (.pair (.rs 4 .bool) (.pair (.rs 113 B7) (.pair (.rs 130 A9) (.rs 3 (.int .i64))))))) false]
abbrev C4v:List RK:= [.val false .bool]
noncomputable def C4w(f:A9a):Nat×Fn:=(23,⟨C4u,C4v,fun x=>f x.1⟩)
noncomputable def D8p:Fn:=(C4w A3Y).2
theorem D8q(f_i_ServerOk:A7c)(f_i_clientsOk:A5n)(f_i_ReqOk:A5M)(f_i_inRange:C4)(f_i_heldOk:B2z):∀ x,(B6 cfg [C1b f_i_ServerOk,B8C f_i_clientsOk,C3i f_i_ReqOk,I2 f_i_inRange,C9e f_i_heldOk] D8o 58 [.tmp 2] (Tryz.f23.body.getD .skip) C4u C4v).fn x=B5E f_i_ServerOk f_i_clientsOk f_i_ReqOk f_i_inRange f_i_heldOk x.1:=by intro x;kernel_rfl
theorem D8r:B0 Tryz.prog 23 D8p:=sm MO A6 (tc Tryz.call28 D5r (tc Tryz.call78 D1p (tc Tryz.call79 D4L (tc Tryz.call80 J1 (tc Tryz.call81 E2V A5))))) Tryz.func23 (by kernel_rfl) (by decide) (D8q A43 A26 A3X C7 A8Q)
abbrev C9f:List PK:= [.val true (.pair .str (.pair (.int .i64) (.pair (.rs 5 (.int .u8)) .bool))) false]
abbrev C9g:List RK:= [.val true kUp]
noncomputable def C9h(f:A8R):Nat×Fn:=(144,⟨C9f,C9g,fun x=>f x.1⟩)
noncomputable def E2W:Fn:=(C9h A5N).2
theorem E2X(f_slices_Clone_byte_byte:D0):∀ x,(B6 cfg [J0 f_slices_Clone_byte_byte] (B3 []) 8 [.cell 2 109] (Tryz.f144.body.getD .skip) C9f C9g).fn x=B9w f_slices_Clone_byte_byte x.1:=by intro x;kernel_rfl
theorem E2Y:B0 Tryz.prog 144 E2W:=sm MO A6 (tc Tryz.call191 M1 A5) Tryz.func144 (by kernel_rfl) (by decide) (E2X C6)
abbrev A0X:List PK:= [.val false (.rs 9 .str) false]
abbrev A0Y:List RK:= [.val false (.sl 9 .str)]
noncomputable def R8(f:G7):Nat×Fn:=(275,⟨A0X,A0Y,fun x=>f x.1⟩)
noncomputable def A7O:Fn:=(R8 F9).2
theorem A7P:∀ x,(B6 cfg [] (B3 []) 8 [.tmp 2] (Tryz.f275.body.getD .skip) A0X A0Y).fn x=R6 x.1:=by intro x;kernel_rfl
theorem A0Z:B0 Tryz.prog 275 A7O:=sm MO A6 A5 Tryz.func275 (by kernel_rfl) (by decide) (A7P)
abbrev C1e:List PK:= [.val true (.pair (.rs 9 .str) (.rs 9 .str)) false]
abbrev C1f:List RK:= [.val true A0M]
noncomputable def A81(f:W0):Nat×Fn:=(221,⟨C1e,C1f,fun x=>f x.1⟩)
noncomputable def D5u:Fn:=(A81 S3).2
theorem D5v(f_slices_Clone_string_string:G7):∀ x,(B6 cfg [R8 f_slices_Clone_string_string] (B3 []) 10 [.cell 2 26] (Tryz.f221.body.getD .skip) C1e C1f).fn x=B30 f_slices_Clone_string_string x.1:=by intro x;kernel_rfl
theorem B3u:B0 Tryz.prog 221 D5u:=sm MO A6 (tc Tryz.call275 A0Z A5) Tryz.func221 (by kernel_rfl) (by decide) (D5v F9)
def D1q:Nat→Option Jn:=B3 [(58,⟨[.t 17 false [.int .i64],.b 3 [.own 36864,.own 36865,.int .i64,.int .i64,.own 100000000],.r 36864 9 .str,.r 36865 9 .str,.r 100000000 109 kUp],lt 18 11 [.b 5,.r 25,.r 26,.r 102402,.t 5],false⟩)]
abbrev B8D:List PK:= [.val true (.pair (.pair (.rs 9 .str) (.rs 9 .str)) (.pair (.int .i64) (.pair (.int .i64) (.rs 109 kUp)))) false]
abbrev B8E:List RK:= [.val true A3z]
noncomputable def B8F(f:A5p):Nat×Fn:=(154,⟨B8D,B8E,fun x=>f x.1⟩)
noncomputable def D1r:Fn:=(B8F A27).2
theorem D1s(f_i_copyUp:A8R)(f_i_copyDisk:W0):∀ x,(B6 cfg [C9h f_i_copyUp,A81 f_i_copyDisk] D1q 30 [.cell 2 29] (Tryz.f154.body.getD .skip) B8D B8E).fn x=B0l f_i_copyUp f_i_copyDisk x.1:=by intro x;kernel_rfl
theorem D1t:B0 Tryz.prog 154 D1r:=sm MO A6 (tc Tryz.call144 E2Y (tc Tryz.call221 B3u A5)) Tryz.func154 (by kernel_rfl) (by decide) (D1s A5N S3)
abbrev U5:List PK:= [.val false (.rs 130 A9) false]
abbrev U6:List RK:= [.val false (.sl 130 A9)]
noncomputable def M7(f:F4):Nat×Fn:=(155,⟨U5,U6,fun x=>f x.1⟩)
noncomputable def A3O:Fn:=(M7 E1).2
theorem A3P:∀ x,(B6 cfg [] (B3 []) 8 [.tmp 2] (Tryz.f155.body.getD .skip) U5 U6).fn x=M5 x.1:=by intro x;kernel_rfl
theorem U7:B0 Tryz.prog 155 A3O:=sm MO A6 A5 Tryz.func155 (by kernel_rfl) (by decide) (A3P)
abbrev B6D:List PK:= [.val true (.pair (.pair (.pair (.rs 9 .str) (.rs 9 .str)) (.pair (.int .i64) (.pair (.int .i64) (.rs 109 kUp)))) (.rs 130 A9)) false]
abbrev B6E:List RK:= [.val true A1l]
noncomputable def B6F(f:A44):Nat×Fn:=(87,⟨B6D,B6E,fun x=>f x.1⟩)
noncomputable def C9i:Fn:=(B6F A1D).2
theorem C9j(f_i_copyStore:A5p)(f_slices_Clone_impl_Held_impl_Held:F4):∀ x,(B6 cfg [B8F f_i_copyStore,M7 f_slices_Clone_impl_Held_impl_Held] (B3 []) 10 [.cell 2 32] (Tryz.f87.body.getD .skip) B6D B6E).fn x=A8S f_i_copyStore f_slices_Clone_impl_Held_impl_Held x.1:=by intro x;kernel_rfl
theorem C9k:B0 Tryz.prog 87 C9i:=sm MO A6 (tc Tryz.call154 D1t (tc Tryz.call155 U7 A5)) Tryz.func87 (by kernel_rfl) (by decide) (C9j A27 E1)
abbrev A2f:List PK:= [.val false (.rs 4 .bool) false]
abbrev A2g:List RK:= [.val false (.sl 4 .bool)]
noncomputable def A2h(f:Q2):Nat×Fn:=(188,⟨A2f,A2g,fun x=>f x.1⟩)
noncomputable def B1K:Fn:=(A2h L6).2
theorem B1L:∀ x,(B6 cfg [] (B3 []) 8 [.tmp 2] (Tryz.f188.body.getD .skip) A2f A2g).fn x=X8 x.1:=by intro x;kernel_rfl
theorem B1M:B0 Tryz.prog 188 B1K:=sm MO A6 A5 Tryz.func188 (by kernel_rfl) (by decide) (B1L)
abbrev A4p:List PK:= [.val false (.rs 3 (.int .i64)) false]
abbrev A4q:List RK:= [.val false (.sl 3 (.int .i64))]
noncomputable def A4r(f:S4):Nat×Fn:=(189,⟨A4p,A4q,fun x=>f x.1⟩)
noncomputable def B3v:Fn:=(A4r N8).2
theorem B3w:∀ x,(B6 cfg [] (B3 []) 8 [.tmp 2] (Tryz.f189.body.getD .skip) A4p A4q).fn x=A0D x.1:=by intro x;kernel_rfl
theorem B3x:B0 Tryz.prog 189 B3v:=sm MO A6 A5 Tryz.func189 (by kernel_rfl) (by decide) (B3w)
abbrev B6G:List PK:= [.val true (.pair .str (.pair (.rs 5 (.int .u8)) E9)) false]
abbrev B6H:List RK:= [.val true B1]
noncomputable def A4s(f:N9):Nat×Fn:=(190,⟨B6G,B6H,fun x=>f x.1⟩)
noncomputable def C9l:Fn:=(A4s K3).2
theorem C9m(f_slices_Clone_byte_byte:D0):∀ x,(B6 cfg [J0 f_slices_Clone_byte_byte] (B3 []) 8 [.cell 2 79] (Tryz.f190.body.getD .skip) B6G B6H).fn x=A8T f_slices_Clone_byte_byte x.1:=by intro x;kernel_rfl
theorem A97:B0 Tryz.prog 190 C9l:=sm MO A6 (tc Tryz.call191 M1 A5) Tryz.func190 (by kernel_rfl) (by decide) (C9m C6)
def D1u:Nat→Option Jn:=B3 [(7,⟨[.b 3 [.own 45056,.own 45057,.int .i64,.int .i64,.own 45060,.own 45061,.own 100000000,.own 57344,.nil,.own 69632,.own 81920],.r 45056 9 .str,.r 45057 9 .str,.r 45060 109 kUp,.r 45061 130 A9,.r 57344 4 .bool,.r 69632 130 A9,.r 81920 3 (.int .i64),.r 100000000 79 B1],lt 21 15 [.b 5,.r 32,.r 33,.r 131073,.t 5],true⟩),(58,⟨[.t 24 false [.int .i64],.b 3 [.own 45056,.own 45057,.int .i64,.int .i64,.own 45060,.own 45061,.own 100000000,.own 57344,.nil,.own 69632,.own 81920],.r 45056 9 .str,.r 45057 9 .str,.r 45060 109 kUp,.r 45061 130 A9,.r 57344 4 .bool,.r 69632 130 A9,.r 81920 3 (.int .i64),.r 100000000 79 B1],lt 25 11 [.b 5,.r 32,.r 33,.r 131073,.t 5],false⟩),(122,⟨[.t 39 false [.int .i64],.b 3 [.own 45056,.own 45057,.int .i64,.int .i64,.own 45060,.own 45061,.own 100000000,.own 57344,.own 100002001,.own 69632,.own 81920],.r 45056 9 .str,.r 45057 9 .str,.r 45060 109 kUp,.r 45061 130 A9,.r 57344 4 .bool,.r 69632 130 A9,.r 81920 3 (.int .i64),.r 100000000 79 B1,.r 100002001 113 B7],lt 40 14 [.b 7,.r 50,.r 51,.r 188416,.t 7],false⟩)]
abbrev B8G:List PK:= [.val true (.pair (.pair (.pair (.pair (.rs 9 .str) (.rs 9 .str)) (.pair (.int .i64) (.pair (.int .i64) (.rs 109 kUp)))) (.rs 130 A9)) (.pair (.rs 79 B1) (.pair (.rs 4 .bool) (.pair (.rs 113 B7) (.pair (.rs 130 A9) (.rs 3 (.int .i64))))))) false]
abbrev B8H:List RK:= [.val true A23]
noncomputable def B8I(f:A5q):Nat×Fn:=(107,⟨B8G,B8H,fun x=>f x.1⟩)
noncomputable def D1v:Fn:=(B8I A28).2
theorem D1w(f_i_copyServer:A44)(f_slices_Clone_impl_Held_impl_Held:F4)(f_slices_Clone_bool_bool:Q2)(f_slices_Clone_int_int:S4)(f_i_copyClient:N9)(f_slices_Clone_byte_byte:D0):∀ x,(B6 cfg [B6F f_i_copyServer,M7 f_slices_Clone_impl_Held_impl_Held,A2h f_slices_Clone_bool_bool,A4r f_slices_Clone_int_int,A4s f_i_copyClient,J0 f_slices_Clone_byte_byte] D1u 55 [.cell 2 38] (Tryz.f107.body.getD .skip) B8G B8H).fn x=B0m f_i_copyServer f_slices_Clone_impl_Held_impl_Held f_slices_Clone_bool_bool f_slices_Clone_int_int f_i_copyClient f_slices_Clone_byte_byte x.1:=by intro x;kernel_rfl
theorem D1x:B0 Tryz.prog 107 D1v:=sm MO A6 (tc Tryz.call87 C9k (tc Tryz.call155 U7 (tc Tryz.call188 B1M (tc Tryz.call189 B3x (tc Tryz.call190 A97 (tc Tryz.call191 M1 A5)))))) Tryz.func107 (by kernel_rfl) (by decide) (D1w A1D E1 L6 N8 K3 C6)
abbrev A4t:List PK:= [.ptr (.pair .str (.pair (.rs 5 (.int .u8)) E9))]
abbrev A4u:List RK:= [.val false .bool]
noncomputable def S7(f:L2):Nat×Fn:=(295,⟨A4t,A4u,fun x=>f x.1⟩)
noncomputable def B3y:Fn:=(S7 J3).2
theorem B3z:∀ x,(B6 cfg [] (B3 []) 15 [.tmp 2] (Tryz.f295.body.getD .skip) A4t A4u).fn x=A45 x.1:=by intro x;kernel_rfl
theorem A0L:B0 Tryz.prog 295 B3y:=sm MO A6 A5 Tryz.func295 (by kernel_rfl) (by decide) (B3z)
def D8s:Nat→Option Jn:=B3 [(3,⟨[.b 1 [.str,.ro 5 (.int .u8),.int .i64,.int .i64]],lt 6 6 [],false⟩)]
abbrev C4x:List PK:= [.val true (.pair .str (.pair (.rs 5 (.int .u8)) E9)) false]
abbrev C4y:List RK:= [.val true L5,.val false (.sl 5 (.int .u8)),.val false .bool]
noncomputable def C4z(f:A9b):Nat×Fn:=(259,⟨C4x,C4y,fun x=>f x.1⟩)
noncomputable def D8t:Fn:=(C4z A6a).2
theorem D8u(f_i_ClientOk:N7)(f_slices_Clone_byte_byte:D0)(f_i_Crc:A9Y)(f_i_Client_isOver:L2):∀ x,(B6 cfg [A4o f_i_ClientOk,J0 f_slices_Clone_byte_byte,C7e f_i_Crc,S7 f_i_Client_isOver] D8s 55 [.cell 2 43,.tmp 3,.tmp 4] (Tryz.f259.body.getD .skip) C4x C4y).fn x=B5F f_i_ClientOk f_slices_Clone_byte_byte f_i_Crc f_i_Client_isOver x.1:=by intro x;kernel_rfl
theorem D8v:B0 Tryz.prog 259 D8t:=sm MO A6 (tc Tryz.call145 A80 (tc Tryz.call191 M1 (tc Tryz.call280 D5h (tc Tryz.call295 A0L A5)))) Tryz.func259 (by kernel_rfl) (by decide) (D8u K8 C6 A7b J3)
def C9n:Nat→Option Jn:=B3 [(3,⟨[],lt 8 26 [.x 23],false⟩)]
abbrev B6I:List PK:= [.ptr A23,.val false (.int .i64) false]
abbrev B6J:List RK:= [.val false .bool]
noncomputable def B6K(f:A46):Nat×Fn:=(200,⟨B6I,B6J,fun x=>f x.1 x.2.1⟩)
noncomputable def C9o:Fn:=(B6K A1E).2
theorem C9p(f_i_inRange:C4)(f_i_NextReq:A9b):∀ x,(B6 cfg [I2 f_i_inRange,C4z f_i_NextReq] C9n 67 [.tmp 4] (Tryz.f200.body.getD .skip) B6I B6J).fn x=A8U f_i_inRange f_i_NextReq x.1 x.2.1:=by intro x;kernel_rfl
theorem C9q:B0 Tryz.prog 200 C9o:=sm MO A6 (tc Tryz.call80 J1 (tc Tryz.call259 D8v A5)) Tryz.func200 (by kernel_rfl) (by decide) (C9p C7 A6a)
abbrev B6L:List PK:= [.ptr A3z]
abbrev B6M:List RK:= [.val false (.int .i64)]
noncomputable def A1b(f:L7):Nat×Fn:=(277,⟨B6L,B6M,fun x=>f x.1⟩)
noncomputable def C9r:Fn:=(A1b K4).2
theorem C9s:∀ x,(B6 cfg [] (B3 []) 14 [.tmp 2] (Tryz.f277.body.getD .skip) B6L B6M).fn x=A8V x.1:=by intro x;kernel_rfl
theorem A4v:B0 Tryz.prog 277 C9r:=sm MO A6 A5 Tryz.func277 (by kernel_rfl) (by decide) (C9s)
abbrev A5D:List PK:= [.ptr A3z,.val false (.int .i64) false,.val false .str false,.val false (.int .i64) false,.val false (.rs 5 (.int .u8)) false]
abbrev A5E:List RK:= []
noncomputable def P6(f:F2):Nat×Fn:=(278,⟨A5D,A5E,fun x=>f x.1 x.2.1 x.2.2.1 x.2.2.2.1 x.2.2.2.2.1⟩)
noncomputable def B4q:Fn:=(P6 C8).2
theorem B4r(f_i_fold:A8N)(f_i_PutRec:A5L):∀ x,(B6 cfg [C9Y f_i_fold,C0S f_i_PutRec] (B3 []) 59 [] (Tryz.f278.body.getD .skip) A5D A5E).fn x=A0j f_i_fold f_i_PutRec x.1 x.2.1 x.2.2.1 x.2.2.2.1 x.2.2.2.2.1:=by intro x;kernel_rfl
theorem V0:B0 Tryz.prog 278 B4q:=sm MO A6 (tc Tryz.call239 D8g (tc Tryz.call288 C9U A5)) Tryz.func278 (by kernel_rfl) (by decide) (B4r A6Z A3F)
end Go.Proofs.YtpdcljonclhhpaaGreat.Ev
