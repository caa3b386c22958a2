/- Each function of the program does what its plain function says. -/
import Derived.Test.YtfnmpcbehimkgaaTy
import Derived.Test.YtfnmpcbehimkgaaPu
import Derived.Test.YtfnmpcbehimkgaaIns
import Derived.Test.YtfnmpcbehimkgaaChunk
set_option linter.unusedVariables false
set_option maxRecDepth 100000
namespace Go.Proofs.Ytfnmpcbehimkgaa.Ev
noncomputable section
abbrev A0x:List PK:= [.val false (.sl 36 kUp) false,.val false (.int .i64) false,.val false (.sl 36 kUp) false]
abbrev A0y:List RK:= [.val false (.sl 36 kUp)]
def P7(f:G5):Nat×Fn:=(86,⟨A0x,A0y,fun x=>f x.1 x.2.1 x.2.2.1⟩)
def A0z:Fn:=(P7 G6).2
theorem A10:B3 Try.prog 86 A0z:=B6g kUp (by decide)
abbrev A11:List PK:= [.val false (.sl 36 kUp) false,.val false (.int .i64) false,.val false (.int .i64) false]
abbrev A12:List RK:= [.val false (.sl 36 kUp)]
def P8(f:G7):Nat×Fn:=(87,⟨A11,A12,fun x=>f x.1 x.2.1 x.2.2.1⟩)
def A13:Fn:=(P8 G8).2
theorem A14:B3 Try.prog 87 A13:=B6e kUp (by decide)
abbrev C1N:List PK:= [.val false (.rs 5 (.int .u8)) false]
abbrev C1O:List RK:= [.val false .bool]
def C1P(f:B2M):Nat×Fn:=(5,⟨C1N,C1O,fun x=>f x.1⟩)
def C5S:Fn:=(C1P B2N).2
theorem C5T:∀ x,(D4 cfg [] (B6 []) 6 [.tmp 2] (Try.f5.body.getD .skip) C1N C1O).fn x=B6L x.1:=by intro x;kernel_rfl
theorem C5U:B3 Try.prog 5 C5S:=sm MO B4 A8 Try.func5 (by kernel_rfl) (by decide) (C5T)
def B4q:Nat→Option Jn:=B6 [(58,⟨[.t 5 false [.int .i64]],lt 11 15 [],false⟩)]
abbrev A8U:List PK:= [.val false (.rs 5 (.int .u8)) false,.val false (.rs 5 (.int .u8)) false]
abbrev A8V:List RK:= [.val false .bool]
def A4K(f:P2):Nat×Fn:=(16,⟨A8U,A8V,fun x=>f x.1 x.2.1⟩)
def B4r:Fn:=(A4K L4).2
theorem B4s:∀ x,(D4 cfg [] B4q 26 [.tmp 4] (Try.f16.body.getD .skip) A8U A8V).fn x=A4C x.1 x.2.1:=by intro x;kernel_rfl
theorem A8W:B3 Try.prog 16 B4r:=sm MO B4 A8 Try.func16 (by kernel_rfl) (by decide) (B4s)
def B8E:Nat→Option Jn:=B6 [(58,⟨[.t 5 false [.int .i64]],lt 11 57 [],false⟩)]
abbrev B1T:List PK:= [.val false (.rs 36 kUp) false,.val false (.rs 36 kUp) false]
abbrev B1U:List RK:= [.val false .bool]
def B1V(f:A3m):Nat×Fn:=(9,⟨B1T,B1U,fun x=>f x.1 x.2.1⟩)
def B8F:Fn:=(B1V A0O).2
theorem B8G(f_w_sameBytes:P2):∀ x,(D4 cfg [A4K f_w_sameBytes] B8E 68 [.tmp 4] (Try.f9.body.getD .skip) B1T B1U).fn x=A6t f_w_sameBytes x.1 x.2.1:=by intro x;kernel_rfl
theorem B8H:B3 Try.prog 9 B8F:=sm MO B4 (tc Try.call16 A8W A8) Try.func9 (by kernel_rfl) (by decide) (B8G L4)
abbrev Z5:List PK:= [.val false (.rs 5 (.int .u8)) false]
abbrev Z6:List RK:= [.val false (.sl 5 (.int .u8))]
def P6(f:F5):Nat×Fn:=(69,⟨Z5,Z6,fun x=>f x.1⟩)
def A4L:Fn:=(P6 D9).2
theorem A4M:∀ x,(D4 cfg [] (B6 []) 8 [.tmp 2] (Try.f69.body.getD .skip) Z5 Z6).fn x=P3 x.1:=by intro x;kernel_rfl
theorem Z7:B3 Try.prog 69 A4L:=sm MO B4 A8 Try.func69 (by kernel_rfl) (by decide) (A4M)
abbrev B3d:List PK:= [.val true (.pair .str (.pair (.int .i64) (.pair (.rs 5 (.int .u8)) .bool))) false]
abbrev B3e:List RK:= [.val true kUp]
def A9C(f:V8):Nat×Fn:=(37,⟨B3d,B3e,fun x=>f x.1⟩)
def B9y:Fn:=(A9C M2).2
theorem B9z(f_slices_Clone_byte_byte:F5):∀ x,(D4 cfg [P6 f_slices_Clone_byte_byte] (B6 []) 8 [.cell 2 36] (Try.f37.body.getD .skip) B3d B3e).fn x=A5V f_slices_Clone_byte_byte x.1:=by intro x;kernel_rfl
theorem B3f:B3 Try.prog 37 B9y:=sm MO B4 (tc Try.call69 Z7 A8) Try.func37 (by kernel_rfl) (by decide) (B9z D9)
def C4F:Nat→Option Jn:=B6 [(3,⟨[],lt 7 12 [.b 7,.t 21],false⟩),(26,⟨[.t 11 false [.int .i64]],lt 12 7 [.b 7,.t 7,.t 21],false⟩)]
abbrev B8I:List PK:= [.val true (.pair (.pair (.rs 9 .str) (.rs 9 .str)) (.pair (.int .i64) (.pair (.int .i64) (.rs 36 kUp)))) false,.val false .str false]
abbrev B8J:List RK:= [.val true kUp,.val false .bool]
def B8K(f:A9i):Nat×Fn:=(10,⟨B8I,B8J,fun x=>f x.1 x.2.1⟩)
def C4G:Fn:=(B8K A1s).2
theorem C4H(f_i_copyUp:V8):∀ x,(D4 cfg [A9C f_i_copyUp] C4F 23 [.cell 4 36,.tmp 5] (Try.f10.body.getD .skip) B8I B8J).fn x=B38 f_i_copyUp x.1 x.2.1:=by intro x;kernel_rfl
theorem C4I:B3 Try.prog 10 C4G:=sm MO B4 (tc Try.call37 B3f A8) Try.func10 (by kernel_rfl) (by decide) (C4H M2)
abbrev B1W:List PK:= [.val false (.int .i64) false,.val false (.int .i64) false,.val false (.int .i64) false]
abbrev B1X:List RK:= [.val false .bool]
def A0S(f:J8):Nat×Fn:=(56,⟨B1W,B1X,fun x=>f x.1 x.2.1 x.2.2.1⟩)
def B8L:Fn:=(A0S J9).2
theorem B8M:∀ x,(D4 cfg [] (B6 []) 15 [.tmp 6] (Try.f56.body.getD .skip) B1W B1X).fn x=B1L x.1 x.2.1 x.2.2.1:=by intro x;kernel_rfl
theorem A21:B3 Try.prog 56 B8L:=sm MO B4 A8 Try.func56 (by kernel_rfl) (by decide) (B8M)
abbrev B1Y:List PK:= [.val false (.int .i64) false]
abbrev B1Z:List RK:= [.val false .bool]
def A7G(f:A0P):Nat×Fn:=(39,⟨B1Y,B1Z,fun x=>f x.1⟩)
def B8N:Fn:=(A7G V9).2
theorem B8O(f_i_inRange:J8):∀ x,(D4 cfg [A0S f_i_inRange] (B6 []) 5 [.tmp 2] (Try.f39.body.getD .skip) B1Y B1Z).fn x=A3n f_i_inRange x.1:=by intro x;kernel_rfl
theorem B1a:B3 Try.prog 39 B8N:=sm MO B4 (tc Try.call56 A21 A8) Try.func39 (by kernel_rfl) (by decide) (B8O J9)
def C00:Nat→Option Jn:=B6 [(3,⟨[],lt 4 13 [],false⟩),(58,⟨[.t 20 false [.int .i64]],lt 21 19 [.t 3],false⟩)]
abbrev B3g:List PK:= [.val true (.pair (.rs 9 .str) (.rs 9 .str)) false]
abbrev B3h:List RK:= [.val false .bool]
def B3i(f:A5W):Nat×Fn:=(40,⟨B3g,B3h,fun x=>f x.1⟩)
def C01:Fn:=(B3i A5X).2
theorem C02:∀ x,(D4 cfg [] C00 40 [.tmp 2] (Try.f40.body.getD .skip) B3g B3h).fn x=B39 x.1:=by intro x;kernel_rfl
theorem C03:B3 Try.prog 40 C01:=sm MO B4 A8 Try.func40 (by kernel_rfl) (by decide) (C02)
def C5V:Nat→Option Jn:=B6 [(7,⟨[.t 3 false [.int .u32]],lt 5 24 [],true⟩),(58,⟨[.t 3 false [.int .u32],.t 9 false [.int .i64]],lt 10 19 [.t 5,.t 6],false⟩),(29902,⟨[.t 3 false [.int .u32],.t 17 false [.int .i64]],lt 18 10 [.t 6],false⟩)]
abbrev C1Q:List PK:= [.val false (.rs 5 (.int .u8)) false]
abbrev C1R:List RK:= [.val false (.int .i64)]
def B2S(f:A3o):Nat×Fn:=(18,⟨C1Q,C1R,fun x=>f x.1⟩)
def C5W:Fn:=(B2S A2c).2
theorem C5X:∀ x,(D4 cfg [] C5V 32 [.tmp 2] (Try.f18.body.getD .skip) C1Q C1R).fn x=B6N x.1:=by intro x;kernel_rfl
theorem B6h:B3 Try.prog 18 C5W:=sm MO B4 A8 Try.func18 (by kernel_rfl) (by decide) (C5X)
def C4J:Nat→Option Jn:=B6 [(3,⟨[],lt 3 30 [],false⟩),(26,⟨[.t 3 false [.int .i64]],lt 4 29 [],false⟩)]
abbrev B8P:List PK:= [.val false .str false]
abbrev B8Q:List RK:= [.val false .bool]
def B02(f:A1t):Nat×Fn:=(55,⟨B8P,B8Q,fun x=>f x.1⟩)
def C4K:Fn:=(B02 A0b).2
theorem C4L(f_i_inRange:J8):∀ x,(D4 cfg [A0S f_i_inRange] C4J 36 [.tmp 2] (Try.f55.body.getD .skip) B8P B8Q).fn x=B3A f_i_inRange x.1:=by intro x;kernel_rfl
theorem B3j:B3 Try.prog 55 C4K:=sm MO B4 (tc Try.call56 A21 A8) Try.func55 (by kernel_rfl) (by decide) (C4L J9)
def C2R:Nat→Option Jn:=B6 [(3,⟨[],lt 3 22 [],false⟩)]
abbrev B5n:List PK:= [.val true (.pair (.int .i64) (.pair (.int .i64) (.pair (.int .i64) (.pair .str (.pair (.int .i64) (.rs 5 (.int .u8))))))) false]
abbrev B5o:List RK:= [.val false .bool]
def B0l(f:A2n):Nat×Fn:=(85,⟨B5n,B5o,fun x=>f x.1⟩)
def C2S:Fn:=(B0l A1I).2
theorem C2T(f_i_isEpoch:A0P)(f_i_idOk:A1t)(f_i_inRange:J8):∀ x,(D4 cfg [A7G f_i_isEpoch,B02 f_i_idOk,A0S f_i_inRange] C2R 58 [.tmp 2] (Try.f85.body.getD .skip) B5n B5o).fn x=B0W f_i_isEpoch f_i_idOk f_i_inRange x.1:=by intro x;kernel_rfl
theorem B5p:B3 Try.prog 85 C2S:=sm MO B4 (tc Try.call39 B1a (tc Try.call55 B3j (tc Try.call56 A21 A8))) Try.func85 (by kernel_rfl) (by decide) (C2T V9 A0b J9)
def C04:Nat→Option Jn:=B6 [(58,⟨[.t 0 false [.own 100000000],.t 7 false [.int .i64],.r 100000000 5 (.int .u8)],lt 12 13 [.r 23,.r 24,.r 1000],false⟩)]
abbrev B3k:List PK:= [.val false (.sl 5 (.int .u8)) false,.val false (.int .i64) false,.val false (.int .i64) false]
abbrev B3l:List RK:= [.val false (.sl 5 (.int .u8))]
def B3m(f:A5a):Nat×Fn:=(95,⟨B3k,B3l,fun x=>f x.1 x.2.1 x.2.2.1⟩)
def C05:Fn:=(B3m A37).2
theorem C06:∀ x,(D4 cfg [] C04 26 [.tmp 6] (Try.f95.body.getD .skip) B3k B3l).fn x=A8q x.1 x.2.1 x.2.2.1:=by intro x;kernel_rfl
theorem C07:B3 Try.prog 95 C05:=sm MO B4 A8 Try.func95 (by kernel_rfl) (by decide) (C06)
abbrev B3n:List PK:= [.val true (.pair (.int .i64) (.pair (.int .i64) (.pair (.int .i64) (.pair .str (.pair (.int .i64) (.rs 5 (.int .u8))))))) false]
abbrev B3o:List RK:= [.val false .str]
def A9D(f:A1J):Nat×Fn:=(77,⟨B3n,B3o,fun x=>f x.1⟩)
def C08:Fn:=(A9D A0A).2
theorem C09(f_i_Crc:A3o)(f_i_RecOk:A2n)(f_i_putBig:A5a):∀ x,(D4 cfg [B2S f_i_Crc,B0l f_i_RecOk,B3m f_i_putBig] (B6 []) 45 [.tmp 2] (Try.f77.body.getD .skip) B3n B3o).fn x=A8r f_i_Crc f_i_RecOk f_i_putBig x.1:=by intro x;kernel_rfl
theorem B3p:B3 Try.prog 77 C08:=sm MO B4 (tc Try.call18 B6h (tc Try.call85 B5p (tc Try.call95 C07 A8))) Try.func77 (by kernel_rfl) (by decide) (C09 A2c A1I A37)
def C0A:Nat→Option Jn:=B6 [(3,⟨[],lt 11 15 [],false⟩),(15,⟨[.t 8 false [.int .i64]],lt 26 17 [.t 10],true⟩),(122,⟨[.t 8 false [.int .i64],.t 33 false [.int .i64]],lt 34 9 [.t 10],false⟩)]
abbrev B3q:List PK:= [.val false (.rs 5 (.int .u8)) false,.val false (.int .i64) false,.val false (.int .i64) false]
abbrev B3r:List RK:= [.val false (.int .i64),.val false .bool]
def B3s(f:A5b):Nat×Fn:=(96,⟨B3q,B3r,fun x=>f x.1 x.2.1 x.2.2.1⟩)
def C0B:Fn:=(B3s A38).2
theorem C0C(f_i_inRange:J8):∀ x,(D4 cfg [A0S f_i_inRange] C0A 44 [.tmp 6,.tmp 7] (Try.f96.body.getD .skip) B3q B3r).fn x=A8s f_i_inRange x.1 x.2.1 x.2.2.1:=by intro x;kernel_rfl
theorem C0D:B3 Try.prog 96 C0B:=sm MO B4 (tc Try.call56 A21 A8) Try.func96 (by kernel_rfl) (by decide) (C0C J9)
def A6Q:Nat→Option Jn:=B6 [(7,⟨[],lt 20 8 [],false⟩)]
abbrev A15:List PK:= [.ptr A3l,.val false (.int .i64) false]
abbrev A16:List RK:= [.val false (.int .i64)]
def A17(f:O1):Nat×Fn:=(83,⟨A15,A16,fun x=>f x.1 x.2.1⟩)
def A6R:Fn:=(A17 B8).2
theorem A6S(f_i_GetBig:A5b):∀ x,(D4 cfg [B3s f_i_GetBig] A6Q 40 [.tmp 4] (Try.f83.body.getD .skip) A15 A16).fn x=K5 f_i_GetBig x.1 x.2.1:=by intro x;kernel_rfl
theorem A6T:B3 Try.prog 83 A6R:=sm MO B4 (tc Try.call96 C0D A8) Try.func83 (by kernel_rfl) (by decide) (A6S A38)
def A86:Nat→Option Jn:=B6 [(3,⟨[],lt 5 18 [],false⟩)]
abbrev A2N:List PK:= [.ptr A3l,.val false (.int .i64) false]
abbrev A2O:List RK:= [.val false (.sl 5 (.int .u8))]
def A2P(f:Q0):Nat×Fn:=(84,⟨A2N,A2O,fun x=>f x.1 x.2.1⟩)
def A87:Fn:=(A2P E4).2
theorem A88(f_slices_Clone_byte_byte:F5):∀ x,(D4 cfg [P6 f_slices_Clone_byte_byte] A86 50 [.tmp 4] (Try.f84.body.getD .skip) A2N A2O).fn x=M7 f_slices_Clone_byte_byte x.1 x.2.1:=by intro x;kernel_rfl
theorem A89:B3 Try.prog 84 A87:=sm MO B4 (tc Try.call69 Z7 A8) Try.func84 (by kernel_rfl) (by decide) (A88 D9)
abbrev B3t:List PK:= [.val false .str false]
abbrev B3u:List RK:= [.val true A2b,.val false .bool]
def A9E(f:W0):Nat×Fn:=(70,⟨B3t,B3u,fun x=>f x.1⟩)
def C0E:Fn:=(A9E S3).2
theorem C0F(f_i_PutRec:A1J)(f_i_byteReader_number:O1)(f_i_byteReader_take:Q0)(f_i_RecOk:A2n):∀ x,(D4 cfg [A9D f_i_PutRec,A17 f_i_byteReader_number,A2P f_i_byteReader_take,B0l f_i_RecOk] (B6 []) 42 [.cell 2 66,.tmp 3] (Try.f70.body.getD .skip) B3t B3u).fn x=A8t f_i_PutRec f_i_byteReader_number f_i_byteReader_take f_i_RecOk x.1:=by intro x;kernel_rfl
theorem B3v:B3 Try.prog 70 C0E:=sm MO B4 (tc Try.call77 B3p (tc Try.call83 A6T (tc Try.call84 A89 (tc Try.call85 B5p A8)))) Try.func70 (by kernel_rfl) (by decide) (C0F A0A B8 E4 A1I)
def B6i:Nat→Option Jn:=B6 [(122,⟨[.t 3 false [.own 100000000],.t 4 false [.int .i64],.t 12 false [.int .i64],.r 100000000 66 A2b],lt 13 30 (lt 5 4 [.b 7,.r 38,.r 39,.r 81925]),false⟩)]
abbrev B03:List PK:= [.val true (.pair (.rs 9 .str) (.rs 9 .str)) false]
abbrev B04:List RK:= [.val false (.sl 66 A2b)]
def B05(f:A2d):Nat×Fn:=(41,⟨B03,B04,fun x=>f x.1⟩)
def B6j:Fn:=(B05 A0e).2
theorem B6k(f_i_GetRec:W0):∀ x,(D4 cfg [A9E f_i_GetRec] B6i 44 [.tmp 2] (Try.f41.body.getD .skip) B03 B04).fn x=A5c f_i_GetRec x.1:=by intro x;kernel_rfl
theorem B6l:B3 Try.prog 41 B6j:=sm MO B4 (tc Try.call70 B3v A8) Try.func41 (by kernel_rfl) (by decide) (B6k S3)
def C4M:Nat→Option Jn:=B6 [(7,⟨[.t 6 false [.int .i64]],lt 7 15 [],true⟩),(28,⟨[.t 6 false [.int .i64]],lt 7 15 [],false⟩)]
abbrev B8R:List PK:= [.val false (.rs 36 kUp) false,.val false .str false]
abbrev B8S:List RK:= [.val false (.int .i64),.val false .bool]
def B8T(f:A9j):Nat×Fn:=(76,⟨B8R,B8S,fun x=>f x.1 x.2.1⟩)
def C4N:Fn:=(B8T W4).2
theorem C4O:∀ x,(D4 cfg [] C4M 36 [.tmp 4,.tmp 5] (Try.f76.body.getD .skip) B8R B8S).fn x=A9k x.1 x.2.1:=by intro x;kernel_rfl
theorem B8U:B3 Try.prog 76 C4N:=sm MO B4 A8 Try.func76 (by kernel_rfl) (by decide) (C4O)
def C4P:Nat→Option Jn:=B6 [(58,⟨[],lt 19 6 [],false⟩),(2026,⟨[],lt 43 30 [],false⟩)]
abbrev B8V:List PK:= [.val false (.sl 36 kUp) false,.val true (.pair (.int .i64) (.pair (.int .i64) (.pair (.int .i64) (.pair .str (.pair (.int .i64) (.rs 5 (.int .u8))))))) false]
abbrev B8W:List RK:= [.val false (.sl 36 kUp),.val false .bool]
def B3w(f:A3A):Nat×Fn:=(71,⟨B8V,B8W,fun x=>f x.1 x.2.1⟩)
def C4Q:Fn:=(B3w A1u).2
theorem C4R(f_i_upAt:A9j)(f_slices_Insert_impl_Up_impl_Up:G5)(f_slices_Delete_impl_Up_impl_Up:G7):∀ x,(D4 cfg [B8T f_i_upAt,P7 f_slices_Insert_impl_Up_impl_Up,P8 f_slices_Delete_impl_Up_impl_Up] C4P 113 [.tmp 4,.tmp 5] (Try.f71.body.getD .skip) B8V B8W).fn x=B3B f_i_upAt f_slices_Insert_impl_Up_impl_Up f_slices_Delete_impl_Up_impl_Up x.1 x.2.1:=by intro x;kernel_rfl
theorem B8X:B3 Try.prog 71 C4Q:=sm MO B4 (tc Try.call76 B8U (tc Try.call86 A10 (tc Try.call87 A14 A8))) Try.func71 (by kernel_rfl) (by decide) (C4R W4 G6 G8)
def B6m:Nat→Option Jn:=B6 [(7,⟨[.t 4 false [.own 100000000],.r 100000000 36 kUp],lt 6 19 [.b 6,.r 77824],false⟩),(58,⟨[.t 4 false [.own 100000000],.t 11 false [.int .i64],.r 100000000 36 kUp],lt 12 13 (lt 6 3 [.b 6,.r 77824]),false⟩)]
abbrev B06:List PK:= [.val false (.rs 66 A2b) false]
abbrev B07:List RK:= [.val false (.sl 36 kUp),.val false .bool]
def B08(f:A2e):Nat×Fn:=(42,⟨B06,B07,fun x=>f x.1⟩)
def B6n:Fn:=(B08 A0g).2
theorem B6o(f_i_fold:A3A):∀ x,(D4 cfg [B3w f_i_fold] B6m 26 [.tmp 2,.tmp 3] (Try.f42.body.getD .skip) B06 B07).fn x=A5d f_i_fold x.1:=by intro x;kernel_rfl
theorem B6p:B3 Try.prog 42 B6n:=sm MO B4 (tc Try.call71 B8X A8) Try.func42 (by kernel_rfl) (by decide) (B6o A1u)
def B8Y:Nat→Option Jn:=B6 [(58,⟨[.t 3 false [.int .i64],.t 10 false [.int .i64]],lt 11 14 (lt 5 3 [.b 6,.r 69637]),false⟩)]
abbrev B1b:List PK:= [.val false (.rs 9 .str) false]
abbrev B1c:List RK:= [.val false (.int .i64)]
def B1d(f:A3p):Nat×Fn:=(45,⟨B1b,B1c,fun x=>f x.1⟩)
def B8Z:Fn:=(B1d A1v).2
theorem B8a(f_i_GetRec:W0):∀ x,(D4 cfg [A9E f_i_GetRec] B8Y 26 [.tmp 2] (Try.f45.body.getD .skip) B1b B1c).fn x=A6u f_i_GetRec x.1:=by intro x;kernel_rfl
theorem B8b:B3 Try.prog 45 B8Z:=sm MO B4 (tc Try.call70 B3v A8) Try.func45 (by kernel_rfl) (by decide) (B8a S3)
abbrev A8X:List PK:= [.val false (.rs 5 (.int .u8)) false,.val false (.rs 5 (.int .u8)) false]
abbrev A8Y:List RK:= [.val false .bool]
def A8Z(f:A1e):Nat×Fn:=(72,⟨A8X,A8Y,fun x=>f x.1 x.2.1⟩)
def B4t:Fn:=(A8Z A1f).2
theorem B4u:∀ x,(D4 cfg [] (B6 []) 10 [.tmp 4] (Try.f72.body.getD .skip) A8X A8Y).fn x=A4D x.1 x.2.1:=by intro x;kernel_rfl
theorem B4v:B3 Try.prog 72 B4t:=sm MO B4 A8 Try.func72 (by kernel_rfl) (by decide) (B4u)
abbrev B3x:List PK:= [.val true (.pair .str (.pair (.int .i64) (.pair (.rs 5 (.int .u8)) .bool))) false,.val true (.pair .str (.pair (.int .i64) (.pair (.rs 5 (.int .u8)) .bool))) false]
abbrev B3y:List RK:= [.val false .bool]
def B3z(f:A3B):Nat×Fn:=(44,⟨B3x,B3y,fun x=>f x.1 x.2.1⟩)
def C0G:Fn:=(B3z A3C).2
theorem C0H(f_bytes_Equal:A1e):∀ x,(D4 cfg [A8Z f_bytes_Equal] (B6 []) 31 [.tmp 4] (Try.f44.body.getD .skip) B3x B3y).fn x=A8u f_bytes_Equal x.1 x.2.1:=by intro x;kernel_rfl
theorem C0I:B3 Try.prog 44 C0G:=sm MO B4 (tc Try.call72 B4v A8) Try.func44 (by kernel_rfl) (by decide) (C0H A1f)
def K8:Nat→Option Jn:=B6 [(58,⟨[.t 17 false [.int .i64]],lt 18 14 (lt 7 3 [.b 8,.b 9]),false⟩)]
abbrev E1:List PK:= [.val false (.rs 36 kUp) false,.val false (.rs 36 kUp) false,.val false (.fnc 44) false]
abbrev E2:List RK:= [.val false .bool]
def E3(f:B5):Nat×Fn:=(43,⟨E1,E2,fun x=>f x.1 x.2.1 x.2.2.1⟩)
def K9:Fn:=(E3 B1).2
theorem L0(f_i_sameUp:A3B):∀ x,(D4 cfg [B3z f_i_sameUp] K8 32 [.tmp 6] (Try.f43.body.getD .skip) E1 E2).fn x=C6 f_i_sameUp x.1 x.2.1 x.2.2.1:=by intro x;kernel_rfl
theorem L1:B3 Try.prog 43 K9:=sm MO B4 (tc Try.call44 C0I A8) Try.func43 (by kernel_rfl) (by decide) (L0 A3C)
def B8c:Nat→Option Jn:=B6 [(3,⟨[],lt 6 10 [],false⟩),(31,⟨[],lt 24 16 [],false⟩),(63,⟨[],lt 40 15 [.x 50],false⟩)]
abbrev B1e:List PK:= [.val true (.pair (.pair (.rs 9 .str) (.rs 9 .str)) (.pair (.int .i64) (.pair (.int .i64) (.rs 36 kUp)))) false]
abbrev B1f:List RK:= [.val false .bool]
def A44(f:R6):Nat×Fn:=(12,⟨B1e,B1f,fun x=>f x.1⟩)
def B8d:Fn:=(A44 K0).2
theorem B8e(f_i_isEpoch:A0P)(f_i_DiskOk:A5W)(f_i_ScanRecs:A2d)(f_i_FoldRecs:A2e)(f_slices_EqualFunc_impl_Up_impl_Up_impl_Up_impl_Up_r1002_44:B5)(f_i_topFrom:A3p):∀ x,(D4 cfg [A7G f_i_isEpoch,B3i f_i_DiskOk,B05 f_i_ScanRecs,B08 f_i_FoldRecs,E3 f_slices_EqualFunc_impl_Up_impl_Up_impl_Up_impl_Up_r1002_44,B1d f_i_topFrom] B8c 65 [.tmp 2] (Try.f12.body.getD .skip) B1e B1f).fn x=A6v f_i_isEpoch f_i_DiskOk f_i_ScanRecs f_i_FoldRecs f_slices_EqualFunc_impl_Up_impl_Up_impl_Up_impl_Up_r1002_44 f_i_topFrom x.1:=by intro x;kernel_rfl
theorem A7H:B3 Try.prog 12 B8d:=sm MO B4 (tc Try.call39 B1a (tc Try.call40 C03 (tc Try.call41 B6l (tc Try.call42 B6p (tc Try.call43 L1 (tc Try.call45 B8b A8)))))) Try.func12 (by kernel_rfl) (by decide) (B8e V9 A5X A0e A0g B1 A1v)
def B8f:Nat→Option Jn:=B6 [(58,⟨[.t 4 false [.int .i64],.b 3 [.own 100000000,.own 100000001],.r 100000000 9 .str,.r 100000001 9 .str],lt 6 19 [.r 17,.r 18,.r 22,.r 23],false⟩),(116,⟨[],lt 6 7 [],false⟩)]
abbrev B1g:List PK:= [.val false (.int .i64) false]
abbrev B1h:List RK:= [.val true Y9]
def B1i(f:A3q):Nat×Fn:=(51,⟨B1g,B1h,fun x=>f x.1⟩)
def B8g:Fn:=(B1i A1w).2
theorem B8h:∀ x,(D4 cfg [] B8f 26 [.cell 2 26] (Try.f51.body.getD .skip) B1g B1h).fn x=A6y x.1:=by intro x;kernel_rfl
theorem B8i:B3 Try.prog 51 B8g:=sm MO B4 A8 Try.func51 (by kernel_rfl) (by decide) (B8h)
abbrev B1j:List PK:= [.val true (.pair (.rs 9 .str) (.rs 9 .str)) false]
abbrev B1k:List RK:= [.val true Y9]
def A45(f:R7):Nat×Fn:=(60,⟨B1j,B1k,fun x=>f x.1⟩)
def B8j:Fn:=(A45 O9).2
theorem B8k:∀ x,(D4 cfg [] (B6 []) 12 [.cell 2 26] (Try.f60.body.getD .skip) B1j B1k).fn x=A6z x.1:=by intro x;kernel_rfl
theorem A7I:B3 Try.prog 60 B8j:=sm MO B4 A8 Try.func60 (by kernel_rfl) (by decide) (B8k)
def B40:Nat→Option Jn:=B6 [(58,⟨[.t 3 false [.own 100000000],.t 4 false [.int .i64],.r 100000000 36 kUp],lt 7 19 [.b 5,.r 6,.r 17,.r 20,.r 24,.r 25,.t 5],false⟩)]
abbrev A7J:List PK:= [.val false (.rs 36 kUp) false]
abbrev A7K:List RK:= [.val false (.sl 36 kUp)]
def A7L(f:J1):Nat×Fn:=(61,⟨A7J,A7K,fun x=>f x.1⟩)
def B41:Fn:=(A7L H6).2
theorem B42:∀ x,(D4 cfg [] B40 27 [.tmp 2] (Try.f61.body.getD .skip) A7J A7K).fn x=A0h x.1:=by intro x;kernel_rfl
theorem B43:B3 Try.prog 61 B41:=sm MO B4 A8 Try.func61 (by kernel_rfl) (by decide) (B42)
abbrev B8l:List PK:= [.val false (.int .i64) false,.val false (.int .i64) false,.val false (.int .i64) false]
abbrev B8m:List RK:= [.val false .bool]
def A22(f:L5):Nat×Fn:=(33,⟨B8l,B8m,fun x=>f x.1 x.2.1 x.2.2.1⟩)
def C4S:Fn:=(A22 K6).2
theorem C4T:∀ x,(D4 cfg [] (B6 []) 15 [.tmp 6] (Try.f33.body.getD .skip) B8l B8m).fn x=B3C x.1 x.2.1 x.2.2.1:=by intro x;kernel_rfl
theorem A3M:B3 Try.prog 33 C4S:=sm MO B4 A8 Try.func33 (by kernel_rfl) (by decide) (C4T)
def C0J:Nat→Option Jn:=B6 [(3,⟨[],lt 4 13 [],false⟩),(58,⟨[.t 3 false [.int .i64]],lt 17 23 [],false⟩)]
abbrev B44:List PK:= [.val true (.pair (.rs 9 .str) (.rs 9 .str)) false]
abbrev B45:List RK:= [.val false .bool]
def A5w(f:W6):Nat×Fn:=(62,⟨B44,B45,fun x=>f x.1⟩)
def C0K:Fn:=(A5w M3).2
theorem C0L:∀ x,(D4 cfg [] C0J 40 [.tmp 2] (Try.f62.body.getD .skip) B44 B45).fn x=A5f x.1:=by intro x;kernel_rfl
theorem A9F:B3 Try.prog 62 C0K:=sm MO B4 A8 Try.func62 (by kernel_rfl) (by decide) (C0L)
def C0M:Nat→Option Jn:=B6 [(7,⟨[.t 1 false [.int .i64]],[.t 12,.t 13],true⟩),(250,⟨[.t 7 false [.own 100001000],.t 8 false [.int .i64],.r 100001000 5 (.int .u8)],lt 20 13 [.r 11,.r 31,.r 32],false⟩)]
abbrev B46:List PK:= [.val false (.rs 5 (.int .u8)) false,.val false (.int .i64) false,.val false (.int .i64) false]
abbrev B47:List RK:= [.val false (.sl 5 (.int .u8))]
def B48(f:A5g):Nat×Fn:=(80,⟨B46,B47,fun x=>f x.1 x.2.1 x.2.2.1⟩)
def C0N:Fn:=(B48 A3D).2
theorem C0O(f_s_l1In:L5):∀ x,(D4 cfg [A22 f_s_l1In] C0M 34 [.tmp 6] (Try.f80.body.getD .skip) B46 B47).fn x=A8w f_s_l1In x.1 x.2.1 x.2.2.1:=by intro x;kernel_rfl
theorem C0P:B3 Try.prog 80 C0N:=sm MO B4 (tc Try.call33 A3M A8) Try.func80 (by kernel_rfl) (by decide) (C0O K6)
def C5Y:Nat→Option Jn:=B6 [(7,⟨[.t 3 false [.int .i64]],lt 4 28 [],true⟩),(58,⟨[.t 3 false [.int .i64],.t 4 false [.int .i64]],lt 5 27 [],false⟩),(7462,⟨[.t 3 false [.int .i64],.t 5 false [.int .i64]],lt 20 12 [.t 6],false⟩)]
abbrev C1S:List PK:= [.val false (.rs 5 (.int .u8)) false]
abbrev C1T:List RK:= [.val false (.int .i64)]
def B2T(f:A3r):Nat×Fn:=(81,⟨C1S,C1T,fun x=>f x.1⟩)
def C5Z:Fn:=(B2T A2h).2
theorem C5a:∀ x,(D4 cfg [] C5Y 34 [.tmp 2] (Try.f81.body.getD .skip) C1S C1T).fn x=B6O x.1:=by intro x;kernel_rfl
theorem B6q:B3 Try.prog 81 C5Z:=sm MO B4 A8 Try.func81 (by kernel_rfl) (by decide) (C5a)
abbrev B49:List PK:= [.val true (.pair (.int .i64) (.pair (.int .i64) (.pair (.int .i64) (.pair .str (.pair (.int .i64) (.rs 5 (.int .u8))))))) false]
abbrev B4A:List RK:= [.val false .str]
def A9G(f:A1K):Nat×Fn:=(67,⟨B49,B4A,fun x=>f x.1⟩)
def C0Q:Fn:=(A9G A0C).2
theorem C0R(f_s_PutBig:A5g)(f_s_Crc:A3r):∀ x,(D4 cfg [B48 f_s_PutBig,B2T f_s_Crc] (B6 []) 38 [.tmp 2] (Try.f67.body.getD .skip) B49 B4A).fn x=A8x f_s_PutBig f_s_Crc x.1:=by intro x;kernel_rfl
theorem B4B:B3 Try.prog 67 C0Q:=sm MO B4 (tc Try.call80 C0P (tc Try.call81 B6q A8)) Try.func67 (by kernel_rfl) (by decide) (C0R A3D A2h)
def C0S:Nat→Option Jn:=B6 [(3,⟨[],lt 10 15 [],false⟩),(15,⟨[.t 8 false [.int .i64]],lt 25 15 [.t 9],true⟩),(122,⟨[.t 8 false [.int .i64],.t 9 false [.int .i64]],lt 25 15 [],false⟩)]
abbrev B4C:List PK:= [.val false (.rs 5 (.int .u8)) false,.val false (.int .i64) false,.val false (.int .i64) false]
abbrev B4D:List RK:= [.val false (.int .i64),.val false .bool]
def B4E(f:A5h):Nat×Fn:=(78,⟨B4C,B4D,fun x=>f x.1 x.2.1 x.2.2.1⟩)
def C0T:Fn:=(B4E A1L).2
theorem C0U(f_s_l1In:L5):∀ x,(D4 cfg [A22 f_s_l1In] C0S 41 [.tmp 6,.tmp 7] (Try.f78.body.getD .skip) B4C B4D).fn x=A8y f_s_l1In x.1 x.2.1 x.2.2.1:=by intro x;kernel_rfl
theorem C0V:B3 Try.prog 78 C0T:=sm MO B4 (tc Try.call33 A3M A8) Try.func78 (by kernel_rfl) (by decide) (C0U K6)
def C2U:Nat→Option Jn:=B6 [(3,⟨[],lt 3 21 [],false⟩),(26,⟨[.t 3 false [.int .i64]],lt 4 20 [],false⟩)]
abbrev B5q:List PK:= [.val false .str false]
abbrev B5r:List RK:= [.val false .bool]
def A2u(f:O6):Nat×Fn:=(32,⟨B5q,B5r,fun x=>f x.1⟩)
def C2V:Fn:=(A2u N3).2
theorem C2W(f_s_l1In:L5):∀ x,(D4 cfg [A22 f_s_l1In] C2U 27 [.tmp 2] (Try.f32.body.getD .skip) B5q B5r).fn x=B0Z f_s_l1In x.1:=by intro x;kernel_rfl
theorem A4o:B3 Try.prog 32 C2V:=sm MO B4 (tc Try.call33 A3M A8) Try.func32 (by kernel_rfl) (by decide) (C2W K6)
def C2X:Nat→Option Jn:=B6 [(3,⟨[],lt 3 16 [],false⟩),(943,⟨[.t 43 false [.bool]],[.t 44,.t 45],true⟩)]
abbrev B5s:List PK:= [.val true (.pair (.int .i64) (.pair (.int .i64) (.pair (.int .i64) (.pair .str (.pair (.int .i64) (.rs 5 (.int .u8))))))) false]
abbrev B5t:List RK:= [.val false .bool]
def B5u(f:A7u):Nat×Fn:=(79,⟨B5s,B5t,fun x=>f x.1⟩)
def C2Y:Fn:=(B5u A4h).2
theorem C2Z(f_s_l11Id:O6)(f_s_l1In:L5):∀ x,(D4 cfg [A2u f_s_l11Id,A22 f_s_l1In] C2X 55 [.tmp 2] (Try.f79.body.getD .skip) B5s B5t).fn x=B0a f_s_l11Id f_s_l1In x.1:=by intro x;kernel_rfl
theorem C2a:B3 Try.prog 79 C2Y:=sm MO B4 (tc Try.call32 A4o (tc Try.call33 A3M A8)) Try.func79 (by kernel_rfl) (by decide) (C2Z N3 K6)
def C0W:Nat→Option Jn:=B6 [(255,⟨[],lt 42 21 [],false⟩),(4095,⟨[],lt 87 15 [],false⟩)]
abbrev B4F:List PK:= [.val false .str false]
abbrev B4G:List RK:= [.val true A2b,.val false .bool]
def A3N(f:M4):Nat×Fn:=(66,⟨B4F,B4G,fun x=>f x.1⟩)
def C0X:Fn:=(A3N F8).2
theorem C0Y(f_s_l13Put:A1K)(f_s_GetBig:A5h)(f_s_RecOk:A7u):∀ x,(D4 cfg [A9G f_s_l13Put,B4E f_s_GetBig,B5u f_s_RecOk] C0W 127 [.cell 2 66,.tmp 3] (Try.f66.body.getD .skip) B4F B4G).fn x=A8z f_s_l13Put f_s_GetBig f_s_RecOk x.1:=by intro x;kernel_rfl
theorem A5x:B3 Try.prog 66 C0X:=sm MO B4 (tc Try.call67 B4B (tc Try.call78 C0V (tc Try.call79 C2a A8))) Try.func66 (by kernel_rfl) (by decide) (C0Y A0C A1L A4h)
def B6r:Nat→Option Jn:=B6 [(122,⟨[.t 3 false [.own 100000000],.t 4 false [.int .i64],.t 5 false [.int .i64],.r 100000000 66 A2b],lt 40 6 (lt 9 30 [.b 6,.r 8,.r 42,.r 43,.r 94213,.t 6,.t 7]),false⟩)]
abbrev B09:List PK:= [.val true (.pair (.rs 9 .str) (.rs 9 .str)) false]
abbrev B0A:List RK:= [.val false (.sl 66 A2b)]
def B0B(f:S6):Nat×Fn:=(63,⟨B09,B0A,fun x=>f x.1⟩)
def B6s:Fn:=(B0B M9).2
theorem B6t(f_s_GetRec:M4):∀ x,(D4 cfg [A3N f_s_GetRec] B6r 47 [.tmp 2] (Try.f63.body.getD .skip) B09 B0A).fn x=A5i f_s_GetRec x.1:=by intro x;kernel_rfl
theorem B6u:B3 Try.prog 63 B6s:=sm MO B4 (tc Try.call66 A5x A8) Try.func63 (by kernel_rfl) (by decide) (B6t F8)
def C2b:Nat→Option Jn:=B6 [(26,⟨[.t 5 false [.int .i64]],lt 6 13 [],false⟩)]
abbrev B5v:List PK:= [.val false (.rs 36 kUp) false,.val false .str false]
abbrev B5w:List RK:= [.val false (.int .i64)]
def A1Z(f:L8):Nat×Fn:=(34,⟨B5v,B5w,fun x=>f x.1 x.2.1⟩)
def C2c:Fn:=(A1Z J4).2
theorem C2d:∀ x,(D4 cfg [] C2b 20 [.tmp 4] (Try.f34.body.getD .skip) B5v B5w).fn x=B0b x.1 x.2.1:=by intro x;kernel_rfl
theorem A2v:B3 Try.prog 34 C2c:=sm MO B4 A8 Try.func34 (by kernel_rfl) (by decide) (C2d)
def A3O:Nat→Option Jn:=B6 [(58,⟨[.t 3 false [.own 100000000],.t 4 false [.int .i64],.r 100000000 36 (.pair .str (.pair (.int .i64) (.pair (.rs 5 (.int .u8)) .bool)))],lt 7 19 [.b 5,.r 6,.r 17,.r 20,.r 24,.r 25,.t 5],false⟩)]
abbrev X1:List PK:= [.val false (.rs 36 kUp) false]
abbrev X2:List RK:= [.val false (.sl 36 (.pair .str (.pair (.int .i64) (.pair (.rs 5 (.int .u8)) .bool))))]
def N9(f:J1):Nat×Fn:=(61,⟨X1,X2,fun x=>f x.1⟩)
def A3P:Fn:=(N9 H6).2
theorem A3Q:∀ x,(D4 A85 [] A3O 27 [.tmp 2] (Try.f61.body.getD .skip) X1 X2).fn x=A0h x.1:=by intro x;kernel_rfl
theorem X3:B3 Try.prog 61 A3P:=sm MO T0 A8 Try.func61 (by kernel_rfl) (by decide) (A3Q)
def A4p:Nat→Option Jn:=B6 [(15,⟨[.t 5 false [.own 11],.t 6 false [.int .i64],.r 11 36 (.pair .str (.pair (.int .i64) (.pair (.rs 5 (.int .u8)) .bool)))],lt 15 23 [.x 21,.x 33,.x 35],true⟩),(60,⟨[.t 5 false [.own 11],.t 6 false [.int .i64],.r 11 36 (.pair .str (.pair (.int .i64) (.pair (.rs 5 (.int .u8)) .bool)))],lt 15 23 [.x 21,.x 33,.x 35],false⟩),(120,⟨[],lt 15 13 [.x 21],false⟩)]
abbrev A0T:List PK:= [.val false (.rs 36 kUp) false,.val true (.pair .str (.pair (.int .i64) (.pair (.rs 5 (.int .u8)) .bool))) false]
abbrev A0U:List RK:= [.val false (.sl 36 (.pair .str (.pair (.int .i64) (.pair (.rs 5 (.int .u8)) .bool))))]
def A0V(f:L9):Nat×Fn:=(82,⟨A0T,A0U,fun x=>f x.1 x.2.1⟩)
def A4q:Fn:=(A0V I5).2
theorem A4r(f_s_l14CopyUps:J1):∀ x,(D4 A85 [N9 f_s_l14CopyUps] A4p 43 [.tmp 4] (Try.f82.body.getD .skip) A0T A0U).fn x=Q4 f_s_l14CopyUps x.1 x.2.1:=by intro x;kernel_rfl
theorem A4s:B3 Try.prog 82 A4q:=sm MO T0 (tc Try.call61 X3 A8) Try.func82 (by kernel_rfl) (by decide) (A4r H6)
def A5y:Nat→Option Jn:=B6 [(4074,⟨[],lt 43 27 [],false⟩)]
abbrev A0q:List PK:= [.val false (.sl 36 (.pair .str (.pair (.int .i64) (.pair (.rs 5 (.int .u8)) .bool)))) false,.val true (.pair (.int .i64) (.pair (.int .i64) (.pair (.int .i64) (.pair .str (.pair (.int .i64) (.rs 5 (.int .u8))))))) false]
abbrev A0r:List RK:= [.val false (.sl 36 (.pair .str (.pair (.int .i64) (.pair (.rs 5 (.int .u8)) .bool)))),.val false .bool]
def T1(f:E7):Nat×Fn:=(68,⟨A0q,A0r,fun x=>f x.1 x.2.1⟩)
def A5z:Fn:=(T1 D6).2
theorem A60(f_s_l14At:L8)(f_s_l14CopyUps:J1)(f_s_l14Make_r98_0_r99_0:L9):∀ x,(D4 cfg [A1Z f_s_l14At,A7L f_s_l14CopyUps,A0V f_s_l14Make_r98_0_r99_0] A5y 114 [.tmp 4,.tmp 5] (Try.f68.body.getD .skip) A0q A0r).fn x=S7 f_s_l14At f_s_l14CopyUps f_s_l14Make_r98_0_r99_0 x.1 x.2.1:=by intro x;kernel_rfl
theorem A0s:B3 Try.prog 68 A5z:=sm MO B4 (tc Try.call34 A2v (tc Try.call61 B43 (tc Try.call82 A4s A8))) Try.func68 (by kernel_rfl) (by decide) (A60 J4 H6 I5)
def B4H:Nat→Option Jn:=B6 [(58,⟨[.t 5 false [.int .i64]],lt 11 58 [],false⟩)]
abbrev A7M:List PK:= [.val false (.rs 36 kUp) false,.val false (.rs 36 kUp) false]
abbrev A7N:List RK:= [.val false .bool]
def A7O(f:A0j):Nat×Fn:=(65,⟨A7M,A7N,fun x=>f x.1 x.2.1⟩)
def B4I:Fn:=(A7O W7).2
theorem B4J:∀ x,(D4 cfg [] B4H 69 [.tmp 4] (Try.f65.body.getD .skip) A7M A7N).fn x=A3E x.1 x.2.1:=by intro x;kernel_rfl
theorem B4K:B3 Try.prog 65 B4I:=sm MO B4 A8 Try.func65 (by kernel_rfl) (by decide) (B4J)
def A9H:Nat→Option Jn:=B6 [(7,⟨[.t 4 false [.own 100000000],.r 100000000 36 (.pair .str (.pair (.int .i64) (.pair (.rs 5 (.int .u8)) .bool)))],lt 9 17 (lt 5 3 [.r 8,.r 90112,.t 27]),false⟩),(58,⟨[.t 4 false [.own 100000000],.t 5 false [.int .i64],.r 100000000 36 (.pair .str (.pair (.int .i64) (.pair (.rs 5 (.int .u8)) .bool)))],lt 9 17 [.r 8,.r 90112,.t 6,.t 7,.t 27],false⟩)]
abbrev A3R:List PK:= [.val false (.rs 66 A2b) false]
abbrev A3S:List RK:= [.val false (.sl 36 (.pair .str (.pair (.int .i64) (.pair (.rs 5 (.int .u8)) .bool)))),.val false .bool]
def A0J(f:L2):Nat×Fn:=(64,⟨A3R,A3S,fun x=>f x.1⟩)
def A9I:Fn:=(A0J I1).2
theorem A9J(f_s_l14One_r93_0_r94_0:E7):∀ x,(D4 A85 [T1 f_s_l14One_r93_0_r94_0] A9H 29 [.tmp 2,.tmp 3] (Try.f64.body.getD .skip) A3R A3S).fn x=A0D f_s_l14One_r93_0_r94_0 x.1:=by intro x;kernel_rfl
theorem A3T:B3 Try.prog 64 A9I:=sm MO T0 (tc Try.call68 A0s A8) Try.func64 (by kernel_rfl) (by decide) (A9J D6)
def B8n:Nat→Option Jn:=B6 [(3,⟨[],lt 9 10 [],false⟩),(31,⟨[],lt 27 33 [],false⟩),(506,⟨[.t 6 false [.int .i64]],lt 62 26 [.b 7,.r 319493,.t 7,.t 8],false⟩)]
abbrev B1l:List PK:= [.val true (.pair (.pair (.rs 9 .str) (.rs 9 .str)) (.pair (.int .i64) (.pair (.int .i64) (.rs 36 kUp)))) false]
abbrev B1m:List RK:= [.val false .bool]
def A0W(f:K2):Nat×Fn:=(31,⟨B1l,B1m,fun x=>f x.1⟩)
def B8o:Fn:=(A0W D0).2
theorem B8p(f_s_l1In:L5)(f_s_DiskOk:W6)(f_s_ScanRecs:S6)(f_s_FoldRecs_r98_0:L2)(f_s_l14SameUps:A0j)(f_s_GetRec:M4):∀ x,(D4 cfg [A22 f_s_l1In,A5w f_s_DiskOk,B0B f_s_ScanRecs,A0J f_s_FoldRecs_r98_0,A7O f_s_l14SameUps,A3N f_s_GetRec] B8n 88 [.tmp 2] (Try.f31.body.getD .skip) B1l B1m).fn x=A3u f_s_l1In f_s_DiskOk f_s_ScanRecs f_s_FoldRecs_r98_0 f_s_l14SameUps f_s_GetRec x.1:=by intro x;kernel_rfl
theorem A23:B3 Try.prog 31 B8o:=sm MO B4 (tc Try.call33 A3M (tc Try.call62 A9F (tc Try.call63 B6u (tc Try.call64 A3T (tc Try.call65 B4K (tc Try.call66 A5x A8)))))) Try.func31 (by kernel_rfl) (by decide) (B8p K6 M3 M9 I1 W7 F8)
abbrev B1n:List PK:= [.val true (.pair (.pair (.rs 9 .str) (.rs 9 .str)) (.pair (.int .i64) (.pair (.int .i64) (.rs 36 kUp)))) false]
abbrev B1o:List RK:= [.val false (.int .i64)]
def A24(f:N2):Nat×Fn:=(35,⟨B1n,B1o,fun x=>f x.1⟩)
def B8q:Fn:=(A24 L7).2
theorem B8r:∀ x,(D4 cfg [] (B6 []) 10 [.tmp 2] (Try.f35.body.getD .skip) B1n B1o).fn x=A71 x.1:=by intro x;kernel_rfl
theorem A46:B3 Try.prog 35 B8q:=sm MO B4 A8 Try.func35 (by kernel_rfl) (by decide) (B8r)
abbrev A3U:List PK:= [.ptr (.pair Y9 (.pair (.int .i64) (.pair (.int .i64) (.sl 36 (.pair .str (.pair (.int .i64) (.pair (.rs 5 (.int .u8)) .bool))))))),.val true (.pair (.int .i64) (.pair (.int .i64) (.pair (.int .i64) (.pair .str (.pair (.int .i64) (.rs 5 (.int .u8))))))) false]
abbrev A3V:List RK:= []
def O0(f:D3):Nat×Fn:=(36,⟨A3U,A3V,fun x=>f x.1 x.2.1⟩)
def A9K:Fn:=(O0 C2).2
theorem A9L(f_s_l13Put:A1K)(f_s_l14One_r93_0_r94_0:E7):∀ x,(D4 cfg [A9G f_s_l13Put,T1 f_s_l14One_r93_0_r94_0] (B6 []) 46 [] (Try.f36.body.getD .skip) A3U A3V).fn x=A0E f_s_l13Put f_s_l14One_r93_0_r94_0 x.1 x.2.1:=by intro x;kernel_rfl
theorem T2:B3 Try.prog 36 A9K:=sm MO B4 (tc Try.call67 B4B (tc Try.call68 A0s A8)) Try.func36 (by kernel_rfl) (by decide) (A9L A0C D6)
abbrev B8s:List PK:= [.val true (.pair (.pair (.rs 9 .str) (.rs 9 .str)) (.pair (.int .i64) (.pair (.int .i64) (.rs 36 kUp)))) false,.val false .str false]
abbrev B8t:List RK:= [.val true kUp,.val false .bool]
def B4L(f:A4i):Nat×Fn:=(46,⟨B8s,B8t,fun x=>f x.1 x.2.1⟩)
def C4U:Fn:=(B4L Z1).2
theorem C4V(f_s_l14At:L8):∀ x,(D4 cfg [A1Z f_s_l14At] (B6 []) 26 [.cell 4 36,.tmp 5] (Try.f46.body.getD .skip) B8s B8t).fn x=A9l f_s_l14At x.1 x.2.1:=by intro x;kernel_rfl
theorem B8u:B3 Try.prog 46 C4U:=sm MO B4 (tc Try.call34 A2v A8) Try.func46 (by kernel_rfl) (by decide) (C4V J4)
abbrev A8a:List PK:= [.val true (.pair (.rs 9 .str) (.rs 9 .str)) false]
abbrev A8b:List RK:= [.val true Y9]
def A8c(f:A1g):Nat×Fn:=(99,⟨A8a,A8b,fun x=>f x.1⟩)
def B4w:Fn:=(A8c Z2).2
theorem B4x:∀ x,(D4 cfg [] (B6 []) 12 [.cell 2 26] (Try.f99.body.getD .skip) A8a A8b).fn x=A4E x.1:=by intro x;kernel_rfl
theorem B4y:B3 Try.prog 99 B4w:=sm MO B4 A8 Try.func99 (by kernel_rfl) (by decide) (B4x)
def B6v:Nat→Option Jn:=B6 [(58,⟨[.t 3 false [.int .i64],.t 4 false [.int .i64]],lt 5 27 [.b 5,.r 86021],false⟩)]
abbrev B0C:List PK:= [.val true (.pair (.rs 9 .str) (.rs 9 .str)) false]
abbrev B0D:List RK:= [.val false (.int .i64)]
def B0E(f:A2i):Nat×Fn:=(100,⟨B0C,B0D,fun x=>f x.1⟩)
def B6w:Fn:=(B0E A0l).2
theorem B6x(f_s_GetRec:M4):∀ x,(D4 cfg [A3N f_s_GetRec] B6v 33 [.tmp 2] (Try.f100.body.getD .skip) B0C B0D).fn x=A5j f_s_GetRec x.1:=by intro x;kernel_rfl
theorem B6y:B3 Try.prog 100 B6w:=sm MO B4 (tc Try.call66 A5x A8) Try.func100 (by kernel_rfl) (by decide) (B6x F8)
def B6z:Nat→Option Jn:=B6 [(122,⟨[.t 6 false [.int .i64],.b 5 [.own 36864,.own 36865],.r 36864 9 .str,.r 36865 9 .str],lt 13 35 [.x 36,.x 38,.x 45,.x 47],false⟩),(1956,⟨[.t 29 false [.bool]],lt 20 9 [],true⟩)]
abbrev B0F:List PK:= [.val true (.pair (.rs 9 .str) (.rs 9 .str)) false,.val false (.rs 4 .bool) false]
abbrev B0G:List RK:= [.val true Y9]
def B0H(f:A2j):Nat×Fn:=(93,⟨B0F,B0G,fun x=>f x.1 x.2.1⟩)
def B70:Fn:=(B0H Y0).2
theorem B71(f_s_l12Copy:R7)(f_s_DiskOk:W6):∀ x,(D4 cfg [A45 f_s_l12Copy,A5w f_s_DiskOk] B6z 49 [.cell 4 26] (Try.f93.body.getD .skip) B0F B0G).fn x=A5k f_s_l12Copy f_s_DiskOk x.1 x.2.1:=by intro x;kernel_rfl
theorem B72:B3 Try.prog 93 B70:=sm MO B4 (tc Try.call60 A7I (tc Try.call62 A9F A8)) Try.func93 (by kernel_rfl) (by decide) (B71 O9 M3)
abbrev A0X:List PK:= [.val true (.pair (.pair (.rs 9 .str) (.rs 9 .str)) (.pair (.int .i64) (.pair (.int .i64) (.rs 36 kUp)))) false]
abbrev A0Y:List RK:= [.val true (.pair Y9 (.pair (.int .i64) (.pair (.int .i64) (.sl 36 (.pair .str (.pair (.int .i64) (.pair (.rs 5 (.int .u8)) .bool)))))))]
def G4(f:K1):Nat×Fn:=(30,⟨A0X,A0Y,fun x=>f x.1⟩)
def A4t:Fn:=(G4 I4).2
theorem A4u(f_s_l12Copy:R7)(f_s_l14CopyUps:J1):∀ x,(D4 A85 [A45 f_s_l12Copy,N9 f_s_l14CopyUps] (B6 []) 14 [.cell 2 29] (Try.f30.body.getD .skip) A0X A0Y).fn x=A70 f_s_l12Copy f_s_l14CopyUps x.1:=by intro x;kernel_rfl
theorem I8:B3 Try.prog 30 A4t:=sm MO T0 (tc Try.call60 A7I (tc Try.call61 X3 A8)) Try.func30 (by kernel_rfl) (by decide) (A4u O9 H6)
def B0m:Nat→Option Jn:=B6 [(7,⟨[],lt 33 10 (lt 26 6 (lt 11 14 [])),false⟩),(28,⟨[.t 11 false [.bool]],lt 12 13 [],true⟩)]
abbrev A4v:List PK:= [.val true (.pair (.pair (.rs 9 .str) (.rs 9 .str)) (.pair (.int .i64) (.pair (.int .i64) (.rs 36 kUp)))) false,.val false .str false,.val false (.int .i64) false]
abbrev A4w:List RK:= [.val true (.pair Y9 (.pair (.int .i64) (.pair (.int .i64) (.sl 36 (.pair .str (.pair (.int .i64) (.pair (.rs 5 (.int .u8)) .bool))))))),.val false (.int .i64)]
def A4x(f:Y1):Nat×Fn:=(8,⟨A4v,A4w,fun x=>f x.1 x.2.1 x.2.2.1⟩)
def B0n:Fn:=(A4x Q5).2
theorem B0o(f_s_l14Copy:K1)(f_s_StoreOk:K2)(f_s_l11Id:O6)(f_s_l1In:L5)(f_s_l14At:L8)(f_s_l14Left:N2)(f_s_l14Write_r96_0:D3):∀ x,(D4 A85 [G4 f_s_l14Copy,A0W f_s_StoreOk,A2u f_s_l11Id,A22 f_s_l1In,A1Z f_s_l14At,A24 f_s_l14Left,O0 f_s_l14Write_r96_0] B0m 49 [.cell 6 29,.tmp 7] (Try.f8.body.getD .skip) A4v A4w).fn x=A1O f_s_l14Copy f_s_StoreOk f_s_l11Id f_s_l1In f_s_l14At f_s_l14Left f_s_l14Write_r96_0 x.1 x.2.1 x.2.2.1:=by intro x;kernel_rfl
theorem B0p:B3 Try.prog 8 B0n:=sm MO T0 (tc Try.call30 I8 (tc Try.call31 A23 (tc Try.call32 A4o (tc Try.call33 A3M (tc Try.call34 A2v (tc Try.call35 A46 (tc Try.call36 T2 A8))))))) Try.func8 (by kernel_rfl) (by decide) (B0o I4 D0 N3 K6 J4 L7 C2)
abbrev A3W:List PK:= [.val false (.int .i64) false]
abbrev A3X:List RK:= [.val true (.pair Y9 (.pair (.int .i64) (.pair (.int .i64) (.sl 36 (.pair .str (.pair (.int .i64) (.pair (.rs 5 (.int .u8)) .bool)))))))]
def A3Y(f:A2f):Nat×Fn:=(23,⟨A3W,A3X,fun x=>f x.1⟩)
def A9M:Fn:=(A3Y A2g).2
theorem A9N(f_s_DiskNew:A3q):∀ x,(D4 A85 [B1i f_s_DiskNew] (B6 []) 6 [.cell 2 29] (Try.f23.body.getD .skip) A3W A3X).fn x=A5e f_s_DiskNew x.1:=by intro x;kernel_rfl
theorem A9O:B3 Try.prog 23 A9M:=sm MO T0 (tc Try.call51 B8i A8) Try.func23 (by kernel_rfl) (by decide) (A9N A1w)
def B1u:Nat→Option Jn:=B6 [(7,⟨[],lt 17 14 [],false⟩),(127,⟨[],lt 64 9 (lt 44 19 []),false⟩),(255,⟨[.b 10 [.own 100003000,.own 100003001,.int .i64,.int .i64,.own 100003002],.r 100003000 9 .str,.r 100003001 9 .str,.r 100003002 36 (.pair .str (.pair (.int .i64) (.pair (.rs 5 (.int .u8)) .bool)))],lt 74 26 [.r 92,.r 97,.r 69632,.r 69633,.r 69636,.r 411648,.r 411649,.r 411652,.t 13,.t 14],true⟩),(508,⟨[.t 44 false [.bool]],lt 45 18 [],true⟩),(2042,⟨[.t 13 false [.int .i64],.b 10 [.own 100003000,.own 100003001,.int .i64,.int .i64,.own 100003002],.r 100003000 9 .str,.r 100003001 9 .str,.r 100003002 36 (.pair .str (.pair (.int .i64) (.pair (.rs 5 (.int .u8)) .bool)))],lt 74 26 [.r 92,.r 97,.r 69632,.r 69633,.r 69636,.r 411648,.r 411649,.r 411652,.t 14],false⟩),(65353,⟨[.t 14 false [.int .i64]],lt 82 6 [],true⟩)]
abbrev A69:List PK:= [.val true (.pair (.pair (.rs 9 .str) (.rs 9 .str)) (.pair (.int .i64) (.pair (.int .i64) (.rs 36 kUp)))) false,.val false .str false,.val false (.int .i64) false,.val false (.rs 5 (.int .u8)) false]
abbrev A6A:List RK:= [.val true (.pair Y9 (.pair (.int .i64) (.pair (.int .i64) (.sl 36 (.pair .str (.pair (.int .i64) (.pair (.rs 5 (.int .u8)) .bool))))))),.val false (.int .i64)]
def A28(f:O7):Nat×Fn:=(15,⟨A69,A6A,fun x=>f x.1 x.2.1 x.2.2.1 x.2.2.2.1⟩)
def B1v:Fn:=(A28 H7).2
theorem B1w(f_s_l14Copy:K1)(f_s_StoreOk:K2)(f_s_l11Id:O6)(f_s_l1In:L5)(f_s_l14At:L8)(f_s_l14Left:N2)(f_s_l14Write_r96_0:D3):∀ x,(D4 A85 [G4 f_s_l14Copy,A0W f_s_StoreOk,A2u f_s_l11Id,A22 f_s_l1In,A1Z f_s_l14At,A24 f_s_l14Left,O0 f_s_l14Write_r96_0] B1u 101 [.cell 8 29,.tmp 9] (Try.f15.body.getD .skip) A69 A6A).fn x=A05 f_s_l14Copy f_s_StoreOk f_s_l11Id f_s_l1In f_s_l14At f_s_l14Left f_s_l14Write_r96_0 x.1 x.2.1 x.2.2.1 x.2.2.2.1:=by intro x;kernel_rfl
theorem A6B:B3 Try.prog 15 B1v:=sm MO T0 (tc Try.call30 I8 (tc Try.call31 A23 (tc Try.call32 A4o (tc Try.call33 A3M (tc Try.call34 A2v (tc Try.call35 A46 (tc Try.call36 T2 A8))))))) Try.func15 (by kernel_rfl) (by decide) (B1w I4 D0 N3 K6 J4 L7 C2)
def B0q:Nat→Option Jn:=B6 [(7,⟨[],lt 13 8 [],false⟩)]
abbrev A4y:List PK:= [.val true (.pair (.pair (.rs 9 .str) (.rs 9 .str)) (.pair (.int .i64) (.pair (.int .i64) (.rs 36 kUp)))) false,.val false .str false,.val false (.int .i64) false]
abbrev A4z:List RK:= [.val true (.pair Y9 (.pair (.int .i64) (.pair (.int .i64) (.sl 36 (.pair .str (.pair (.int .i64) (.pair (.rs 5 (.int .u8)) .bool))))))),.val false (.int .i64)]
def A50(f:Y2):Nat×Fn:=(89,⟨A4y,A4z,fun x=>f x.1 x.2.1 x.2.2.1⟩)
def B0r:Fn:=(A50 Q6).2
theorem B0s(f_s_l14Copy:K1)(f_s_StoreOk:K2)(f_s_l11Id:O6)(f_s_l14At:L8)(f_s_l14Left:N2)(f_s_l14Write_r96_0:D3)(f_s_Crc:A3r):∀ x,(D4 A85 [G4 f_s_l14Copy,A0W f_s_StoreOk,A2u f_s_l11Id,A1Z f_s_l14At,A24 f_s_l14Left,O0 f_s_l14Write_r96_0,B2T f_s_Crc] B0q 62 [.cell 6 29,.tmp 7] (Try.f89.body.getD .skip) A4y A4z).fn x=A1P f_s_l14Copy f_s_StoreOk f_s_l11Id f_s_l14At f_s_l14Left f_s_l14Write_r96_0 f_s_Crc x.1 x.2.1 x.2.2.1:=by intro x;kernel_rfl
theorem B0t:B3 Try.prog 89 B0r:=sm MO T0 (tc Try.call30 I8 (tc Try.call31 A23 (tc Try.call32 A4o (tc Try.call34 A2v (tc Try.call35 A46 (tc Try.call36 T2 (tc Try.call81 B6q A8))))))) Try.func89 (by kernel_rfl) (by decide) (B0s I4 D0 N3 J4 L7 C2 A2h)
def B0u:Nat→Option Jn:=B6 [(7,⟨[],lt 26 4 (lt 19 6 (lt 9 9 [])),false⟩),(28,⟨[.t 9 false [.bool]],lt 10 8 [],true⟩)]
abbrev A51:List PK:= [.val true (.pair (.pair (.rs 9 .str) (.rs 9 .str)) (.pair (.int .i64) (.pair (.int .i64) (.rs 36 kUp)))) false,.val false .str false]
abbrev A52:List RK:= [.val true (.pair Y9 (.pair (.int .i64) (.pair (.int .i64) (.sl 36 (.pair .str (.pair (.int .i64) (.pair (.rs 5 (.int .u8)) .bool))))))),.val false (.int .i64)]
def A53(f:Y3):Nat×Fn:=(90,⟨A51,A52,fun x=>f x.1 x.2.1⟩)
def B0v:Fn:=(A53 Q7).2
theorem B0w(f_s_l14Copy:K1)(f_s_StoreOk:K2)(f_s_l11Id:O6)(f_s_l14At:L8)(f_s_l14Left:N2)(f_s_l14Write_r96_0:D3):∀ x,(D4 A85 [G4 f_s_l14Copy,A0W f_s_StoreOk,A2u f_s_l11Id,A1Z f_s_l14At,A24 f_s_l14Left,O0 f_s_l14Write_r96_0] B0u 35 [.cell 4 29,.tmp 5] (Try.f90.body.getD .skip) A51 A52).fn x=A1Q f_s_l14Copy f_s_StoreOk f_s_l11Id f_s_l14At f_s_l14Left f_s_l14Write_r96_0 x.1 x.2.1:=by intro x;kernel_rfl
theorem B0x:B3 Try.prog 90 B0v:=sm MO T0 (tc Try.call30 I8 (tc Try.call31 A23 (tc Try.call32 A4o (tc Try.call34 A2v (tc Try.call35 A46 (tc Try.call36 T2 A8)))))) Try.func90 (by kernel_rfl) (by decide) (B0w I4 D0 N3 J4 L7 C2)
abbrev A2Q:List PK:= [.val true (.pair (.pair (.rs 9 .str) (.rs 9 .str)) (.pair (.int .i64) (.pair (.int .i64) (.rs 36 kUp)))) false]
abbrev A2R:List RK:= [.val true (.pair Y9 (.pair (.int .i64) (.pair (.int .i64) (.sl 36 (.pair .str (.pair (.int .i64) (.pair (.rs 5 (.int .u8)) .bool)))))))]
def A2S(f:A1h):Nat×Fn:=(91,⟨A2Q,A2R,fun x=>f x.1⟩)
def A8A:Fn:=(A2S A1i).2
theorem A8B(f_s_l14Copy:K1)(f_s_StoreOk:K2)(f_s_FlushDisk:A1g):∀ x,(D4 A85 [G4 f_s_l14Copy,A0W f_s_StoreOk,A8c f_s_FlushDisk] (B6 []) 13 [.cell 2 29] (Try.f91.body.getD .skip) A2Q A2R).fn x=A4F f_s_l14Copy f_s_StoreOk f_s_FlushDisk x.1:=by intro x;kernel_rfl
theorem A8C:B3 Try.prog 91 A8A:=sm MO T0 (tc Try.call30 I8 (tc Try.call31 A23 (tc Try.call99 B4y A8))) Try.func91 (by kernel_rfl) (by decide) (A8B I4 D0 Z2)
end
end Go.Proofs.Ytfnmpcbehimkgaa.Ev
