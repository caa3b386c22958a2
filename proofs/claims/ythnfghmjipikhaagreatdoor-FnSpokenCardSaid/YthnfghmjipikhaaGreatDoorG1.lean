/- Each function of the program does what its plain function says. -/
import Derived.Test.YthnfghmjipikhaaGreatDoorTy
import Derived.Test.YthnfghmjipikhaaGreatDoorPu
import Derived.Test.YthnfghmjipikhaaGreatDoorIns
import Derived.Test.YthnfghmjipikhaaGreatDoorLibT
import Derived.Test.YthnfghmjipikhaaGreatDoorLibB
import Derived.Test.YthnfghmjipikhaaGreatDoorChunk
import Derived.Test.YthnfghmjipikhaaGreatDoorUnHuff
set_option linter.unusedVariables false
set_option maxRecDepth 100000
namespace Go.Proofs.YthnfghmjipikhaaGreatDoor.Ev
noncomputable section
abbrev C3C:List PK:= [.val false .str false,.val false .str false]
abbrev C3D:List RK:= [.val false (.sl 9 .str)]
def A6p(f:V1):Nat×Fn:=(231,⟨C3C,C3D,fun x=>f x.1 x.2.1⟩)
def C3E:Fn:=(A6p A15).2
theorem B3I:B4 Tryz.prog 231 C3E:=D3R
abbrev C7j:List PK:= [.val false .str false,.val false .str false]
abbrev C7k:List RK:= [.val false .str,.val false .str,.val false .bool]
def B6H(f:A3E):Nat×Fn:=(232,⟨C7j,C7k,fun x=>f x.1 x.2.1⟩)
def C7l:Fn:=(B6H A9g).2
theorem C7m:B4 Tryz.prog 232 C7l:=E02
abbrev C65:List PK:= [.val false .str false]
abbrev C66:List RK:= [.val false (.int .i64),.val false (.fnc 999999999)]
def B4n(f:A1o):Nat×Fn:=(233,⟨C65,C66,fun x=>f x.1⟩)
def C67:Fn:=(B4n A7o).2
theorem C68:B4 Tryz.prog 233 C67:=D5v
abbrev A2l:List PK:= [.val false (.sl 150 A6) false,.val false (.int .i64) false,.val false (.sl 150 A6) false]
abbrev A2m:List RK:= [.val false (.sl 150 A6)]
def R2(f:G0):Nat×Fn:=(194,⟨A2l,A2m,fun x=>f x.1 x.2.1 x.2.2.1⟩)
def A2n:Fn:=(R2 D8).2
theorem A2o:B4 Tryz.prog 194 A2n:=B7u A6 (by decide)
abbrev C69:List PK:= [.val false (.int .i64) false]
abbrev C6A:List RK:= [.val false .str]
def B4o(f:A1p):Nat×Fn:=(142,⟨C69,C6A,fun x=>f x.1⟩)
def C6B:Fn:=(B4o A0Q).2
theorem C6C:B4 Tryz.prog 142 C6B:=D5u
abbrev A4U:List PK:= [.val false (.sl 113 F8) false,.val false (.int .i64) false,.val false (.int .i64) false]
abbrev A4V:List RK:= [.val false (.sl 113 F8)]
def U8(f:H6):Nat×Fn:=(86,⟨A4U,A4V,fun x=>f x.1 x.2.1 x.2.2.1⟩)
def A4W:Fn:=(U8 E5).2
theorem A4a:B4 Tryz.prog 86 A4W:=C0h F8 (by decide)
abbrev B0p:List PK:= [.val false (.sl 5 (.int .u8)) false,.val false (.int .i64) false]
abbrev B0q:List RK:= [.val false (.sl 5 (.int .u8))]
def A4T(f:Q7):Nat×Fn:=(153,⟨B0p,B0q,fun x=>f x.1 x.2.1⟩)
def B0r:Fn:=(A4T Q8).2
theorem B0s:B4 Tryz.prog 153 B0r:=C3B
abbrev C6D:List PK:= [.val false (.int .i64) false]
abbrev C6E:List RK:= [.val false .str]
def B4p(f:A4e):Nat×Fn:=(132,⟨C6D,C6E,fun x=>f x.1⟩)
def C6F:Fn:=(B4p A4f).2
theorem C6G:B4 Tryz.prog 132 C6F:=fun x y h=>by cases h
abbrev A3b:List PK:= [.val false (.sl 150 A6) false,.val false (.int .i64) false]
abbrev A3c:List RK:= [.val false (.sl 150 A6)]
def A3d(f:L0):Nat×Fn:=(230,⟨A3b,A3c,fun x=>f x.1 x.2.1⟩)
def A3e:Fn:=(A3d L1).2
theorem B6I:B4 Tryz.prog 230 A3e:=C0i
abbrev D8V:List PK:= [.val false (.rs 5 (.int .u8)) false]
abbrev D8W:List RK:= [.val false .bool]
def D8a(f:C47):Nat×Fn:=(30,⟨D8V,D8W,fun x=>f x.1⟩)
def E4i:Fn:=(D8a C48).2
theorem E4j:∀ x,(C8 cfg [] (B7 []) 6 [.tmp 2] (Tryz.f30.body.getD .skip) D8V D8W).fn x=D0Q x.1:=by intro x;kernel_rfl
theorem E4k:B4 Tryz.prog 30 E4i:=sm MO B0 A8 Tryz.func30 (by kernel_rfl) (by decide) (E4j)
abbrev C2M:List PK:= [.val false (.int .i64) false,.val false (.int .i64) false,.val false (.int .i64) false]
abbrev C2N:List RK:= [.val false .bool]
def K6(f:C3):Nat×Fn:=(61,⟨C2M,C2N,fun x=>f x.1 x.2.1 x.2.2.1⟩)
def D3U:Fn:=(K6 C4).2
theorem D3V:∀ x,(C8 cfg [] (B7 []) 15 [.tmp 6] (Tryz.f61.body.getD .skip) C2M C2N).fn x=C21 x.1 x.2.1 x.2.2.1:=by intro x;kernel_rfl
theorem N4:B4 Tryz.prog 61 D3U:=sm MO B0 A8 Tryz.func61 (by kernel_rfl) (by decide) (D3V)
abbrev C6H:List PK:= [.val true A6 false]
abbrev C6I:List RK:= [.val false (.int .i64)]
def B7v(f:A1q):Nat×Fn:=(179,⟨C6H,C6I,fun x=>f x.1⟩)
def D61:Fn:=(B7v A1r).2
theorem D62:∀ x,(C8 cfg [] (B7 []) 11 [.tmp 2] (Tryz.f179.body.getD .skip) C6H C6I).fn x=C57 x.1:=by intro x;kernel_rfl
theorem C6J:B4 Tryz.prog 179 D61:=sm MO B0 A8 Tryz.func179 (by kernel_rfl) (by decide) (D62)
def D63:Nat->Option Jn:=B7 [(58,⟨[.t 3 false [.int .i64],.t 9 false [.int .i64]],lt 10 8 [.b 5,.t 5],false⟩)]
abbrev C6K:List PK:= [.val true (.pair (.int .i64) (.rs 150 A6)) false]
abbrev C6L:List RK:= [.val false (.int .i64)]
def C6M(f:B29):Nat×Fn:=(138,⟨C6K,C6L,fun x=>f x.1⟩)
def D64:Fn:=(C6M A7p).2
theorem D65(f_i_sizeOf:A1q):∀ x,(C8 cfg [B7v f_i_sizeOf] D63 19 [.tmp 2] (Tryz.f138.body.getD .skip) C6K C6L).fn x=B7T f_i_sizeOf x.1:=by intro x;kernel_rfl
theorem D66:B4 Tryz.prog 138 D64:=sm MO B0 (tc Tryz.call179 C6J A8) Tryz.func138 (by kernel_rfl) (by decide) (D65 A1r)
abbrev C2O:List PK:= [.val true (.pair (.int .i64) (.rs 150 A6)) false]
abbrev C2P:List RK:= [.val false .bool]
def A9K(f:T2):Nat×Fn:=(63,⟨C2O,C2P,fun x=>f x.1⟩)
def D3W:Fn:=(A9K M9).2
theorem D3a(f_i_inRange:C3)(f_i_SizeOf:B29):∀ x,(C8 cfg [K6 f_i_inRange,C6M f_i_SizeOf] (B7 []) 13 [.tmp 2] (Tryz.f63.body.getD .skip) C2O C2P).fn x=B4D f_i_inRange f_i_SizeOf x.1:=by intro x;kernel_rfl
theorem B4q:B4 Tryz.prog 63 D3W:=sm MO B0 (tc Tryz.call61 N4 (tc Tryz.call138 D66 A8)) Tryz.func63 (by kernel_rfl) (by decide) (D3a C4 A7p)
abbrev A3f:List PK:= [.val false (.rs 5 (.int .u8)) false]
abbrev A3g:List RK:= [.val false (.sl 5 (.int .u8))]
def E0(f:B5):Nat×Fn:=(144,⟨A3f,A3g,fun x=>f x.1⟩)
def B04:Fn:=(E0 B2).2
theorem B05:∀ x,(C8 cfg [] (B7 []) 8 [.tmp 2] (Tryz.f144.body.getD .skip) A3f A3g).fn x=Q0 x.1:=by intro x;kernel_rfl
theorem F9:B4 Tryz.prog 144 B04:=sm MO B0 A8 Tryz.func144 (by kernel_rfl) (by decide) (B05)
def D67:Nat->Option Jn:=B7 [(3,⟨[],lt 11 15 [],false⟩),(15,⟨[.t 8 false [.int .i64]],lt 26 17 [.t 10],true⟩),(122,⟨[.t 8 false [.int .i64],.t 33 false [.int .i64]],lt 34 9 [.t 10],false⟩)]
abbrev C6N:List PK:= [.val false (.rs 5 (.int .u8)) false,.val false (.int .i64) false,.val false (.int .i64) false]
abbrev C6O:List RK:= [.val false (.int .i64),.val false .bool]
def B7w(f:A5R):Nat×Fn:=(155,⟨C6N,C6O,fun x=>f x.1 x.2.1 x.2.2.1⟩)
def D68:Fn:=(B7w A1s).2
theorem D69(f_i_inRange:C3):∀ x,(C8 cfg [K6 f_i_inRange] D67 44 [.tmp 6,.tmp 7] (Tryz.f155.body.getD .skip) C6N C6O).fn x=B7U f_i_inRange x.1 x.2.1 x.2.2.1:=by intro x;kernel_rfl
theorem C6P:B4 Tryz.prog 155 D68:=sm MO B0 (tc Tryz.call61 N4 A8) Tryz.func155 (by kernel_rfl) (by decide) (D69 C4)
def D16:Nat->Option Jn:=B7 [(3,⟨[],lt 13 9 [],false⟩)]
abbrev B9B:List PK:= [.val false (.rs 5 (.int .u8)) false,.val false (.int .i64) false]
abbrev B9C:List RK:= [.val true K9,.val false (.int .i64),.val false (.int .i64)]
def B30(f:A0n):Nat×Fn:=(103,⟨B9B,B9C,fun x=>f x.1 x.2.1⟩)
def D17:Fn:=(B30 V9).2
theorem D18(f_slices_Clone_byte_byte:B5)(f_i_GetBig:A5R):∀ x,(C8 cfg [E0 f_slices_Clone_byte_byte,B7w f_i_GetBig] D16 80 [.cell 4 82,.tmp 5,.tmp 6] (Tryz.f103.body.getD .skip) B9B B9C).fn x=B2A f_slices_Clone_byte_byte f_i_GetBig x.1 x.2.1:=by intro x;kernel_rfl
theorem B9D:B4 Tryz.prog 103 D17:=sm MO B0 (tc Tryz.call144 F9 (tc Tryz.call155 C6P A8)) Tryz.func103 (by kernel_rfl) (by decide) (D18 B2 A1s)
abbrev B9E:List PK:= [.val true (.pair (.int .i64) (.pair .bool (.rs 5 (.int .u8)))) false]
abbrev B9F:List RK:= [.val false .bool]
def B31(f:A2C):Nat×Fn:=(104,⟨B9E,B9F,fun x=>f x.1⟩)
def D19:Fn:=(B31 A0o).2
theorem D1A(f_i_inRange:C3):∀ x,(C8 cfg [K6 f_i_inRange] (B7 []) 24 [.tmp 2] (Tryz.f104.body.getD .skip) B9E B9F).fn x=B2B f_i_inRange x.1:=by intro x;kernel_rfl
theorem B9G:B4 Tryz.prog 104 D19:=sm MO B0 (tc Tryz.call61 N4 A8) Tryz.func104 (by kernel_rfl) (by decide) (D1A C4)
def D6A:Nat->Option Jn:=B7 [(3,⟨[],lt 3 53 [.b 4],false⟩),(26,⟨[.t 8 false [.int .i64]],lt 9 47 [.b 4,.t 3,.t 4],false⟩),(1689,⟨[],lt 13 28 [],false⟩)]
abbrev C6Q:List PK:= [.val true (.pair (.int .i64) (.pair (.rs 5 (.int .u8)) (.pair (.pair (.int .i64) (.pair .bool (.rs 5 (.int .u8)))) (.pair (.pair (.int .i64) (.rs 150 A6)) (.pair (.pair (.int .i64) (.rs 150 A6)) (.pair (.rs 113 F8) E9)))))) false]
abbrev C6R:List RK:= [.val false .bool]
def C6S(f:B2C):Nat×Fn:=(116,⟨C6Q,C6R,fun x=>f x.1⟩)
def D6B:Fn:=(C6S A7q).2
theorem D6C(f_i_inRange:C3):∀ x,(C8 cfg [K6 f_i_inRange] D6A 60 [.tmp 2] (Tryz.f116.body.getD .skip) C6Q C6R).fn x=B7V f_i_inRange x.1:=by intro x;kernel_rfl
theorem D6D:B4 Tryz.prog 116 D6B:=sm MO B0 (tc Tryz.call61 N4 A8) Tryz.func116 (by kernel_rfl) (by decide) (D6C C4)
def D6E:Nat->Option Jn:=B7 [(3,⟨[],lt 6 27 [],false⟩),(7,⟨[],lt 33 16 [],false⟩),(15,⟨[],lt 49 31 [],false⟩)]
abbrev C6T:List PK:= [.val true (.pair (.int .i64) (.pair (.rs 5 (.int .u8)) (.pair (.pair (.int .i64) (.pair .bool (.rs 5 (.int .u8)))) (.pair (.pair (.int .i64) (.rs 150 A6)) (.pair (.pair (.int .i64) (.rs 150 A6)) (.pair (.rs 113 F8) E9)))))) false]
abbrev C6U:List RK:= [.val false .bool]
def B80(f:A5S):Nat×Fn:=(43,⟨C6T,C6U,fun x=>f x.1⟩)
def D6F:Fn:=(B80 A40).2
theorem D6G(f_i_inRange:C3)(f_i_TableOk:T2)(f_i_GetFrame:A0n)(f_i_GatherOk:A2C)(f_i_strsOk:B2C):∀ x,(C8 cfg [K6 f_i_inRange,A9K f_i_TableOk,B30 f_i_GetFrame,B31 f_i_GatherOk,C6S f_i_strsOk] D6E 89 [.tmp 2] (Tryz.f43.body.getD .skip) C6T C6U).fn x=B7W f_i_inRange f_i_TableOk f_i_GetFrame f_i_GatherOk f_i_strsOk x.1:=by intro x;kernel_rfl
theorem C6V:B4 Tryz.prog 43 D6F:=sm MO B0 (tc Tryz.call61 N4 (tc Tryz.call63 B4q (tc Tryz.call103 B9D (tc Tryz.call104 B9G (tc Tryz.call116 D6D A8))))) Tryz.func43 (by kernel_rfl) (by decide) (D6G C4 M9 V9 A0o A7q)
abbrev S4:List PK:= [.val false (.rs 150 A6) false]
abbrev S5:List RK:= [.val false (.sl 150 A6)]
def K5(f:C9):Nat×Fn:=(139,⟨S4,S5,fun x=>f x.1⟩)
def A3A:Fn:=(K5 C2).2
theorem A3B:∀ x,(C8 cfg [] (B7 []) 8 [.tmp 2] (Tryz.f139.body.getD .skip) S4 S5).fn x=K4 x.1:=by intro x;kernel_rfl
theorem S6:B4 Tryz.prog 139 A3A:=sm MO B0 A8 Tryz.func139 (by kernel_rfl) (by decide) (A3B)
abbrev B6J:List PK:= [.val true (.pair (.int .i64) (.rs 150 A6)) false]
abbrev B6K:List RK:= [.val true A3w]
def A6G(f:O1):Nat×Fn:=(64,⟨B6J,B6K,fun x=>f x.1⟩)
def C7n:Fn:=(A6G L2).2
theorem C7o(f_slices_Clone_impl_Field_impl_Field:C9):∀ x,(C8 cfg [K5 f_slices_Clone_impl_Field_impl_Field] (B7 []) 9 [.cell 2 32] (Tryz.f64.body.getD .skip) B6J B6K).fn x=A9h f_slices_Clone_impl_Field_impl_Field x.1:=by intro x;kernel_rfl
theorem B06:B4 Tryz.prog 64 C7n:=sm MO B0 (tc Tryz.call139 S6 A8) Tryz.func64 (by kernel_rfl) (by decide) (C7o C2)
abbrev B4r:List PK:= [.val true (.pair (.int .i64) (.pair .bool (.rs 5 (.int .u8)))) false]
abbrev B4s:List RK:= [.val true C46]
def A8F(f:A0R):Nat×Fn:=(107,⟨B4r,B4s,fun x=>f x.1⟩)
def C6W:Fn:=(A8F U0).2
theorem C6a(f_slices_Clone_byte_byte:B5):∀ x,(C8 cfg [E0 f_slices_Clone_byte_byte] (B7 []) 8 [.cell 2 52] (Tryz.f107.body.getD .skip) B4r B4s).fn x=A7r f_slices_Clone_byte_byte x.1:=by intro x;kernel_rfl
theorem B4t:B4 Tryz.prog 107 C6W:=sm MO B0 (tc Tryz.call144 F9 A8) Tryz.func107 (by kernel_rfl) (by decide) (C6a B2)
def D1B:Nat->Option Jn:=B7 [(1018,⟨[.t 27 false [.int .i64],.b 3 [.int .i64,.own 40960,.int .i64,.bool,.own 57346,.int .i64,.own 73729,.int .i64,.own 86017,.own 100000000,.int .i64,.int .i64],.r 40960 5 (.int .u8),.r 57346 5 (.int .u8),.r 73729 150 A6,.r 86017 150 A6,.r 100000000 113 F8],lt 28 14 [.b 5,.r 38,.r 39,.r 139264,.t 5],false⟩)]
abbrev B9H:List PK:= [.val true (.pair (.int .i64) (.pair (.rs 5 (.int .u8)) (.pair (.pair (.int .i64) (.pair .bool (.rs 5 (.int .u8)))) (.pair (.pair (.int .i64) (.rs 150 A6)) (.pair (.pair (.int .i64) (.rs 150 A6)) (.pair (.rs 113 F8) E9)))))) false]
abbrev B9I:List RK:= [.val true C9J]
def B9J(f:A7I):Nat×Fn:=(82,⟨B9H,B9I,fun x=>f x.1⟩)
def D1C:Fn:=(B9J A4i).2
theorem D1D(f_i_copyTable:O1)(f_i_copyGather:A0R)(f_slices_Clone_byte_byte:B5):∀ x,(C8 cfg [A6G f_i_copyTable,A8F f_i_copyGather,E0 f_slices_Clone_byte_byte] D1B 43 [.cell 2 55] (Tryz.f82.body.getD .skip) B9H B9I).fn x=B2D f_i_copyTable f_i_copyGather f_slices_Clone_byte_byte x.1:=by intro x;kernel_rfl
theorem D1E:B4 Tryz.prog 82 D1C:=sm MO B0 (tc Tryz.call64 B06 (tc Tryz.call107 B4t (tc Tryz.call144 F9 A8))) Tryz.func82 (by kernel_rfl) (by decide) (D1D L2 U0 B2)
abbrev C2Q:List PK:= [.val true (.pair (.int .i64) (.pair (.int .i64) (.pair (.int .i64) (.rs 5 (.int .u8))))) false]
abbrev C2R:List RK:= [.val false .bool]
def C2S(f:A90):Nat×Fn:=(156,⟨C2Q,C2R,fun x=>f x.1⟩)
def D3b:Fn:=(C2S Q3).2
theorem D3c(f_i_inRange:C3):∀ x,(C8 cfg [K6 f_i_inRange] (B7 []) 22 [.tmp 2] (Tryz.f156.body.getD .skip) C2Q C2R).fn x=A4L f_i_inRange x.1:=by intro x;kernel_rfl
theorem D3d:B4 Tryz.prog 156 D3b:=sm MO B0 (tc Tryz.call61 N4 A8) Tryz.func156 (by kernel_rfl) (by decide) (D3c C4)
abbrev B6L:List PK:= [.val true (.pair (.int .i64) (.pair (.int .i64) (.pair (.int .i64) (.rs 5 (.int .u8))))) false,.val false (.int .i64) false]
abbrev B6M:List RK:= [.val false .bool]
def A0E(f:G4):Nat×Fn:=(109,⟨B6L,B6M,fun x=>f x.1 x.2.1⟩)
def C7p:Fn:=(A0E G5).2
theorem C7q:∀ x,(C8 cfg [] (B7 []) 10 [.tmp 4] (Tryz.f109.body.getD .skip) B6L B6M).fn x=B61 x.1 x.2.1:=by intro x;kernel_rfl
theorem A1T:B4 Tryz.prog 109 C7p:=sm MO B0 A8 Tryz.func109 (by kernel_rfl) (by decide) (C7q)
def D6H:Nat->Option Jn:=B7 [(235,⟨[.t 13 false [.bool]],[.t 14,.t 15],true⟩)]
abbrev C6b:List PK:= [.val true (.pair (.int .i64) (.pair (.int .i64) (.pair (.int .i64) (.rs 5 (.int .u8))))) false]
abbrev C6c:List RK:= [.val false .bool]
def C6d(f:B2E):Nat×Fn:=(157,⟨C6b,C6c,fun x=>f x.1⟩)
def D6I:Fn:=(C6d U1).2
theorem D6J(f_i_Frame_has:G4):∀ x,(C8 cfg [A0E f_i_Frame_has] D6H 40 [.tmp 2] (Tryz.f157.body.getD .skip) C6b C6c).fn x=A5T f_i_Frame_has x.1:=by intro x;kernel_rfl
theorem D6K:B4 Tryz.prog 157 D6I:=sm MO B0 (tc Tryz.call109 A1T A8) Tryz.func157 (by kernel_rfl) (by decide) (D6J G5)
def C7r:Nat->Option Jn:=B7 [(3,⟨[],lt 3 8 [],false⟩),(58,⟨[.t 13 false [.bool]],lt 14 6 [],true⟩)]
abbrev B6N:List PK:= [.val true (.pair (.int .i64) (.pair (.int .i64) (.pair (.int .i64) (.rs 5 (.int .u8))))) false]
abbrev B6O:List RK:= [.val false (.int .i64)]
def B07(f:A1L):Nat×Fn:=(105,⟨B6N,B6O,fun x=>f x.1⟩)
def C7s:Fn:=(B07 G6).2
theorem C7t(f_i_FrameOk:A90)(f_i_bodyOk:B2E):∀ x,(C8 cfg [C2S f_i_FrameOk,C6d f_i_bodyOk] C7r 30 [.tmp 2] (Tryz.f105.body.getD .skip) B6N B6O).fn x=A1M f_i_FrameOk f_i_bodyOk x.1:=by intro x;kernel_rfl
theorem B6P:B4 Tryz.prog 105 C7s:=sm MO B0 (tc Tryz.call156 D3d (tc Tryz.call157 D6K A8)) Tryz.func105 (by kernel_rfl) (by decide) (C7t Q3 U1)
abbrev B6Q:List PK:= [.val true (.pair (.int .i64) (.pair .bool (.rs 5 (.int .u8)))) false,.val true (.pair (.int .i64) (.pair (.int .i64) (.pair (.int .i64) (.rs 5 (.int .u8))))) false]
abbrev B6R:List RK:= [.val false .bool]
def B6S(f:A5s):Nat×Fn:=(106,⟨B6Q,B6R,fun x=>f x.1 x.2.1⟩)
def C7u:Fn:=(B6S A3F).2
theorem C7v:∀ x,(C8 cfg [] (B7 []) 21 [.tmp 4] (Tryz.f106.body.getD .skip) B6Q B6R).fn x=A9i x.1 x.2.1:=by intro x;kernel_rfl
theorem C7w:B4 Tryz.prog 106 C7u:=sm MO B0 A8 Tryz.func106 (by kernel_rfl) (by decide) (C7v)
def E05:Nat->Option Jn:=B7 [(7,⟨[.t 4 false [.ro 5 (.int .u8)],.t 5 false [.int .i64]],lt 9 11 [],false⟩),(31,⟨[.t 6 false [.int .i64]],lt 20 7 [],true⟩)]
abbrev C9i:List PK:= [.val true (.pair (.int .i64) (.pair (.int .i64) (.pair (.int .i64) (.rs 5 (.int .u8))))) false]
abbrev C9j:List RK:= [.val false (.sl 5 (.int .u8)),.val false .bool]
def C0j(f:A7c):Nat×Fn:=(108,⟨C9i,C9j,fun x=>f x.1⟩)
def E06:Fn:=(C0j A5U).2
theorem E07(f_i_Frame_has:G4)(f_slices_Clone_byte_byte:B5):∀ x,(C8 cfg [A0E f_i_Frame_has,E0 f_slices_Clone_byte_byte] E05 41 [.tmp 2,.tmp 3] (Tryz.f108.body.getD .skip) C9i C9j).fn x=C0I f_i_Frame_has f_slices_Clone_byte_byte x.1:=by intro x;kernel_rfl
theorem C9k:B4 Tryz.prog 108 E06:=sm MO B0 (tc Tryz.call109 A1T (tc Tryz.call144 F9 A8)) Tryz.func108 (by kernel_rfl) (by decide) (E07 G5 B2)
def E2w:Nat->Option Jn:=B7 [(3,⟨[],lt 10 14 [],false⟩),(6,⟨[.t 23 false [.bool]],lt 10 13 [],true⟩),(15,⟨[.b 7 [.int .i64,.bool,.own 100002000],.r 100002000 5 (.int .u8)],lt 42 14 (lt 31 9 [.r 54,.r 114690,.r 147456,.t 8,.t 9,.t 28,.t 29]),false⟩)]
abbrev D3e:List PK:= [.val true (.pair (.int .i64) (.pair .bool (.rs 5 (.int .u8)))) false,.val true (.pair (.int .i64) (.pair (.int .i64) (.pair (.int .i64) (.rs 5 (.int .u8))))) false]
abbrev D3f:List RK:= [.val true C46,.val false (.sl 5 (.int .u8)),.val false (.int .i64)]
def D3g(f:B8f):Nat×Fn:=(38,⟨D3e,D3f,fun x=>f x.1 x.2.1⟩)
def E30:Fn:=(D3g B4E).2
theorem E31(f_i_GatherOk:A2C)(f_i_FrameCode:A1L)(f_i_isInOrder:A5s)(f_i_copyGather:A0R)(f_i_Unpad:A7c)(f_i_Frame_has:G4):∀ x,(C8 cfg [B31 f_i_GatherOk,B07 f_i_FrameCode,B6S f_i_isInOrder,A8F f_i_copyGather,C0j f_i_Unpad,A0E f_i_Frame_has] E2w 68 [.cell 4 52,.tmp 5,.tmp 6] (Tryz.f38.body.getD .skip) D3e D3f).fn x=C58 f_i_GatherOk f_i_FrameCode f_i_isInOrder f_i_copyGather f_i_Unpad f_i_Frame_has x.1 x.2.1:=by intro x;kernel_rfl
theorem E32:B4 Tryz.prog 38 E30:=sm MO B0 (tc Tryz.call104 B9G (tc Tryz.call105 B6P (tc Tryz.call106 C7w (tc Tryz.call107 B4t (tc Tryz.call108 C9k (tc Tryz.call109 A1T A8)))))) Tryz.func38 (by kernel_rfl) (by decide) (E31 A0o G6 A3F U0 A5U G5)
def C3F:Nat->Option Jn:=B7 [(58,⟨[.t 1 false [.own 100000000],.t 9 false [.int .i64],.r 100000000 150 A6],lt 10 16 (lt 3 4 [.r 23,.r 24,.x 11]),false⟩)]
abbrev B3J:List PK:= []
abbrev B3K:List RK:= [.val false (.sl 150 A6)]
def B3L(f:A16):Nat×Fn:=(209,⟨B3J,B3K,fun x=>f⟩)
def C3G:Fn:=(B3L V2).2
theorem C3H(f_strings_Split:V1)(f_strings_Cut:A3E):∀ x,(C8 cfg [A6p f_strings_Split,B6H f_strings_Cut] C3F 27 [.tmp 0] (Tryz.f209.body.getD .skip) B3J B3K).fn x=B3F f_strings_Split f_strings_Cut:=by intro x;kernel_rfl
theorem C3I:B4 Tryz.prog 209 C3G:=sm MO B0 (tc Tryz.call231 B3I (tc Tryz.call232 C7m A8)) Tryz.func209 (by kernel_rfl) (by decide) (C3H A15 A9g)
abbrev B4u:List PK:= [.val false (.int .i64) false]
abbrev B4v:List RK:= [.val true A6,.val false .bool]
def B4w(f:A4j):Nat×Fn:=(217,⟨B4u,B4v,fun x=>f x.1⟩)
def C6e:Fn:=(B4w A4k).2
theorem C6f(f_i_inRange:C3)(f_i_firstFields:A16):∀ x,(C8 cfg [K6 f_i_inRange,B3L f_i_firstFields] (B7 []) 13 [.cell 2 150,.tmp 3] (Tryz.f217.body.getD .skip) B4u B4v).fn x=A7s f_i_inRange f_i_firstFields x.1:=by intro x;kernel_rfl
theorem C6g:B4 Tryz.prog 217 C6e:=sm MO B0 (tc Tryz.call61 N4 (tc Tryz.call209 C3I A8)) Tryz.func217 (by kernel_rfl) (by decide) (C6f C4 V2)
abbrev C2T:List PK:= [.val true (.pair (.int .i64) (.rs 150 A6)) false,.val false (.int .i64) false]
abbrev C2U:List RK:= [.val true A6,.val false .bool]
def C2V(f:A91):Nat×Fn:=(191,⟨C2T,C2U,fun x=>f x.1 x.2.1⟩)
def D3h:Fn:=(C2V A6Q).2
theorem D3i(f_i_FirstField:A4j):∀ x,(C8 cfg [B4w f_i_FirstField] (B7 []) 26 [.cell 4 150,.tmp 5] (Tryz.f191.body.getD .skip) C2T C2U).fn x=B4F f_i_FirstField x.1 x.2.1:=by intro x;kernel_rfl
theorem D3j:B4 Tryz.prog 191 D3h:=sm MO B0 (tc Tryz.call217 C6g A8) Tryz.func191 (by kernel_rfl) (by decide) (D3i A4k)
def C80:Nat->Option Jn:=B7 [(3,⟨[],lt 13 11 [],false⟩),(127,⟨[],lt 42 27 (lt 10 3 [.t 1]),false⟩),(1018,⟨[.t 1 false [.int .i64],.t 10 false [.int .i64],.t 11 false [.int .i64]],lt 42 27 [.t 12],false⟩),(2036,⟨[],lt 42 8 [],false⟩)]
abbrev B6T:List PK:= [.val false (.rs 5 (.int .u8)) false,.val false (.int .i64) false,.val false (.int .i64) false]
abbrev B6U:List RK:= [.val false (.int .i64),.val false (.int .i64),.val false .bool]
def B08(f:A1N):Nat×Fn:=(192,⟨B6T,B6U,fun x=>f x.1 x.2.1 x.2.2.1⟩)
def C81:Fn:=(B08 A09).2
theorem C82(f_i_inRange:C3):∀ x,(C8 cfg [K6 f_i_inRange] C80 73 [.tmp 6,.tmp 7,.tmp 8] (Tryz.f192.body.getD .skip) B6T B6U).fn x=A9j f_i_inRange x.1 x.2.1 x.2.2.1:=by intro x;kernel_rfl
theorem B6V:B4 Tryz.prog 192 C81:=sm MO B0 (tc Tryz.call61 N4 A8) Tryz.func192 (by kernel_rfl) (by decide) (C82 C4)
def D3k:Nat->Option Jn:=B7 [(7,⟨[.r 1 247 E9],lt 7 16 [.r 32768,.t 2,.t 3,.x 12,.x 20],true⟩),(58,⟨[.t 9 false [.int .i64],.r 1 247 E9],lt 10 13 [.t 2,.t 3,.x 12,.x 20],false⟩),(250,⟨[.t 4 false [.int .i64],.t 5 false [.int .i64],.r 1 247 E9],lt 23 22 [.t 6,.x 33,.x 40],false⟩),(32038,⟨[.t 4 false [.int .i64],.t 29 false [.int .i64],.r 1 247 E9],lt 30 15 [.t 6,.x 33,.x 40],false⟩)]
abbrev C2W:List PK:= []
abbrev C2a:List RK:= [.val false (.pa 257 E9)]
def C2b(f:A6R):Nat×Fn:=(210,⟨C2W,C2a,fun x=>f⟩)
def D3l:Fn:=(C2b A4M).2
theorem D3m(f_strings_Split:V1)(f_strconv_Atoi:A1o):∀ x,(C8 (cfg.withAr [(247,257,246)]) [A6p f_strings_Split,B4n f_strconv_Atoi] D3k 45 [.tmp 0] (Tryz.f210.body.getD .skip) C2W C2a).fn x=C22 f_strings_Split f_strconv_Atoi:=by intro x;kernel_rfl
theorem D3n:B4 Tryz.prog 210 D3l:=sm MO (A7b (l:= [(247,257,246)]) B0 ⟨B5W (f:=Tryz.t247) (ti:=⟨true,E9,16,[(0,1,false),(1,1,false)]⟩) Tryz.underlying247 (by kernel_rfl) (by kernel_rfl) (by kernel_rfl),trivial⟩) (tc Tryz.call231 B3I (tc Tryz.call233 C68 A8)) Tryz.func210 (by kernel_rfl) (by decide) (D3m A15 A7o)
def E33:Nat->Option Jn:=B7 [(7,⟨[.t 1 false [.own 100000001],.t 7 false [.int .i64],.t 8 false [.int .i64],.r 100000001 5 (.int .u8)],lt 12 43 [.b 10,.r 47,.r 48,.r 1100,.r 100001000,.t 9,.t 10],true⟩),(58,⟨[.t 1 false [.own 100000001],.t 7 false [.int .i64],.t 8 false [.int .i64],.t 9 false [.int .i64],.r 100000001 5 (.int .u8)],lt 12 43 [.b 10,.r 47,.r 48,.r 1100,.r 100001000,.t 10],false⟩),(14926,⟨[.t 1 false [.own 100001000],.t 7 false [.int .i64],.t 8 false [.int .i64],.r 100001000 5 (.int .u8)],lt 37 18 [.r 47,.r 48,.r 1100,.r 100000001],false⟩)]
abbrev D3o:List PK:= [.val false (.pa 257 E9) false,.val false (.sl 5 (.int .u8)) false,.val false .str false]
abbrev D3p:List RK:= [.val false (.sl 5 (.int .u8))]
def D3q(f:B4G):Nat×Fn:=(212,⟨D3o,D3p,fun x=>f x.1 x.2.1 x.2.2.1⟩)
def E34:Fn:=(D3q B0Q).2
theorem E35:∀ x,(C8 (cfg.withAr [(247,257,246)]) [] E33 72 [.tmp 6] (Tryz.f212.body.getD .skip) D3o D3p).fn x=C5A x.1 x.2.1 x.2.2.1:=by intro x;kernel_rfl
theorem E36:B4 Tryz.prog 212 E34:=sm MO (A7b (l:= [(247,257,246)]) B0 ⟨B5W (f:=Tryz.t247) (ti:=⟨true,E9,16,[(0,1,false),(1,1,false)]⟩) Tryz.underlying247 (by kernel_rfl) (by kernel_rfl) (by kernel_rfl),trivial⟩) A8 Tryz.func212 (by kernel_rfl) (by decide) (E35)
def D6L:Nat->Option Jn:=B7 [(63,⟨[.t 8 false [.own 100000001],.r 100000001 5 (.int .u8)],lt 71 8 (lt 28 41 (lt 11 4 [.b 9,.r 75,.r 76,.r 100001000])),false⟩),(506,⟨[.t 8 false [.own 100000001],.t 30 false [.int .i64],.b 9 [.int .i64,.int .i64],.r 100000001 5 (.int .u8)],lt 71 8 (lt 31 38 (lt 11 4 [.r 75,.r 76,.r 100001000])),false⟩),(129638,⟨[.t 8 false [.own 100001000],.t 12 false [.int .i64],.b 9 [.int .i64,.int .i64],.r 100001000 5 (.int .u8)],lt 71 7 (lt 34 35 [.r 75,.r 76,.r 100000001,.t 13,.t 14]),false⟩),(16593703,⟨[],lt 59 10 [],false⟩)]
abbrev D6M:List PK:= [.val false (.pa 257 E9) false,.val false (.rs 5 (.int .u8)) false]
abbrev D6N:List RK:= [.val false .str]
def C6h(f:B2G):Nat×Fn:=(265,⟨D6M,D6N,fun x=>f x.1 x.2.1⟩)
def D6O:Fn:=(C6h A7t).2
theorem D6P:∀ x,E6A D6L x=B7a x.1 x.2.1:=by intro x;kernel_rfl
theorem D6Q:B4 Tryz.prog 265 D6O:=E2v D6P
abbrev B6W:List PK:= [.val false (.rs 5 (.int .u8)) false,.val false (.rs 5 (.int .u8)) false]
abbrev B6a:List RK:= [.val false .bool]
def B6b(f:A5t):Nat×Fn:=(266,⟨B6W,B6a,fun x=>f x.1 x.2.1⟩)
def C83:Fn:=(B6b A5u).2
theorem C84:∀ x,(C8 cfg [] (B7 []) 10 [.tmp 4] (Tryz.f266.body.getD .skip) B6W B6a).fn x=A9k x.1 x.2.1:=by intro x;kernel_rfl
theorem C85:B4 Tryz.prog 266 C83:=sm MO B0 A8 Tryz.func266 (by kernel_rfl) (by decide) (C84)
abbrev C6i:List PK:= [.val false (.rs 5 (.int .u8)) false]
abbrev C6j:List RK:= [.val false .str,.val false .bool]
def C6k(f:B2H):Nat×Fn:=(242,⟨C6i,C6j,fun x=>f x.1⟩)
def D6R:Fn:=(C6k A7u).2
theorem D6S(f_i_codesOf:A6R)(f_i_huff:B4G)(f_i_unHuff:B2G)(f_bytes_Equal:A5t):∀ x,(C8 cfg [C2b f_i_codesOf,D3q f_i_huff,C6h f_i_unHuff,B6b f_bytes_Equal] (B7 []) 17 [.tmp 2,.tmp 3] (Tryz.f242.body.getD .skip) C6i C6j).fn x=B7b f_i_codesOf f_i_huff f_i_unHuff f_bytes_Equal x.1:=by intro x;kernel_rfl
theorem D6T:B4 Tryz.prog 242 D6R:=sm MO B0 (tc Tryz.call210 D3n (tc Tryz.call212 E36 (tc Tryz.call265 D6Q (tc Tryz.call266 C85 A8)))) Tryz.func242 (by kernel_rfl) (by decide) (D6S A4M B0Q A7t A5u)
def C86:Nat->Option Jn:=B7 [(7,⟨[],lt 19 14 [],false⟩)]
abbrev B6c:List PK:= [.val false (.rs 5 (.int .u8)) false,.val false (.int .i64) false]
abbrev B6d:List RK:= [.val false .str,.val false (.int .i64),.val false .bool]
def B6e(f:A5v):Nat×Fn:=(218,⟨B6c,B6d,fun x=>f x.1 x.2.1⟩)
def C87:Fn:=(B6e A3I).2
theorem C88(f_i_GetPrefix:A1N)(f_i_UnHuff:B2H):∀ x,(C8 cfg [B08 f_i_GetPrefix,C6k f_i_UnHuff] C86 65 [.tmp 4,.tmp 5,.tmp 6] (Tryz.f218.body.getD .skip) B6c B6d).fn x=A9l f_i_GetPrefix f_i_UnHuff x.1 x.2.1:=by intro x;kernel_rfl
theorem C89:B4 Tryz.prog 218 C87:=sm MO B0 (tc Tryz.call192 B6V (tc Tryz.call242 D6T A8)) Tryz.func218 (by kernel_rfl) (by decide) (C88 A09 A7u)
def C6l:Nat->Option Jn:=B7 [(14,⟨[.t 2 false [.int .i64],.t 14 false [.int .i64]],lt 15 10 [.b 4,.t 3,.t 4,.t 35,.x 17],false⟩)]
abbrev B50:List PK:= [.ptr A3w]
abbrev B51:List RK:= []
def A8G(f:A0S):Nat×Fn:=(195,⟨B50,B51,fun x=>f x.1⟩)
def C6m:Fn:=(A8G L3).2
theorem C6n(f_slices_Clone_impl_Field_impl_Field:C9)(f_i_sizeOf:A1q):∀ x,(C8 cfg [K5 f_slices_Clone_impl_Field_impl_Field,B7v f_i_sizeOf] C6l 36 [] (Tryz.f195.body.getD .skip) B50 B51).fn x=A7v f_slices_Clone_impl_Field_impl_Field f_i_sizeOf x.1:=by intro x;kernel_rfl
theorem B52:B4 Tryz.prog 195 C6m:=sm MO B0 (tc Tryz.call139 S6 (tc Tryz.call179 C6J A8)) Tryz.func195 (by kernel_rfl) (by decide) (C6n C2 A1r)
abbrev B6f:List PK:= [.ptr A3w,.val true A6 false]
abbrev B6g:List RK:= []
def B6h(f:A3J):Nat×Fn:=(161,⟨B6f,B6g,fun x=>f x.1 x.2.1⟩)
def C8A:Fn:=(B6h O2).2
theorem C8B(f_slices_Insert_impl_Field_impl_Field:G0)(f_i_Table_trim:A0S):∀ x,(C8 cfg [R2 f_slices_Insert_impl_Field_impl_Field,A8G f_i_Table_trim] (B7 []) 16 [] (Tryz.f161.body.getD .skip) B6f B6g).fn x=A5w f_slices_Insert_impl_Field_impl_Field f_i_Table_trim x.1 x.2.1:=by intro x;kernel_rfl
theorem C8C:B4 Tryz.prog 161 C8A:=sm MO B0 (tc Tryz.call194 A2o (tc Tryz.call195 B52 A8)) Tryz.func161 (by kernel_rfl) (by decide) (C8B D8 L3)
def D6U:Nat->Option Jn:=B7 [(7,⟨[],lt 8 8 [],false⟩)]
abbrev C6o:List PK:= [.val true (.pair (.int .i64) (.rs 150 A6)) false,.val false (.int .i64) false]
abbrev C6p:List RK:= [.val true A3w]
def C6q(f:B2I):Nat×Fn:=(196,⟨C6o,C6p,fun x=>f x.1 x.2.1⟩)
def D6V:Fn:=(C6q A7w).2
theorem D6W(f_i_inRange:C3)(f_i_TableOk:T2)(f_i_copyTable:O1)(f_i_Table_trim:A0S):∀ x,(C8 cfg [K6 f_i_inRange,A9K f_i_TableOk,A6G f_i_copyTable,A8G f_i_Table_trim] D6U 21 [.cell 4 32] (Tryz.f196.body.getD .skip) C6o C6p).fn x=B7c f_i_inRange f_i_TableOk f_i_copyTable f_i_Table_trim x.1 x.2.1:=by intro x;kernel_rfl
theorem D6a:B4 Tryz.prog 196 D6V:=sm MO B0 (tc Tryz.call61 N4 (tc Tryz.call63 B4q (tc Tryz.call64 B06 (tc Tryz.call195 B52 A8)))) Tryz.func196 (by kernel_rfl) (by decide) (D6W C4 M9 L2 L3)
abbrev A2s:List PK:= [.ptr (.pair (.rs 5 (.int .u8)) (.pair (.int .i64) (.pair (.int .i64) (.pair A3w (.sl 150 A6))))),.val false (.int .i64) false]
abbrev A2t:List RK:= []
def G8(f:D5):Nat×Fn:=(163,⟨A2s,A2t,fun x=>f x.1 x.2.1⟩)
def A8c:Fn:=(G8 C0).2
theorem A8d:∀ x,(C8 cfg [] (B7 []) 13 [] (Tryz.f163.body.getD .skip) A2s A2t).fn x=J1 x.1 x.2.1:=by intro x;kernel_rfl
theorem K3:B4 Tryz.prog 163 A8c:=sm MO B0 A8 Tryz.func163 (by kernel_rfl) (by decide) (A8d)
abbrev A1g:List PK:= [.ptr (.pair (.rs 5 (.int .u8)) (.pair (.int .i64) (.pair (.int .i64) (.pair A3w (.sl 150 A6))))),.val false (.int .i64) false]
abbrev A1h:List RK:= [.val false (.int .i64)]
def O0(f:F0):Nat×Fn:=(159,⟨A1g,A1h,fun x=>f x.1 x.2.1⟩)
def A7P:Fn:=(O0 D9).2
theorem A7Q(f_i_blockReader_fail:D5)(f_i_GetPrefix:A1N):∀ x,(C8 cfg [G8 f_i_blockReader_fail,B08 f_i_GetPrefix] (B7 []) 31 [.tmp 4] (Tryz.f159.body.getD .skip) A1g A1h).fn x=A0p f_i_blockReader_fail f_i_GetPrefix x.1 x.2.1:=by intro x;kernel_rfl
theorem T1:B4 Tryz.prog 159 A7P:=sm MO B0 (tc Tryz.call163 K3 (tc Tryz.call192 B6V A8)) Tryz.func159 (by kernel_rfl) (by decide) (A7Q C0 A09)
abbrev A25:List PK:= [.ptr (.pair (.rs 5 (.int .u8)) (.pair (.int .i64) (.pair (.int .i64) (.pair A3w (.sl 150 A6))))),.val false (.int .i64) false]
abbrev A26:List RK:= [.val true A6]
def U6(f:K7):Nat×Fn:=(158,⟨A25,A26,fun x=>f x.1 x.2.1⟩)
def A8H:Fn:=(U6 E2).2
theorem A8I(f_i_blockReader_fail:D5)(f_i_FieldAt:A91):∀ x,(C8 cfg [G8 f_i_blockReader_fail,C2V f_i_FieldAt] (B7 []) 21 [.cell 4 150] (Tryz.f158.body.getD .skip) A25 A26).fn x=A1V f_i_blockReader_fail f_i_FieldAt x.1 x.2.1:=by intro x;kernel_rfl
theorem A27:B4 Tryz.prog 158 A8H:=sm MO B0 (tc Tryz.call163 K3 (tc Tryz.call191 D3j A8)) Tryz.func158 (by kernel_rfl) (by decide) (A8I C0 A6Q)
abbrev A2u:List PK:= [.ptr (.pair (.rs 5 (.int .u8)) (.pair (.int .i64) (.pair (.int .i64) (.pair A3w (.sl 150 A6)))))]
abbrev A2v:List RK:= [.val false .str]
def A2w(f:W4):Nat×Fn:=(193,⟨A2u,A2v,fun x=>f x.1⟩)
def A8e:Fn:=(A2w J2).2
theorem A8f(f_i_blockReader_fail:D5)(f_i_GetString:A5v):∀ x,(C8 cfg [G8 f_i_blockReader_fail,B6e f_i_GetString] (B7 []) 35 [.tmp 2] (Tryz.f193.body.getD .skip) A2u A2v).fn x=W5 f_i_blockReader_fail f_i_GetString x.1:=by intro x;kernel_rfl
theorem A8g:B4 Tryz.prog 193 A8e:=sm MO B0 (tc Tryz.call163 K3 (tc Tryz.call218 C89 A8)) Tryz.func193 (by kernel_rfl) (by decide) (A8f C0 A3I)
def A6q:Nat->Option Jn:=B7 [(15,⟨[.b 6 [.str,.str],.b 1000 [.ro 5 (.int .u8),.int .i64,.int .i64,.int .i64,.own 100000000,.own 100000001],.r 100000000 150 A6,.r 100000001 150 A6],lt 22 6 (lt 10 11 [.r 43012,.r 43013,.r 55300,.r 55301,.r 112644,.r 112645]),false⟩)]
abbrev A1D:List PK:= [.ptr (.pair (.rs 5 (.int .u8)) (.pair (.int .i64) (.pair (.int .i64) (.pair A3w (.sl 150 A6))))),.val false (.int .i64) false]
abbrev A1E:List RK:= [.val true A6]
def A1F(f:L8):Nat×Fn:=(160,⟨A1D,A1E,fun x=>f x.1 x.2.1⟩)
def A6r:Fn:=(A1F H4).2
theorem A6s(f_i_blockReader_field:K7)(f_i_blockReader_number:F0)(f_i_blockReader_text:W4):∀ x,(C8 cfg [U6 f_i_blockReader_field,O0 f_i_blockReader_number,A2w f_i_blockReader_text] A6q 32 [.cell 4 150] (Tryz.f160.body.getD .skip) A1D A1E).fn x=R7 f_i_blockReader_field f_i_blockReader_number f_i_blockReader_text x.1 x.2.1:=by intro x;kernel_rfl
theorem A6t:B4 Tryz.prog 160 A6r:=sm MO B0 (tc Tryz.call158 A27 (tc Tryz.call159 T1 (tc Tryz.call193 A8g A8))) Tryz.func160 (by kernel_rfl) (by decide) (A6s E2 D9 J2)
def A7R:Nat->Option Jn:=B7 [(3,⟨[.b 1000 [.ro 5 (.int .u8),.int .i64,.int .i64,.int .i64,.own 100000000,.own 100000001],.r 100000000 150 A6,.r 100000001 150 A6],lt 7 13 [.r 30724,.r 30725,.r 83972,.r 83973],true⟩)]
abbrev A1i:List PK:= [.ptr (.pair (.rs 5 (.int .u8)) (.pair (.int .i64) (.pair (.int .i64) (.pair A3w (.sl 150 A6))))),.val false (.int .i64) false]
abbrev A1j:List RK:= []
def A1k(f:N6):Nat×Fn:=(162,⟨A1i,A1j,fun x=>f x.1 x.2.1⟩)
def A7S:Fn:=(A1k N7).2
theorem A7T(f_i_blockReader_number:F0)(f_i_blockReader_fail:D5)(f_i_Resize:B2I):∀ x,(C8 cfg [O0 f_i_blockReader_number,G8 f_i_blockReader_fail,C6q f_i_Resize] A7R 34 [] (Tryz.f162.body.getD .skip) A1i A1j).fn x=S7 f_i_blockReader_number f_i_blockReader_fail f_i_Resize x.1 x.2.1:=by intro x;kernel_rfl
theorem A7U:B4 Tryz.prog 162 A7S:=sm MO B0 (tc Tryz.call159 T1 (tc Tryz.call163 K3 (tc Tryz.call196 D6a A8))) Tryz.func162 (by kernel_rfl) (by decide) (A7T D9 C0 A7w)
def A8h:Nat->Option Jn:=B7 [(7,⟨[.b 5 [.str,.str],.b 1000 [.ro 5 (.int .u8),.int .i64,.int .i64,.int .i64,.own 100000000,.own 100000001],.r 100000000 150 A6,.r 100000001 150 A6],lt 16 27 [.r 1004,.r 1005,.r 75780,.r 75781,.r 100356,.r 100357,.r 104452,.r 104453,.r 124932,.r 124933,.r 165889],false⟩)]
abbrev A30:List PK:= [.ptr (.pair (.rs 5 (.int .u8)) (.pair (.int .i64) (.pair (.int .i64) (.pair A3w (.sl 150 A6))))),.val false (.int .i64) false]
abbrev A31:List RK:= []
def A32(f:K1):Nat×Fn:=(110,⟨A30,A31,fun x=>f x.1 x.2.1⟩)
def A8i:Fn:=(A32 E8).2
theorem A8j(f_i_blockReader_field:K7)(f_i_blockReader_number:F0)(f_i_blockReader_literal_r0_0:L8)(f_i_Table_add:A3J)(f_i_blockReader_resize_r0_0:N6)(f_i_blockReader_fail:D5):∀ x,(C8 cfg [U6 f_i_blockReader_field,O0 f_i_blockReader_number,A1F f_i_blockReader_literal_r0_0,B6h f_i_Table_add,A1k f_i_blockReader_resize_r0_0,G8 f_i_blockReader_fail] A8h 64 [] (Tryz.f110.body.getD .skip) A30 A31).fn x=U9 f_i_blockReader_field f_i_blockReader_number f_i_blockReader_literal_r0_0 f_i_Table_add f_i_blockReader_resize_r0_0 f_i_blockReader_fail x.1 x.2.1:=by intro x;kernel_rfl
theorem A8k:B4 Tryz.prog 110 A8i:=sm MO B0 (tc Tryz.call158 A27 (tc Tryz.call159 T1 (tc Tryz.call160 A6t (tc Tryz.call161 C8C (tc Tryz.call162 A7U (tc Tryz.call163 K3 A8)))))) Tryz.func110 (by kernel_rfl) (by decide) (A8j E2 D9 H4 O2 N7 C0)
def C8D:Nat->Option Jn:=B7 [(3,⟨[],lt 10 8 [],false⟩),(6,⟨[.t 17 false [.bool]],lt 10 7 [],true⟩),(15,⟨[.b 9 [.ro 5 (.int .u8),.int .i64,.int .i64,.int .i64,.own 100002000,.own 100002001],.r 100002000 150 A6,.r 100002001 150 A6],lt 24 12 [.r 94209,.r 149508,.r 149509],true⟩),(60,⟨[.b 9 [.ro 5 (.int .u8),.int .i64,.int .i64,.int .i64,.own 100002000,.own 100002001],.r 100002000 150 A6,.r 100002001 150 A6],lt 24 12 [.r 94209,.r 149508,.r 149509],false⟩)]
abbrev B6i:List PK:= [.val true (.pair (.int .i64) (.rs 150 A6)) false,.val false (.int .i64) false,.val false (.rs 5 (.int .u8)) false]
abbrev B6j:List RK:= [.val false (.sl 150 A6),.val true A3w,.val false (.int .i64)]
def B6k(f:A60):Nat×Fn:=(39,⟨B6i,B6j,fun x=>f x.1 x.2.1 x.2.2.1⟩)
def C8E:Fn:=(B6k A3K).2
theorem C8F(f_i_inRange:C3)(f_i_TableOk:T2)(f_i_copyTable:O1)(f_i_blockReader_next_r0_0:K1):∀ x,(C8 cfg [K6 f_i_inRange,A9K f_i_TableOk,A6G f_i_copyTable,A32 f_i_blockReader_next_r0_0] C8D 47 [.tmp 6,.cell 7 32,.tmp 8] (Tryz.f39.body.getD .skip) B6i B6j).fn x=A9m f_i_inRange f_i_TableOk f_i_copyTable f_i_blockReader_next_r0_0 x.1 x.2.1 x.2.2.1:=by intro x;kernel_rfl
theorem C8G:B4 Tryz.prog 39 C8E:=sm MO B0 (tc Tryz.call61 N4 (tc Tryz.call63 B4q (tc Tryz.call64 B06 (tc Tryz.call110 A8k A8)))) Tryz.func39 (by kernel_rfl) (by decide) (C8F C4 M9 L2 E8)
def D1F:Nat->Option Jn:=B7 [(7,⟨[.t 6 false [.int .i64]],lt 7 21 [.x 20],true⟩),(28,⟨[.t 6 false [.int .i64]],lt 7 21 [.x 20],false⟩)]
abbrev B9K:List PK:= [.ptr C9J,.val false (.int .i64) false]
abbrev B9L:List RK:= [.val false (.int .i64),.val false .bool]
def A7V(f:W6):Nat×Fn:=(83,⟨B9K,B9L,fun x=>f x.1 x.2.1⟩)
def D1G:Fn:=(A7V Q1).2
theorem D1H:∀ x,(C8 cfg [] D1F 48 [.tmp 4,.tmp 5] (Tryz.f83.body.getD .skip) B9K B9L).fn x=B2J x.1 x.2.1:=by intro x;kernel_rfl
theorem B32:B4 Tryz.prog 83 D1G:=sm MO B0 A8 Tryz.func83 (by kernel_rfl) (by decide) (D1H)
def D1I:Nat->Option Jn:=B7 [(26,⟨[.t 5 false [.bool]],[.t 6,.t 7],true⟩)]
abbrev B9M:List PK:= [.val false (.int .i64) false]
abbrev B9N:List RK:= [.val false (.int .i64),.val false (.int .i64)]
def B9O(f:A7K):Nat×Fn:=(261,⟨B9M,B9N,fun x=>f x.1⟩)
def D1J:Fn:=(B9O A4n).2
theorem D1K:∀ x,(C8 cfg [] D1I 12 [.tmp 2,.tmp 3] (Tryz.f261.body.getD .skip) B9M B9N).fn x=B2K x.1:=by intro x;kernel_rfl
theorem D1L:B4 Tryz.prog 261 D1J:=sm MO B0 A8 Tryz.func261 (by kernel_rfl) (by decide) (D1K)
def D1M:Nat->Option Jn:=B7 [(26,⟨[.t 5 false [.bool]],[.t 6,.t 7],true⟩),(107,⟨[.t 8 false [.bool]],[.t 9,.t 10],true⟩),(431,⟨[.t 11 false [.bool]],[.t 12,.t 13],true⟩)]
abbrev B9P:List PK:= [.val false (.int .i64) false]
abbrev B9Q:List RK:= [.val false (.int .i64),.val false (.int .i64)]
def B9R(f:A7L):Nat×Fn:=(262,⟨B9P,B9Q,fun x=>f x.1⟩)
def D1N:Fn:=(B9R A4o).2
theorem D1O:∀ x,(C8 cfg [] D1M 16 [.tmp 2,.tmp 3] (Tryz.f262.body.getD .skip) B9P B9Q).fn x=B2L x.1:=by intro x;kernel_rfl
theorem D1P:B4 Tryz.prog 262 D1N:=sm MO B0 A8 Tryz.func262 (by kernel_rfl) (by decide) (D1O)
def B9S:Nat->Option Jn:=B7 [(26,⟨[.t 5 false [.bool]],lt 6 4 [],true⟩)]
abbrev A9L:List PK:= [.val false (.int .i64) false]
abbrev A9M:List RK:= [.val false (.int .i64),.val false (.int .i64)]
def A9N(f:A1b):Nat×Fn:=(263,⟨A9L,A9M,fun x=>f x.1⟩)
def B9T:Fn:=(A9N W7).2
theorem B9U:∀ x,(C8 cfg [] B9S 13 [.tmp 2,.tmp 3] (Tryz.f263.body.getD .skip) A9L A9M).fn x=A4p x.1:=by intro x;kernel_rfl
theorem B9V:B4 Tryz.prog 263 B9T:=sm MO B0 A8 Tryz.func263 (by kernel_rfl) (by decide) (B9U)
def C0k:Nat->Option Jn:=B7 [(26,⟨[.t 5 false [.bool]],lt 6 4 [],true⟩)]
abbrev B0t:List PK:= [.val false (.int .i64) false]
abbrev B0u:List RK:= [.val false (.int .i64),.val false (.int .i64)]
def B0v(f:A2E):Nat×Fn:=(264,⟨B0t,B0u,fun x=>f x.1⟩)
def C0l:Fn:=(B0v A0T).2
theorem C0m:∀ x,(C8 cfg [] C0k 14 [.tmp 2,.tmp 3] (Tryz.f264.body.getD .skip) B0t B0u).fn x=A5V x.1:=by intro x;kernel_rfl
theorem C0n:B4 Tryz.prog 264 C0l:=sm MO B0 A8 Tryz.func264 (by kernel_rfl) (by decide) (C0m)
abbrev B53:List PK:= [.val false (.int .i64) false,.val false (.int .i64) false]
abbrev B54:List RK:= [.val false (.int .i64),.val false (.int .i64)]
def A8J(f:A0U):Nat×Fn:=(240,⟨B53,B54,fun x=>f x.1 x.2.1⟩)
def C6r:Fn:=(A8J L4).2
theorem C6s(f_i_inRange:C3)(f_i_stepIdle:A7K)(f_i_stepOpen:A7L)(f_i_stepHalfThere:A1b)(f_i_stepHalfHere:A2E):∀ x,(C8 cfg [K6 f_i_inRange,B9O f_i_stepIdle,B9R f_i_stepOpen,A9N f_i_stepHalfThere,B0v f_i_stepHalfHere] (B7 []) 40 [.tmp 4,.tmp 5] (Tryz.f240.body.getD .skip) B53 B54).fn x=A80 f_i_inRange f_i_stepIdle f_i_stepOpen f_i_stepHalfThere f_i_stepHalfHere x.1 x.2.1:=by intro x;kernel_rfl
theorem B55:B4 Tryz.prog 240 C6r:=sm MO B0 (tc Tryz.call61 N4 (tc Tryz.call261 D1L (tc Tryz.call262 D1P (tc Tryz.call263 B9V (tc Tryz.call264 C0n A8))))) Tryz.func240 (by kernel_rfl) (by decide) (C6s C4 A4n A4o W7 A0T)
abbrev B0w:List PK:= [.ptr A0L,.val true (.pair (.int .i64) (.pair (.int .i64) (.pair A6i (.rs 5 (.int .u8))))) false]
abbrev B10:List RK:= []
def B11(f:A2F):Nat×Fn:=(241,⟨B0w,B10,fun x=>f x.1 x.2.1⟩)
def C0o:Fn:=(B11 A0V).2
theorem C0p(f_slices_Clone_byte_byte:B5):∀ x,(C8 cfg [E0 f_slices_Clone_byte_byte] (B7 []) 24 [] (Tryz.f241.body.getD .skip) B0w B10).fn x=A5W f_slices_Clone_byte_byte x.1 x.2.1:=by intro x;kernel_rfl
theorem C0q:B4 Tryz.prog 241 C0o:=sm MO B0 (tc Tryz.call144 F9 A8) Tryz.func241 (by kernel_rfl) (by decide) (C0p B2)
abbrev B33:List PK:= [.ptr A0L,.val true (.pair (.int .i64) (.pair (.int .i64) A6i)) false,.val false (.int .i64) false]
abbrev A54:List RK:= []
def A55(f:S8):Nat×Fn:=(241,⟨B33,A54,fun x=>f x.1 x.2.1 x.2.2.1⟩)
def B34:Fn:=(A55 O3).2
theorem B35(f_slices_Clone_byte_byte:B5):∀ x,E4u cfg [E0 f_slices_Clone_byte_byte] (B7 []) 24 [] (Tryz.f241.body.getD .skip) A0L (.pair (.int .i64) (.pair (.int .i64) A6i)) (kr:=F8) 9 5 (fun x0=>x0.1.2.2.2.2.2.1) A54 x=A0q f_slices_Clone_byte_byte x.1 x.2.1 x.2.2.1:=by intro x;kernel_rfl
theorem B36:B7S Tryz.prog ⟨241,B34,9,6,5⟩:=E6N MO B0 (tc Tryz.call144 F9 A8) Tryz.func241 (by kernel_rfl) (lq:=9) (off:=5) (by decide) (by decide) (fun x0=>rfl) (fun x0=>rfl) (fun x1=>rfl) (B35 B2)
abbrev A8K:List PK:= [.ptr A0L,.val false (.int .i64) false,.val false (.int .i64) false]
abbrev A8L:List RK:= [.val false (.int .i64)]
def A4D(f:P4):Nat×Fn:=(216,⟨A8K,A8L,fun x=>f x.1 x.2.1 x.2.2.1⟩)
def B81:Fn:=(A4D M5).2
theorem B82(f_i_StreamStep:A0U)(f_i_hearer_ended_r88_0:S8):∀ x,(E1v cfg [A8J f_i_StreamStep] ⟨241,(A55 f_i_hearer_ended_r88_0).2,9,6,5⟩ (B7 []) 40 [.tmp 6] (Tryz.f216.body.getD .skip) A8K A8L).fn x=A41 f_i_StreamStep f_i_hearer_ended_r88_0 x.1 x.2.1 x.2.2.1:=by intro x;kernel_rfl
theorem A8M:B4 Tryz.prog 216 B81:=smA MO B0 (tc Tryz.call240 B55 A8) B36 Tryz.call241 Tryz.func216 (by kernel_rfl) (by decide) (B82 L4 O3)
abbrev C6t:List PK:= [.val false .bool false]
abbrev C6u:List RK:= [.val false (.int .i64)]
def C6v(f:B2M):Nat×Fn:=(238,⟨C6t,C6u,fun x=>f x.1⟩)
def D6b:Fn:=(C6v A81).2
theorem D6c:∀ x,(C8 cfg [] (B7 []) 4 [.tmp 2] (Tryz.f238.body.getD .skip) C6t C6u).fn x=C5B x.1:=by intro x;kernel_rfl
theorem D6d:B4 Tryz.prog 238 D6b:=sm MO B0 A8 Tryz.func238 (by kernel_rfl) (by decide) (D6c)
abbrev B3M:List PK:= [.val false (.int .i64) false]
abbrev B3N:List RK:= [.val false .str,.val false (.int .i64)]
def B3O(f:V4):Nat×Fn:=(136,⟨B3M,B3N,fun x=>f x.1⟩)
def C3J:Fn:=(B3O L9).2
theorem C3K:∀ x,(C8 cfg [] (B7 []) 11 [.tmp 2,.tmp 3] (Tryz.f136.body.getD .skip) B3M B3N).fn x=A3j x.1:=by intro x;kernel_rfl
theorem C3L:B4 Tryz.prog 136 C3J:=sm MO B0 A8 Tryz.func136 (by kernel_rfl) (by decide) (C3K)
def E37:Nat->Option Jn:=B7 [(3,⟨[],lt 3 30 [],false⟩),(26,⟨[.t 3 false [.int .i64]],lt 4 29 [],false⟩)]
abbrev D3r:List PK:= [.val false .str false]
abbrev D3s:List RK:= [.val false .bool]
def D3t(f:B4H):Nat×Fn:=(137,⟨D3r,D3s,fun x=>f x.1⟩)
def E38:Fn:=(D3t B0R).2
theorem E39(f_i_inRange:C3):∀ x,(C8 cfg [K6 f_i_inRange] E37 36 [.tmp 2] (Tryz.f137.body.getD .skip) D3r D3s).fn x=C5C f_i_inRange x.1:=by intro x;kernel_rfl
theorem E3A:B4 Tryz.prog 137 E38:=sm MO B0 (tc Tryz.call61 N4 A8) Tryz.func137 (by kernel_rfl) (by decide) (E39 C4)
def D1Q:Nat->Option Jn:=B7 [(15,⟨[.t 6 false [.int .i64]],lt 12 24 [.t 7],false⟩),(122,⟨[.t 6 false [.int .i64],.t 7 false [.int .i64]],lt 12 24 [],false⟩),(1956,⟨[],lt 18 10 [],false⟩)]
abbrev B9W:List PK:= [.val false .str false,.val false (.int .i64) false]
abbrev B9a:List RK:= [.val false (.int .i64),.val false .bool]
def B9b(f:A7M):Nat×Fn:=(164,⟨B9W,B9a,fun x=>f x.1 x.2.1⟩)
def D1R:Fn:=(B9b A4q).2
theorem D1S(f_i_inRange:C3)(f_strconv_Itoa:A1p):∀ x,(C8 cfg [K6 f_i_inRange,B4o f_strconv_Itoa] D1Q 46 [.tmp 4,.tmp 5] (Tryz.f164.body.getD .skip) B9W B9a).fn x=B2O f_i_inRange f_strconv_Itoa x.1 x.2.1:=by intro x;kernel_rfl
theorem D1T:B4 Tryz.prog 164 D1R:=sm MO B0 (tc Tryz.call61 N4 (tc Tryz.call142 C6C A8)) Tryz.func164 (by kernel_rfl) (by decide) (D1S C4 A0Q)
def D3u:Nat->Option Jn:=B7 [(7,⟨[.t 6 false [.str],.t 7 false [.int .i64]],lt 9 18 [.b 9],true⟩),(58,⟨[.t 6 false [.str],.t 7 false [.int .i64],.t 12 false [.int .i64]],lt 13 14 [.b 9,.t 9],false⟩)]
abbrev C2c:List PK:= [.val false (.rs 150 A6) false,.val false .str false]
abbrev C2d:List RK:= [.val false .str,.val false (.int .i64)]
def B56(f:A0g):Nat×Fn:=(258,⟨C2c,C2d,fun x=>f x.1 x.2.1⟩)
def D3v:Fn:=(B56 G2).2
theorem D3w:∀ x,(C8 cfg [] D3u 29 [.tmp 4,.tmp 5] (Tryz.f258.body.getD .skip) C2c C2d).fn x=B4I x.1 x.2.1:=by intro x;kernel_rfl
theorem C2e:B4 Tryz.prog 258 D3v:=sm MO B0 A8 Tryz.func258 (by kernel_rfl) (by decide) (D3w)
def D6e:Nat->Option Jn:=B7 [(3,⟨[],lt 3 17 [],false⟩),(26,⟨[.t 3 false [.int .i64]],lt 4 16 [],false⟩)]
abbrev C6w:List PK:= [.val false .str false]
abbrev C70:List RK:= [.val false .bool]
def C71(f:A82):Nat×Fn:=(285,⟨C6w,C70,fun x=>f x.1⟩)
def D6f:Fn:=(C71 A1u).2
theorem D6g:∀ x,(C8 cfg [] D6e 22 [.tmp 2] (Tryz.f285.body.getD .skip) C6w C70).fn x=B7d x.1:=by intro x;kernel_rfl
theorem D6h:B4 Tryz.prog 285 D6f:=sm MO B0 A8 Tryz.func285 (by kernel_rfl) (by decide) (D6g)
end
end Go.Proofs.YthnfghmjipikhaaGreatDoor.Ev
