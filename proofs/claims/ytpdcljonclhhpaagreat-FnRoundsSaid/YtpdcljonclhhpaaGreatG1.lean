/- Each function of the program does what its plain function says. -/
import Derived.Test.YtpdcljonclhhpaaGreatTy
import Derived.Test.YtpdcljonclhhpaaGreatPu
import Derived.Test.YtpdcljonclhhpaaGreatIns
import Derived.Test.YtpdcljonclhhpaaGreatDelF
import Derived.Test.YtpdcljonclhhpaaGreatChunk
set_option linter.unusedVariables false
set_option maxRecDepth 100000
namespace Go.Proofs.YtpdcljonclhhpaaGreat.Ev
noncomputable section
abbrev A4g:List PK:= [.val false (.sl 109 kUp) false,.val false (.int .i64) false,.val false (.sl 109 kUp) false]
abbrev A4h:List RK:= [.val false (.sl 109 kUp)]
def Z5(f:J7):Nat×Fn:=(290,⟨A4g,A4h,fun x=>f x.1 x.2.1 x.2.2.1⟩)
def A4i:Fn:=(Z5 J8).2
theorem A4j:B3 Tryz.prog 290 A4i:=D09 kUp (by decide)
abbrev A4k:List PK:= [.val false (.sl 109 kUp) false,.val false (.int .i64) false,.val false (.int .i64) false]
abbrev A4l:List RK:= [.val false (.sl 109 kUp)]
def Z6(f:J9):Nat×Fn:=(291,⟨A4k,A4l,fun x=>f x.1 x.2.1 x.2.2.1⟩)
def A4m:Fn:=(Z6 K0).2
theorem A4n:B3 Tryz.prog 291 A4m:=D07 kUp (by decide)
abbrev A2d:List PK:= [.val false (.sl 113 F8) false,.val false (.int .i64) false,.val false (.int .i64) false]
abbrev A2e:List RK:= [.val false (.sl 113 F8)]
def U5(f:H7):Nat×Fn:=(260,⟨A2d,A2e,fun x=>f x.1 x.2.1 x.2.2.1⟩)
def A2f:Fn:=(U5 H8).2
theorem A2g:B3 Tryz.prog 260 A2f:=B8b F8 (by decide)
abbrev A2h:List PK:= [.val false (.sl 130 B2) false,.val false (.int .i64) false,.val false (.int .i64) false]
abbrev A2i:List RK:= [.val false (.sl 130 B2)]
def U6(f:H9):Nat×Fn:=(262,⟨A2h,A2i,fun x=>f x.1 x.2.1 x.2.2.1⟩)
def A2j:Fn:=(U6 I0).2
theorem A2k:B3 Tryz.prog 262 A2j:=B8c B2 (by decide)
abbrev A18:List PK:= [.val false (.sl 113 F8) false,.ptr (.int .i64)]
abbrev A19:List RK:= [.val false (.sl 113 F8)]
def Q9(f:G1):Nat×Fn:=(267000265,⟨A18,A19,fun x=>f x.1 x.2.1⟩)
def A1A:Fn:=(Q9 J3).2
theorem A1B:B6r Tryz.prog 265 266 A1A:=B31 (.pair W8 (.sl 5 (.int .u8))) (by decide)
abbrev A1C:List PK:= [.val false (.sl 130 B2) false,.ptr (.int .i64)]
abbrev A1D:List RK:= [.val false (.sl 130 B2)]
def R0(f:G2):Nat×Fn:=(265000267,⟨A1C,A1D,fun x=>f x.1 x.2.1⟩)
def A1E:Fn:=(R0 J4).2
theorem A1F:B6r Tryz.prog 267 264 A1E:=B30 F6 (by decide)
abbrev D76:List PK:= [.val false (.rs 5 (.int .u8)) false]
abbrev D77:List RK:= [.val false .bool]
def D78(f:C3R):Nat×Fn:=(15,⟨D76,D77,fun x=>f x.1⟩)
def E27:Fn:=(D78 C3S).2
theorem E28:∀ x,(C4 cfg [] (B5 []) 6 [.tmp 2] (Tryz.f15.body.getD .skip) D76 D77).fn x=C9a x.1:=by intro x;kernel_rfl
theorem E29:B3 Tryz.prog 15 E27:=sm MO B0 A6 Tryz.func15 (by kernel_rfl) (by decide) (E28)
abbrev D2e:List PK:= [.val false (.int .i64) false,.val false (.int .i64) false,.val false (.int .i64) false]
abbrev D2f:List RK:= [.val false .bool]
def Q1(f:E2):Nat×Fn:=(120,⟨D2e,D2f,fun x=>f x.1 x.2.1 x.2.2.1⟩)
def E0d:Fn:=(Q1 E1).2
theorem E0e:∀ x,(C4 cfg [] (B5 []) 15 [.tmp 6] (Tryz.f120.body.getD .skip) D2e D2f).fn x=C4C x.1 x.2.1 x.2.2.1:=by intro x;kernel_rfl
theorem S1:B3 Tryz.prog 120 E0d:=sm MO B0 A6 Tryz.func120 (by kernel_rfl) (by decide) (E0e)
def E2A:Nat→Option Jn:=B5 [(7,⟨[.t 3 false [.int .i64]],lt 4 28 [],true⟩),(58,⟨[.t 3 false [.int .i64],.t 4 false [.int .i64]],lt 5 27 [],false⟩),(7462,⟨[.t 3 false [.int .i64],.t 5 false [.int .i64]],lt 20 12 [.t 6],false⟩)]
abbrev D79:List PK:= [.val false (.rs 5 (.int .u8)) false]
abbrev D7A:List RK:= [.val false (.int .i64)]
def C3X(f:A8W):Nat×Fn:=(152,⟨D79,D7A,fun x=>f x.1⟩)
def E2B:Fn:=(C3X A6m).2
theorem E2C:∀ x,(C4 cfg [] E2A 34 [.tmp 2] (Tryz.f152.body.getD .skip) D79 D7A).fn x=C9b x.1:=by intro x;kernel_rfl
theorem D0D:B3 Tryz.prog 152 E2B:=sm MO B0 A6 Tryz.func152 (by kernel_rfl) (by decide) (E2C)
def D8T:Nat→Option Jn:=B5 [(3,⟨[],lt 3 21 [],false⟩),(26,⟨[.t 3 false [.int .i64]],lt 4 20 [],false⟩)]
abbrev C8x:List PK:= [.val false .str false]
abbrev C8y:List RK:= [.val false .bool]
def A3k(f:O6):Nat×Fn:=(160,⟨C8x,C8y,fun x=>f x.1⟩)
def D8U:Fn:=(A3k N2).2
theorem D8V(f_s_l1In:E2):∀ x,(C4 cfg [Q1 f_s_l1In] D8T 27 [.tmp 2] (Tryz.f160.body.getD .skip) C8x C8y).fn x=B9v f_s_l1In x.1:=by intro x;kernel_rfl
theorem A5Q:B3 Tryz.prog 160 D8U:=sm MO B0 (tc Tryz.call120 S1 A6) Tryz.func160 (by kernel_rfl) (by decide) (D8V E1)
abbrev B8d:List PK:= [.val true (.pair .str (.pair (.rs 5 (.int .u8)) F6)) false]
abbrev B8e:List RK:= [.val false .bool]
def A4U(f:N8):Nat×Fn:=(215,⟨B8d,B8e,fun x=>f x.1⟩)
def D0E:Fn:=(A4U F9).2
theorem D0F(f_s_l1In:E2)(f_s_l11Id:O6):∀ x,(C4 cfg [Q1 f_s_l1In,A3k f_s_l11Id] (B5 []) 25 [.tmp 2] (Tryz.f215.body.getD .skip) B8d B8e).fn x=B1H f_s_l1In f_s_l11Id x.1:=by intro x;kernel_rfl
theorem A74:B3 Tryz.prog 215 D0E:=sm MO B0 (tc Tryz.call120 S1 (tc Tryz.call160 A5Q A6)) Tryz.func215 (by kernel_rfl) (by decide) (D0F E1 N2)
def D2g:Nat→Option Jn:=B5 [(128503,⟨[.t 7 false [.int .i64]],lt 40 8 [],true⟩)]
abbrev C1T:List PK:= [.val true (.pair .str (.pair (.rs 5 (.int .u8)) F6)) false]
abbrev C1U:List RK:= [.val true W8,.val false (.sl 5 (.int .u8)),.val false .bool]
def C1V(f:A8Y):Nat×Fn:=(251,⟨C1T,C1U,fun x=>f x.1⟩)
def D2h:Fn:=(C1V A5u).2
theorem D2i(f_s_Crc:A8W)(f_s_ClientOk:N8):∀ x,(C4 cfg [C3X f_s_Crc,A4U f_s_ClientOk] D2g 65 [.cell 2 43,.tmp 3,.tmp 4] (Tryz.f251.body.getD .skip) C1T C1U).fn x=B3T f_s_Crc f_s_ClientOk x.1:=by intro x;kernel_rfl
theorem D2j:B3 Tryz.prog 251 D2h:=sm MO B0 (tc Tryz.call152 D0D (tc Tryz.call215 A74 A6)) Tryz.func251 (by kernel_rfl) (by decide) (D2i A6m F9)
abbrev C1W:List PK:= [.val true (.pair (.rs 9 .str) (.rs 9 .str)) false]
abbrev C1X:List RK:= [.val true A4p]
def A97(f:A0J):Nat×Fn:=(229,⟨C1W,C1X,fun x=>f x.1⟩)
def D2k:Fn:=(A97 X3).2
theorem D2l:∀ x,(C4 cfg [] (B5 []) 12 [.cell 2 26] (Tryz.f229.body.getD .skip) C1W C1X).fn x=B3U x.1:=by intro x;kernel_rfl
theorem B4B:B3 Tryz.prog 229 D2k:=sm MO B0 A6 Tryz.func229 (by kernel_rfl) (by decide) (D2l)
def C5D:Nat→Option Jn:=B5 [(58,⟨[.t 3 false [.own 100000000],.t 4 false [.int .i64],.r 100000000 109 kUp],lt 7 19 [.b 5,.r 6,.r 17,.r 20,.r 24,.r 25,.t 5],false⟩)]
abbrev B4C:List PK:= [.val false (.rs 109 kUp) false]
abbrev B4D:List RK:= [.val false (.sl 109 kUp)]
def A80(f:N9):Nat×Fn:=(230,⟨B4C,B4D,fun x=>f x.1⟩)
def C5E:Fn:=(A80 L7).2
theorem C5F:∀ x,(C4 cfg [] C5D 27 [.tmp 2] (Tryz.f230.body.getD .skip) B4C B4D).fn x=A3u x.1:=by intro x;kernel_rfl
theorem B4E:B3 Tryz.prog 230 C5E:=sm MO B0 A6 Tryz.func230 (by kernel_rfl) (by decide) (C5F)
abbrev C1Y:List PK:= [.val true (.pair (.pair (.rs 9 .str) (.rs 9 .str)) (.pair (.int .i64) (.pair (.int .i64) (.rs 109 kUp)))) false]
abbrev C1Z:List RK:= [.val true A7Q]
def A6A(f:U2):Nat×Fn:=(157,⟨C1Y,C1Z,fun x=>f x.1⟩)
def D2m:Fn:=(A6A R6).2
theorem D2n(f_s_l12Copy:A0J)(f_s_l14CopyUps:N9):∀ x,(C4 cfg [A97 f_s_l12Copy,A80 f_s_l14CopyUps] (B5 []) 14 [.cell 2 29] (Tryz.f157.body.getD .skip) C1Y C1Z).fn x=B3V f_s_l12Copy f_s_l14CopyUps x.1:=by intro x;kernel_rfl
theorem A98:B3 Tryz.prog 157 D2m:=sm MO B0 (tc Tryz.call229 B4B (tc Tryz.call230 B4E A6)) Tryz.func157 (by kernel_rfl) (by decide) (D2n X3 L7)
def D5C:Nat→Option Jn:=B5 [(3,⟨[],lt 4 13 [],false⟩),(58,⟨[.t 3 false [.int .i64]],lt 17 23 [],false⟩)]
abbrev C5G:List PK:= [.val true (.pair (.rs 9 .str) (.rs 9 .str)) false]
abbrev C5H:List RK:= [.val false .bool]
def B22(f:A1K):Nat×Fn:=(231,⟨C5G,C5H,fun x=>f x.1⟩)
def D5D:Fn:=(B22 T0).2
theorem D5E:∀ x,(C4 cfg [] D5C 40 [.tmp 2] (Tryz.f231.body.getD .skip) C5G C5H).fn x=B1I x.1:=by intro x;kernel_rfl
theorem B7T:B3 Tryz.prog 231 D5D:=sm MO B0 A6 Tryz.func231 (by kernel_rfl) (by decide) (D5E)
def D5F:Nat→Option Jn:=B5 [(3,⟨[],lt 10 15 [],false⟩),(15,⟨[.t 8 false [.int .i64]],lt 25 15 [.t 9],true⟩),(122,⟨[.t 8 false [.int .i64],.t 9 false [.int .i64]],lt 25 15 [],false⟩)]
abbrev C5I:List PK:= [.val false (.rs 5 (.int .u8)) false,.val false (.int .i64) false,.val false (.int .i64) false]
abbrev C5J:List RK:= [.val false (.int .i64),.val false .bool]
def C5K(f:B1J):Nat×Fn:=(282,⟨C5I,C5J,fun x=>f x.1 x.2.1 x.2.2.1⟩)
def D5G:Fn:=(C5K A51).2
theorem D5H(f_s_l1In:E2):∀ x,(C4 cfg [Q1 f_s_l1In] D5F 41 [.tmp 6,.tmp 7] (Tryz.f282.body.getD .skip) C5I C5J).fn x=B6w f_s_l1In x.1 x.2.1 x.2.2.1:=by intro x;kernel_rfl
theorem D5I:B3 Tryz.prog 282 D5G:=sm MO B0 (tc Tryz.call120 S1 A6) Tryz.func282 (by kernel_rfl) (by decide) (D5H E1)
def D8W:Nat→Option Jn:=B5 [(3,⟨[],lt 3 16 [],false⟩),(943,⟨[.t 43 false [.bool]],[.t 44,.t 45],true⟩)]
abbrev C8z:List PK:= [.val true (.pair (.int .i64) (.pair (.int .i64) (.pair (.int .i64) (.pair .str (.pair (.int .i64) (.rs 5 (.int .u8))))))) false]
abbrev C90:List RK:= [.val false .bool]
def C91(f:B5C):Nat×Fn:=(283,⟨C8z,C90,fun x=>f x.1⟩)
def D8X:Fn:=(C91 B0E).2
theorem D8Y(f_s_l1In:E2)(f_s_l11Id:O6):∀ x,(C4 cfg [Q1 f_s_l1In,A3k f_s_l11Id] D8W 55 [.tmp 2] (Tryz.f283.body.getD .skip) C8z C90).fn x=B9w f_s_l1In f_s_l11Id x.1:=by intro x;kernel_rfl
theorem D8Z:B3 Tryz.prog 283 D8X:=sm MO B0 (tc Tryz.call120 S1 (tc Tryz.call160 A5Q A6)) Tryz.func283 (by kernel_rfl) (by decide) (D8Y E1 N2)
def D5J:Nat→Option Jn:=B5 [(7,⟨[.t 1 false [.int .i64]],[.t 12,.t 13],true⟩),(250,⟨[.t 7 false [.own 100001000],.t 8 false [.int .i64],.r 100001000 5 (.int .u8)],lt 20 13 [.r 11,.r 31,.r 32],false⟩)]
abbrev C5L:List PK:= [.val false (.rs 5 (.int .u8)) false,.val false (.int .i64) false,.val false (.int .i64) false]
abbrev C5M:List RK:= [.val false (.sl 5 (.int .u8))]
def C5N(f:B1K):Nat×Fn:=(306,⟨C5L,C5M,fun x=>f x.1 x.2.1 x.2.2.1⟩)
def D5K:Fn:=(C5N A7S).2
theorem D5L(f_s_l1In:E2):∀ x,(C4 cfg [Q1 f_s_l1In] D5J 34 [.tmp 6] (Tryz.f306.body.getD .skip) C5L C5M).fn x=B6x f_s_l1In x.1 x.2.1 x.2.2.1:=by intro x;kernel_rfl
theorem D5M:B3 Tryz.prog 306 D5K:=sm MO B0 (tc Tryz.call120 S1 A6) Tryz.func306 (by kernel_rfl) (by decide) (D5L E1)
abbrev C5O:List PK:= [.val true (.pair (.int .i64) (.pair (.int .i64) (.pair (.int .i64) (.pair .str (.pair (.int .i64) (.rs 5 (.int .u8))))))) false]
abbrev C5P:List RK:= [.val false .str]
def B7U(f:A52):Nat×Fn:=(284,⟨C5O,C5P,fun x=>f x.1⟩)
def D5N:Fn:=(B7U A3J).2
theorem D5O(f_s_Crc:A8W)(f_s_PutBig:B1K):∀ x,(C4 cfg [C3X f_s_Crc,C5N f_s_PutBig] (B5 []) 38 [.tmp 2] (Tryz.f284.body.getD .skip) C5O C5P).fn x=B6y f_s_Crc f_s_PutBig x.1:=by intro x;kernel_rfl
theorem C5Q:B3 Tryz.prog 284 D5N:=sm MO B0 (tc Tryz.call152 D0D (tc Tryz.call306 D5M A6)) Tryz.func284 (by kernel_rfl) (by decide) (D5O A6m A7S)
def D5P:Nat→Option Jn:=B5 [(255,⟨[],lt 42 21 [],false⟩),(4095,⟨[],lt 87 15 [],false⟩)]
abbrev C5R:List PK:= [.val false .str false]
abbrev C5S:List RK:= [.val true A6l,.val false .bool]
def B23(f:V1):Nat×Fn:=(235,⟨C5R,C5S,fun x=>f x.1⟩)
def D5Q:Fn:=(B23 K4).2
theorem D5R(f_s_GetBig:B1J)(f_s_RecOk:B5C)(f_s_l13Put:A52):∀ x,(C4 cfg [C5K f_s_GetBig,C91 f_s_RecOk,B7U f_s_l13Put] D5P 127 [.cell 2 194,.tmp 3] (Tryz.f235.body.getD .skip) C5R C5S).fn x=B6z f_s_GetBig f_s_RecOk f_s_l13Put x.1:=by intro x;kernel_rfl
theorem B7V:B3 Tryz.prog 235 D5Q:=sm MO B0 (tc Tryz.call282 D5I (tc Tryz.call283 D8Z (tc Tryz.call284 C5Q A6))) Tryz.func235 (by kernel_rfl) (by decide) (D5R A51 B0E A3J)
def D0G:Nat→Option Jn:=B5 [(122,⟨[.t 3 false [.own 100000000],.t 4 false [.int .i64],.t 5 false [.int .i64],.r 100000000 194 A6l],lt 40 6 (lt 9 30 [.b 6,.r 8,.r 42,.r 43,.r 94213,.t 6,.t 7]),false⟩)]
abbrev B8f:List PK:= [.val true (.pair (.rs 9 .str) (.rs 9 .str)) false]
abbrev B8g:List RK:= [.val false (.sl 194 A6l)]
def B24(f:A1y):Nat×Fn:=(232,⟨B8f,B8g,fun x=>f x.1⟩)
def D0H:Fn:=(B24 X4).2
theorem D0I(f_s_GetRec:V1):∀ x,(C4 cfg [B23 f_s_GetRec] D0G 47 [.tmp 2] (Tryz.f232.body.getD .skip) B8f B8g).fn x=B85 f_s_GetRec x.1:=by intro x;kernel_rfl
theorem B8h:B3 Tryz.prog 232 D0H:=sm MO B0 (tc Tryz.call235 B7V A6) Tryz.func232 (by kernel_rfl) (by decide) (D0I K4)
def D8a:Nat→Option Jn:=B5 [(26,⟨[.t 5 false [.int .i64]],lt 6 13 [],false⟩)]
abbrev C92:List PK:= [.val false (.rs 109 kUp) false,.val false .str false]
abbrev C93:List RK:= [.val false (.int .i64)]
def A5R(f:S2):Nat×Fn:=(206,⟨C92,C93,fun x=>f x.1 x.2.1⟩)
def D8b:Fn:=(A5R O7).2
theorem D8c:∀ x,(C4 cfg [] D8a 20 [.tmp 4] (Tryz.f206.body.getD .skip) C92 C93).fn x=B9x x.1 x.2.1:=by intro x;kernel_rfl
theorem A7G:B3 Tryz.prog 206 D8b:=sm MO B0 A6 Tryz.func206 (by kernel_rfl) (by decide) (D8c)
def A81:Nat→Option Jn:=B5 [(58,⟨[.t 3 false [.own 100000000],.t 4 false [.int .i64],.r 100000000 109 (.pair .str (.pair (.int .i64) (.pair (.rs 5 (.int .u8)) .bool)))],lt 7 19 [.b 5,.r 6,.r 17,.r 20,.r 24,.r 25,.t 5],false⟩)]
abbrev A1o:List PK:= [.val false (.rs 109 kUp) false]
abbrev A1p:List RK:= [.val false (.sl 109 (.pair .str (.pair (.int .i64) (.pair (.rs 5 (.int .u8)) .bool))))]
def A1q(f:N9):Nat×Fn:=(230,⟨A1o,A1p,fun x=>f x.1⟩)
def A82:Fn:=(A1q L7).2
theorem A83:∀ x,(C4 C0K [] A81 27 [.tmp 2] (Tryz.f230.body.getD .skip) A1o A1p).fn x=A3u x.1:=by intro x;kernel_rfl
theorem A84:B3 Tryz.prog 230 A82:=sm MO A3F A6 Tryz.func230 (by kernel_rfl) (by decide) (A83)
def B0N:Nat→Option Jn:=B5 [(15,⟨[.t 5 false [.own 11],.t 6 false [.int .i64],.r 11 109 (.pair .str (.pair (.int .i64) (.pair (.rs 5 (.int .u8)) .bool)))],lt 15 23 [.x 21,.x 33,.x 35],true⟩),(60,⟨[.t 5 false [.own 11],.t 6 false [.int .i64],.r 11 109 (.pair .str (.pair (.int .i64) (.pair (.rs 5 (.int .u8)) .bool)))],lt 15 23 [.x 21,.x 33,.x 35],false⟩),(120,⟨[],lt 15 13 [.x 21],false⟩)]
abbrev A3l:List PK:= [.val false (.rs 109 kUp) false,.val true (.pair .str (.pair (.int .i64) (.pair (.rs 5 (.int .u8)) .bool))) false]
abbrev A3m:List RK:= [.val false (.sl 109 (.pair .str (.pair (.int .i64) (.pair (.rs 5 (.int .u8)) .bool))))]
def A3n(f:S3):Nat×Fn:=(305,⟨A3l,A3m,fun x=>f x.1 x.2.1⟩)
def B0O:Fn:=(A3n N3).2
theorem B0P(f_s_l14CopyUps:N9):∀ x,(C4 C0K [A1q f_s_l14CopyUps] B0N 43 [.tmp 4] (Tryz.f305.body.getD .skip) A3l A3m).fn x=A02 f_s_l14CopyUps x.1 x.2.1:=by intro x;kernel_rfl
theorem B0Q:B3 Tryz.prog 305 B0O:=sm MO A3F (tc Tryz.call230 A84 A6) Tryz.func305 (by kernel_rfl) (by decide) (B0P L7)
def C0P:Nat→Option Jn:=B5 [(4074,⟨[],lt 43 27 [],false⟩)]
abbrev B0R:List PK:= [.val false (.rs 109 kUp) false,.val true (.pair (.int .i64) (.pair (.int .i64) (.pair (.int .i64) (.pair .str (.pair (.int .i64) (.rs 5 (.int .u8))))))) false]
abbrev B0S:List RK:= [.val false (.rs 109 (.pair .str (.pair (.int .i64) (.pair (.rs 5 (.int .u8)) .bool)))),.val false .bool]
def A5S(f:Q3):Nat×Fn:=(281,⟨B0R,B0S,fun x=>f x.1 x.2.1⟩)
def C0Q:Fn:=(A5S N4).2
theorem C0R(f_s_l14At:S2)(f_s_l14CopyUps:N9)(f_s_l14Make_r98_0_r99_0:S3):∀ x,(C4 cfg [A5R f_s_l14At,A80 f_s_l14CopyUps,A3n f_s_l14Make_r98_0_r99_0] C0P 114 [.tmp 4,.tmp 5] (Tryz.f281.body.getD .skip) B0R B0S).fn x=A53 f_s_l14At f_s_l14CopyUps f_s_l14Make_r98_0_r99_0 x.1 x.2.1:=by intro x;kernel_rfl
theorem B0T:B3 Tryz.prog 281 C0Q:=sm MO B0 (tc Tryz.call206 A7G (tc Tryz.call230 B4E (tc Tryz.call305 B0Q A6))) Tryz.func281 (by kernel_rfl) (by decide) (C0R O7 L7 N3)
def C5T:Nat→Option Jn:=B5 [(58,⟨[.t 5 false [.int .i64]],lt 11 58 [],false⟩)]
abbrev B4F:List PK:= [.val false (.rs 109 kUp) false,.val false (.rs 109 kUp) false]
abbrev B4G:List RK:= [.val false .bool]
def B4H(f:A3w):Nat×Fn:=(234,⟨B4F,B4G,fun x=>f x.1 x.2.1⟩)
def C5U:Fn:=(B4H A1L).2
theorem C5V:∀ x,(C4 cfg [] C5T 69 [.tmp 4] (Tryz.f234.body.getD .skip) B4F B4G).fn x=A7T x.1 x.2.1:=by intro x;kernel_rfl
theorem C5W:B3 Tryz.prog 234 C5U:=sm MO B0 A6 Tryz.func234 (by kernel_rfl) (by decide) (C5V)
def B7W:Nat→Option Jn:=B5 [(7,⟨[.t 4 false [.ro 109 (.pair .str (.pair (.int .i64) (.pair (.rs 5 (.int .u8)) .bool)))]],lt 5 21 [.r 8,.t 27],false⟩),(58,⟨[.t 4 false [.ro 109 (.pair .str (.pair (.int .i64) (.pair (.rs 5 (.int .u8)) .bool)))],.t 5 false [.int .i64]],lt 6 20 [.r 8,.t 27],false⟩)]
abbrev A85:List PK:= [.val false (.rs 194 A6l) false]
abbrev A86:List RK:= [.val false (.rs 109 kUp),.val false .bool]
def A3Q(f:Q4):Nat×Fn:=(233,⟨A85,A86,fun x=>f x.1⟩)
def B7X:Fn:=(A3Q M7).2
theorem B7Y(f_s_l14One_r99_0:Q3):∀ x,(C4 cfg [A5S f_s_l14One_r99_0] B7W 29 [.tmp 2,.tmp 3] (Tryz.f233.body.getD .skip) A85 A86).fn x=A3K f_s_l14One_r99_0 x.1:=by intro x;kernel_rfl
theorem A87:B3 Tryz.prog 233 B7X:=sm MO B0 (tc Tryz.call281 B0T A6) Tryz.func233 (by kernel_rfl) (by decide) (B7Y N4)
def D2o:Nat→Option Jn:=B5 [(3,⟨[],lt 9 10 [],false⟩),(31,⟨[],lt 27 33 [],false⟩),(506,⟨[.t 6 false [.int .i64]],lt 62 26 [.b 7,.r 319493,.t 7,.t 8],false⟩)]
abbrev C1a:List PK:= [.val true (.pair (.pair (.rs 9 .str) (.rs 9 .str)) (.pair (.int .i64) (.pair (.int .i64) (.rs 109 kUp)))) false]
abbrev C1b:List RK:= [.val false .bool]
def A3o(f:P0):Nat×Fn:=(159,⟨C1a,C1b,fun x=>f x.1⟩)
def D2p:Fn:=(A3o F4).2
theorem D2q(f_s_l1In:E2)(f_s_DiskOk:A1K)(f_s_ScanRecs:A1y)(f_s_FoldRecs_r99_0:Q4)(f_s_l14SameUps:A3w)(f_s_GetRec:V1):∀ x,(C4 cfg [Q1 f_s_l1In,B22 f_s_DiskOk,B24 f_s_ScanRecs,A3Q f_s_FoldRecs_r99_0,B4H f_s_l14SameUps,B23 f_s_GetRec] D2o 88 [.tmp 2] (Tryz.f159.body.getD .skip) C1a C1b).fn x=A8a f_s_l1In f_s_DiskOk f_s_ScanRecs f_s_FoldRecs_r99_0 f_s_l14SameUps f_s_GetRec x.1:=by intro x;kernel_rfl
theorem A6B:B3 Tryz.prog 159 D2p:=sm MO B0 (tc Tryz.call120 S1 (tc Tryz.call231 B7T (tc Tryz.call232 B8h (tc Tryz.call233 A87 (tc Tryz.call234 C5W (tc Tryz.call235 B7V A6)))))) Tryz.func159 (by kernel_rfl) (by decide) (D2q E1 T0 X4 M7 A1L K4)
abbrev C1c:List PK:= [.val true (.pair (.pair (.rs 9 .str) (.rs 9 .str)) (.pair (.int .i64) (.pair (.int .i64) (.rs 109 kUp)))) false]
abbrev C1d:List RK:= [.val false (.int .i64)]
def A6C(f:U3):Nat×Fn:=(236,⟨C1c,C1d,fun x=>f x.1⟩)
def D2r:Fn:=(A6C R8).2
theorem D2s:∀ x,(C4 cfg [] (B5 []) 10 [.tmp 2] (Tryz.f236.body.getD .skip) C1c C1d).fn x=B3W x.1:=by intro x;kernel_rfl
theorem A99:B3 Tryz.prog 236 D2r:=sm MO B0 A6 Tryz.func236 (by kernel_rfl) (by decide) (D2s)
abbrev A9A:List PK:= [.ptr (.pair A4p (.pair (.int .i64) (.pair (.int .i64) (.rs 109 kUp)))),.val true (.pair (.int .i64) (.pair (.int .i64) (.pair (.int .i64) (.pair .str (.pair (.int .i64) (.rs 5 (.int .u8))))))) false]
abbrev A9B:List RK:= []
def Y5(f:G6):Nat×Fn:=(237,⟨A9A,A9B,fun x=>f x.1 x.2.1⟩)
def B8i:Fn:=(Y5 E9).2
theorem B8j(f_s_l14One_r99_0:Q3)(f_s_l13Put:A52):∀ x,(C4 cfg [A5S f_s_l14One_r99_0,B7U f_s_l13Put] (B5 []) 46 [] (Tryz.f237.body.getD .skip) A9A A9B).fn x=A3x f_s_l14One_r99_0 f_s_l13Put x.1 x.2.1:=by intro x;kernel_rfl
theorem A17:B3 Tryz.prog 237 B8i:=sm MO B0 (tc Tryz.call281 B0T (tc Tryz.call284 C5Q A6)) Tryz.func237 (by kernel_rfl) (by decide) (B8j N4 A3J)
abbrev D2t:List PK:= [.val true (.pair (.pair (.rs 9 .str) (.rs 9 .str)) (.pair (.int .i64) (.pair (.int .i64) (.rs 109 kUp)))) false,.val false .str false]
abbrev D2u:List RK:= [.val true kUp,.val false .bool]
def B8k(f:A3y):Nat×Fn:=(113,⟨D2t,D2u,fun x=>f x.1 x.2.1⟩)
def E0f:Fn:=(B8k A0e).2
theorem E0g(f_s_l14At:S2):∀ x,(C4 cfg [A5R f_s_l14At] (B5 []) 26 [.cell 4 109,.tmp 5] (Tryz.f113.body.getD .skip) D2t D2u).fn x=B86 f_s_l14At x.1 x.2.1:=by intro x;kernel_rfl
theorem C5X:B3 Tryz.prog 113 E0f:=sm MO B0 (tc Tryz.call206 A7G A6) Tryz.func113 (by kernel_rfl) (by decide) (E0g O7)
abbrev B8l:List PK:= [.val true (.pair (.pair (.rs 9 .str) (.rs 9 .str)) (.pair (.int .i64) (.pair (.int .i64) (.rs 109 kUp)))) false,.val true W8 false]
abbrev B8m:List RK:= [.val true F6]
def B8n(f:A6n):Nat×Fn:=(166,⟨B8l,B8m,fun x=>f x.1 x.2.1⟩)
def D0J:Fn:=(B8n A3z).2
theorem D0K(f_s_UpAt:A3y):∀ x,(C4 cfg [B8k f_s_UpAt] (B5 []) 35 [.cell 4 126] (Tryz.f166.body.getD .skip) B8l B8m).fn x=B1L f_s_UpAt x.1 x.2.1:=by intro x;kernel_rfl
theorem D0L:B3 Tryz.prog 166 D0J:=sm MO B0 (tc Tryz.call113 C5X A6) Tryz.func166 (by kernel_rfl) (by decide) (D0K A0e)
def D5S:Nat→Option Jn:=B5 [(235,⟨[.t 19 false [.bool]],[.t 20,.t 21],true⟩)]
abbrev C5Y:List PK:= [.val true (.pair (.pair (.rs 9 .str) (.rs 9 .str)) (.pair (.int .i64) (.pair (.int .i64) (.rs 109 kUp)))) false,.val false .str false,.val false (.int .i64) false]
abbrev C5Z:List RK:= [.val true F6]
def C5a(f:B1M):Nat×Fn:=(167,⟨C5Y,C5Z,fun x=>f x.1 x.2.1 x.2.2.1⟩)
def D5T:Fn:=(C5a A7U).2
theorem D5U(f_s_UpAt:A3y):∀ x,(C4 cfg [B8k f_s_UpAt] D5S 33 [.cell 6 126] (Tryz.f167.body.getD .skip) C5Y C5Z).fn x=B70 f_s_UpAt x.1 x.2.1 x.2.2.1:=by intro x;kernel_rfl
theorem D5V:B3 Tryz.prog 167 D5T:=sm MO B0 (tc Tryz.call113 C5X A6) Tryz.func167 (by kernel_rfl) (by decide) (D5U A0e)
def C0S:Nat→Option Jn:=B5 [(7,⟨[],lt 33 10 (lt 26 6 (lt 11 14 [])),false⟩),(28,⟨[.t 11 false [.bool]],lt 12 13 [],true⟩)]
abbrev B0U:List PK:= [.val true (.pair (.pair (.rs 9 .str) (.rs 9 .str)) (.pair (.int .i64) (.pair (.int .i64) (.rs 109 kUp)))) false,.val false .str false,.val false (.int .i64) false]
abbrev B0V:List RK:= [.val true (.pair A4p (.pair (.int .i64) (.pair (.int .i64) (.rs 109 kUp)))),.val false (.int .i64)]
def B0W(f:A1z):Nat×Fn:=(162,⟨B0U,B0V,fun x=>f x.1 x.2.1 x.2.2.1⟩)
def C0T:Fn:=(B0W A03).2
theorem C0U(f_s_l1In:E2)(f_s_l14Copy:U2)(f_s_StoreOk:P0)(f_s_l11Id:O6)(f_s_l14At:S2)(f_s_l14Left:U3)(f_s_l14Write_r0_4:G6):∀ x,(C4 cfg [Q1 f_s_l1In,A6A f_s_l14Copy,A3o f_s_StoreOk,A3k f_s_l11Id,A5R f_s_l14At,A6C f_s_l14Left,Y5 f_s_l14Write_r0_4] C0S 49 [.cell 6 29,.tmp 7] (Tryz.f162.body.getD .skip) B0U B0V).fn x=A55 f_s_l1In f_s_l14Copy f_s_StoreOk f_s_l11Id f_s_l14At f_s_l14Left f_s_l14Write_r0_4 x.1 x.2.1 x.2.2.1:=by intro x;kernel_rfl
theorem C0V:B3 Tryz.prog 162 C0T:=sm MO B0 (tc Tryz.call120 S1 (tc Tryz.call157 A98 (tc Tryz.call159 A6B (tc Tryz.call160 A5Q (tc Tryz.call206 A7G (tc Tryz.call236 A99 (tc Tryz.call237 A17 A6))))))) Tryz.func162 (by kernel_rfl) (by decide) (C0U E1 R6 F4 N2 O7 R8 E9)
def C2Y:Nat→Option Jn:=B5 [(7,⟨[],lt 17 14 [],false⟩),(127,⟨[],lt 64 9 (lt 44 19 []),false⟩),(255,⟨[.b 10 [.own 100003000,.own 100003001,.int .i64,.int .i64,.ro 109 kUp],.r 100003000 9 .str,.r 100003001 9 .str],lt 74 26 [.r 92,.r 97,.r 69632,.r 69633,.r 69636,.r 411648,.r 411649,.t 13,.t 14,.t 16],true⟩),(508,⟨[.t 44 false [.bool]],lt 45 18 [],true⟩),(2042,⟨[.t 13 false [.int .i64],.b 10 [.own 100003000,.own 100003001,.int .i64,.int .i64,.ro 109 kUp],.r 100003000 9 .str,.r 100003001 9 .str],lt 74 26 [.r 92,.r 97,.r 69632,.r 69633,.r 69636,.r 411648,.r 411649,.t 14,.t 16],false⟩),(65353,⟨[.t 14 false [.int .i64]],lt 82 6 [],true⟩)]
abbrev B2P:List PK:= [.val true (.pair (.pair (.rs 9 .str) (.rs 9 .str)) (.pair (.int .i64) (.pair (.int .i64) (.rs 109 kUp)))) false,.val false .str false,.val false (.int .i64) false,.val false (.rs 5 (.int .u8)) false]
abbrev B2Q:List RK:= [.val true (.pair A4p (.pair (.int .i64) (.pair (.int .i64) (.rs 109 kUp)))),.val false (.int .i64)]
def B2R(f:A2y):Nat×Fn:=(163,⟨B2P,B2Q,fun x=>f x.1 x.2.1 x.2.2.1 x.2.2.2.1⟩)
def C2Z:Fn:=(B2R A0f).2
theorem C2a(f_s_l1In:E2)(f_s_l14Copy:U2)(f_s_StoreOk:P0)(f_s_l11Id:O6)(f_s_l14At:S2)(f_s_l14Left:U3)(f_s_l14Write_r0_4:G6):∀ x,(C4 cfg [Q1 f_s_l1In,A6A f_s_l14Copy,A3o f_s_StoreOk,A3k f_s_l11Id,A5R f_s_l14At,A6C f_s_l14Left,Y5 f_s_l14Write_r0_4] C2Y 101 [.cell 8 29,.tmp 9] (Tryz.f163.body.getD .skip) B2P B2Q).fn x=A6G f_s_l1In f_s_l14Copy f_s_StoreOk f_s_l11Id f_s_l14At f_s_l14Left f_s_l14Write_r0_4 x.1 x.2.1 x.2.2.1 x.2.2.2.1:=by intro x;kernel_rfl
theorem C2b:B3 Tryz.prog 163 C2Z:=sm MO B0 (tc Tryz.call120 S1 (tc Tryz.call157 A98 (tc Tryz.call159 A6B (tc Tryz.call160 A5Q (tc Tryz.call206 A7G (tc Tryz.call236 A99 (tc Tryz.call237 A17 A6))))))) Tryz.func163 (by kernel_rfl) (by decide) (C2a E1 R6 F4 N2 O7 R8 E9)
def C0W:Nat→Option Jn:=B5 [(7,⟨[],lt 13 8 [],false⟩)]
abbrev B0X:List PK:= [.val true (.pair (.pair (.rs 9 .str) (.rs 9 .str)) (.pair (.int .i64) (.pair (.int .i64) (.rs 109 kUp)))) false,.val false .str false,.val false (.int .i64) false]
abbrev B0Y:List RK:= [.val true (.pair A4p (.pair (.int .i64) (.pair (.int .i64) (.rs 109 kUp)))),.val false (.int .i64)]
def B0Z(f:A20):Nat×Fn:=(164,⟨B0X,B0Y,fun x=>f x.1 x.2.1 x.2.2.1⟩)
def C0X:Fn:=(B0Z A04).2
theorem C0Y(f_s_Crc:A8W)(f_s_l14Copy:U2)(f_s_StoreOk:P0)(f_s_l11Id:O6)(f_s_l14At:S2)(f_s_l14Left:U3)(f_s_l14Write_r0_4:G6):∀ x,(C4 cfg [C3X f_s_Crc,A6A f_s_l14Copy,A3o f_s_StoreOk,A3k f_s_l11Id,A5R f_s_l14At,A6C f_s_l14Left,Y5 f_s_l14Write_r0_4] C0W 62 [.cell 6 29,.tmp 7] (Tryz.f164.body.getD .skip) B0X B0Y).fn x=A56 f_s_Crc f_s_l14Copy f_s_StoreOk f_s_l11Id f_s_l14At f_s_l14Left f_s_l14Write_r0_4 x.1 x.2.1 x.2.2.1:=by intro x;kernel_rfl
theorem C0Z:B3 Tryz.prog 164 C0X:=sm MO B0 (tc Tryz.call152 D0D (tc Tryz.call157 A98 (tc Tryz.call159 A6B (tc Tryz.call160 A5Q (tc Tryz.call206 A7G (tc Tryz.call236 A99 (tc Tryz.call237 A17 A6))))))) Tryz.func164 (by kernel_rfl) (by decide) (C0Y A6m R6 F4 N2 O7 R8 E9)
def C0a:Nat→Option Jn:=B5 [(7,⟨[],lt 26 4 (lt 19 6 (lt 9 9 [])),false⟩),(28,⟨[.t 9 false [.bool]],lt 10 8 [],true⟩)]
abbrev B0a:List PK:= [.val true (.pair (.pair (.rs 9 .str) (.rs 9 .str)) (.pair (.int .i64) (.pair (.int .i64) (.rs 109 kUp)))) false,.val false .str false]
abbrev B0b:List RK:= [.val true (.pair A4p (.pair (.int .i64) (.pair (.int .i64) (.rs 109 kUp)))),.val false (.int .i64)]
def B0c(f:A21):Nat×Fn:=(165,⟨B0a,B0b,fun x=>f x.1 x.2.1⟩)
def C0b:Fn:=(B0c A05).2
theorem C0c(f_s_l14Copy:U2)(f_s_StoreOk:P0)(f_s_l11Id:O6)(f_s_l14At:S2)(f_s_l14Left:U3)(f_s_l14Write_r0_4:G6):∀ x,(C4 cfg [A6A f_s_l14Copy,A3o f_s_StoreOk,A3k f_s_l11Id,A5R f_s_l14At,A6C f_s_l14Left,Y5 f_s_l14Write_r0_4] C0a 35 [.cell 4 29,.tmp 5] (Tryz.f165.body.getD .skip) B0a B0b).fn x=A57 f_s_l14Copy f_s_StoreOk f_s_l11Id f_s_l14At f_s_l14Left f_s_l14Write_r0_4 x.1 x.2.1:=by intro x;kernel_rfl
theorem C0d:B3 Tryz.prog 165 C0b:=sm MO B0 (tc Tryz.call157 A98 (tc Tryz.call159 A6B (tc Tryz.call160 A5Q (tc Tryz.call206 A7G (tc Tryz.call236 A99 (tc Tryz.call237 A17 A6)))))) Tryz.func165 (by kernel_rfl) (by decide) (C0c R6 F4 N2 O7 R8 E9)
abbrev B5z:List PK:= [.val true (.pair (.rs 9 .str) (.rs 9 .str)) false]
abbrev B60:List RK:= [.val true A4p]
def B61(f:A5V):Nat×Fn:=(252,⟨B5z,B60,fun x=>f x.1⟩)
def C7H:Fn:=(B61 A2N).2
theorem C7I:∀ x,(C4 cfg [] (B5 []) 12 [.cell 2 26] (Tryz.f252.body.getD .skip) B5z B60).fn x=A9W x.1:=by intro x;kernel_rfl
theorem C7J:B3 Tryz.prog 252 C7H:=sm MO B0 A6 Tryz.func252 (by kernel_rfl) (by decide) (C7I)
abbrev C1e:List PK:= [.val true (.pair .str (.pair (.rs 5 (.int .u8)) F6)) false]
abbrev C1f:List RK:= [.val false .bool]
def B4I(f:A3X):Nat×Fn:=(253,⟨C1e,C1f,fun x=>f x.1⟩)
def D2v:Fn:=(B4I A1N).2
theorem D2w:∀ x,(C4 cfg [] (B5 []) 11 [.tmp 2] (Tryz.f253.body.getD .skip) C1e C1f).fn x=B3X x.1:=by intro x;kernel_rfl
theorem C1g:B3 Tryz.prog 253 D2v:=sm MO B0 A6 Tryz.func253 (by kernel_rfl) (by decide) (D2w)
abbrev C1h:List PK:= [.val false (.int .i64) false,.val false (.int .i64) false]
abbrev C1i:List RK:= [.val false (.int .i64)]
def C1j(f:A8d):Nat×Fn:=(292,⟨C1h,C1i,fun x=>f x.1 x.2.1⟩)
def D2x:Fn:=(C1j A5v).2
theorem D2y:∀ x,(C4 cfg [] (B5 []) 35 [.tmp 4] (Tryz.f292.body.getD .skip) C1h C1i).fn x=B3Y x.1 x.2.1:=by intro x;kernel_rfl
theorem D2z:B3 Tryz.prog 292 D2x:=sm MO B0 A6 Tryz.func292 (by kernel_rfl) (by decide) (D2y)
abbrev B0d:List PK:= [.val true (.pair .str (.pair (.rs 5 (.int .u8)) F6)) false,.val false (.int .i64) false]
abbrev B0e:List RK:= [.val true (.pair .str (.pair (.rs 5 (.int .u8)) F6))]
def B0f(f:B1N):Nat×Fn:=(293,⟨B0d,B0e,fun x=>f x.1 x.2.1⟩)
def C0e:Fn:=(B0f A7V).2
theorem C0f(f_s_l1In:E2):∀ x,(C4 cfg [Q1 f_s_l1In] (B5 []) 26 [.cell 4 79] (Tryz.f293.body.getD .skip) B0d B0e).fn x=B71 f_s_l1In x.1 x.2.1:=by intro x;kernel_rfl
theorem C0g:B3 Tryz.prog 293 C0e:=sm MO B0 (tc Tryz.call120 S1 A6) Tryz.func293 (by kernel_rfl) (by decide) (C0f E1)
abbrev A9C:List PK:= [.val true (.pair .str (.pair (.rs 5 (.int .u8)) F6)) false,.val true F6 false]
abbrev A9D:List RK:= [.val true (.pair .str (.pair (.rs 5 (.int .u8)) F6))]
def A9E(f:A8e):Nat×Fn:=(254,⟨A9C,A9D,fun x=>f x.1 x.2.1⟩)
def B8o:Fn:=(A9E A5w).2
theorem B8p(f_s_l17Next:A8d)(f_s_l17Far:B1N):∀ x,(C4 cfg [C1j f_s_l17Next,B0f f_s_l17Far] (B5 []) 20 [.cell 4 79] (Tryz.f254.body.getD .skip) A9C A9D).fn x=B3Z f_s_l17Next f_s_l17Far x.1 x.2.1:=by intro x;kernel_rfl
theorem B8q:B3 Tryz.prog 254 B8o:=sm MO B0 (tc Tryz.call292 D2z (tc Tryz.call293 C0g A6)) Tryz.func254 (by kernel_rfl) (by decide) (B8p A5v A7V)
def C7K:Nat→Option Jn:=B5 [(58,⟨[.t 5 false [.own 100000000],.t 6 false [.int .i64],.r 100000000 130 B2],lt 8 20 [.r 7,.r 26,.r 27],false⟩)]
abbrev B62:List PK:= [.val false (.rs 130 B2) false,.val false (.int .i64) false]
abbrev B63:List RK:= [.val false (.sl 130 B2)]
def B64(f:A5W):Nat×Fn:=(255,⟨B62,B63,fun x=>f x.1 x.2.1⟩)
def C7L:Fn:=(B64 A2O).2
theorem C7M:∀ x,(C4 cfg [] C7K 29 [.tmp 4] (Tryz.f255.body.getD .skip) B62 B63).fn x=A9X x.1 x.2.1:=by intro x;kernel_rfl
theorem C7N:B3 Tryz.prog 255 C7L:=sm MO B0 A6 Tryz.func255 (by kernel_rfl) (by decide) (C7M)
abbrev C1k:List PK:= [.val true (.pair .str (.pair (.rs 5 (.int .u8)) F6)) false]
abbrev C1l:List RK:= [.val true A9]
def B4J(f:A1O):Nat×Fn:=(193,⟨C1k,C1l,fun x=>f x.1⟩)
def D30:Fn:=(B4J U4).2
theorem D31:∀ x,(C4 cfg [] (B5 []) 9 [.cell 2 79] (Tryz.f193.body.getD .skip) C1k C1l).fn x=B3a x.1:=by intro x;kernel_rfl
theorem C1m:B3 Tryz.prog 193 D30:=sm MO B0 A6 Tryz.func193 (by kernel_rfl) (by decide) (D31)
abbrev C5b:List PK:= [.val true (.pair .str (.pair (.rs 5 (.int .u8)) F6)) false]
abbrev C5c:List RK:= [.val true A9]
def B7Z(f:A3L):Nat×Fn:=(256,⟨C5b,C5c,fun x=>f x.1⟩)
def D5W:Fn:=(B7Z A1P).2
theorem D5X(f_s_l17Copy:A1O)(f_s_ClientOk:N8)(f_s_l17Over:A3X):∀ x,(C4 cfg [B4J f_s_l17Copy,A4U f_s_ClientOk,B4I f_s_l17Over] (B5 []) 15 [.cell 2 79] (Tryz.f256.body.getD .skip) C5b C5c).fn x=B72 f_s_l17Copy f_s_ClientOk f_s_l17Over x.1:=by intro x;kernel_rfl
theorem C5d:B3 Tryz.prog 256 D5W:=sm MO B0 (tc Tryz.call193 C1m (tc Tryz.call215 A74 (tc Tryz.call253 C1g A6))) Tryz.func256 (by kernel_rfl) (by decide) (D5X U4 F9 A1N)
def D0M:Nat→Option Jn:=B5 [(58,⟨[.t 3 false [.int .i64],.t 4 false [.int .i64]],lt 5 27 [.b 5,.r 86021],false⟩)]
abbrev B8r:List PK:= [.val true (.pair (.rs 9 .str) (.rs 9 .str)) false]
abbrev B8s:List RK:= [.val false (.int .i64)]
def B8t(f:A6o):Nat×Fn:=(294,⟨B8r,B8s,fun x=>f x.1⟩)
def D0N:Fn:=(B8t A41).2
theorem D0O(f_s_GetRec:V1):∀ x,(C4 cfg [B23 f_s_GetRec] D0M 33 [.tmp 2] (Tryz.f294.body.getD .skip) B8r B8s).fn x=B1O f_s_GetRec x.1:=by intro x;kernel_rfl
theorem D0P:B3 Tryz.prog 294 D0N:=sm MO B0 (tc Tryz.call235 B7V A6) Tryz.func294 (by kernel_rfl) (by decide) (D0O K4)
def D0Q:Nat→Option Jn:=B5 [(122,⟨[.t 6 false [.int .i64],.b 5 [.own 36864,.own 36865],.r 36864 9 .str,.r 36865 9 .str],lt 13 35 [.x 36,.x 38,.x 45,.x 47],false⟩),(1956,⟨[.t 29 false [.bool]],lt 20 9 [],true⟩)]
abbrev B8u:List PK:= [.val true (.pair (.rs 9 .str) (.rs 9 .str)) false,.val false (.rs 4 .bool) false]
abbrev B8v:List RK:= [.val true A4p]
def B8w(f:A6p):Nat×Fn:=(258,⟨B8u,B8v,fun x=>f x.1 x.2.1⟩)
def D0R:Fn:=(B8w A43).2
theorem D0S(f_s_l12Copy:A0J)(f_s_DiskOk:A1K):∀ x,(C4 cfg [A97 f_s_l12Copy,B22 f_s_DiskOk] D0Q 49 [.cell 4 26] (Tryz.f258.body.getD .skip) B8u B8v).fn x=B1P f_s_l12Copy f_s_DiskOk x.1 x.2.1:=by intro x;kernel_rfl
theorem D0T:B3 Tryz.prog 258 D0R:=sm MO B0 (tc Tryz.call229 B4B (tc Tryz.call231 B7T A6)) Tryz.func258 (by kernel_rfl) (by decide) (D0S X3 T0)
def B5X:Nat→Option Jn:=B5 [(63,⟨[],lt 22 6 [],false⟩)]
abbrev A6Y:List PK:= [.val true (.pair (.rs 9 .str) (.rs 9 .str)) false]
abbrev A6Z:List RK:= [.val true (.pair A4p (.pair (.int .i64) (.pair (.int .i64) (.rs 109 kUp)))),.val false .bool]
def A6a(f:Z8):Nat×Fn:=(257,⟨A6Y,A6Z,fun x=>f x.1⟩)
def B5Y:Fn:=(A6a O8).2
theorem B5Z(f_s_l12Copy:A0J)(f_s_DiskOk:A1K)(f_s_ScanRecs:A1y)(f_s_FoldRecs_r99_0:Q4)(f_s_TopEpoch:A6o):∀ x,(C4 cfg [A97 f_s_l12Copy,B22 f_s_DiskOk,B24 f_s_ScanRecs,A3Q f_s_FoldRecs_r99_0,B8t f_s_TopEpoch] B5X 36 [.cell 2 29,.tmp 3] (Tryz.f257.body.getD .skip) A6Y A6Z).fn x=A2J f_s_l12Copy f_s_DiskOk f_s_ScanRecs f_s_FoldRecs_r99_0 f_s_TopEpoch x.1:=by intro x;kernel_rfl
theorem B5a:B3 Tryz.prog 257 B5Y:=sm MO B0 (tc Tryz.call229 B4B (tc Tryz.call231 B7T (tc Tryz.call232 B8h (tc Tryz.call233 A87 (tc Tryz.call294 D0P A6))))) Tryz.func257 (by kernel_rfl) (by decide) (B5Z X3 T0 X4 M7 A41)
def C7O:Nat→Option Jn:=B5 [(3,⟨[],lt 8 26 [.x 23],false⟩)]
abbrev B65:List PK:= [.ptr (.pair (.pair (.pair (.pair (.rs 9 .str) (.rs 9 .str)) (.pair (.int .i64) (.pair (.int .i64) (.rs 109 (.pair .str (.pair (.int .i64) (.pair (.rs 5 (.int .u8)) .bool))))))) (.sl 130 B2)) (.pair (.sl 79 (.pair .str (.pair (.rs 5 (.int .u8)) F6))) (.pair (.sl 4 .bool) (.pair (.sl 113 (.pair (.int .i64) (.pair W8 (.rs 5 (.int .u8))))) (.pair (.sl 130 B2) (.sl 3 (.int .i64))))))),.val false (.int .i64) false]
abbrev B66:List RK:= [.val false .bool]
def B67(f:A5X):Nat×Fn:=(194,⟨B65,B66,fun x=>f x.1 x.2.1⟩)
def C7P:Fn:=(B67 Y7).2
theorem C7Q(f_s_l1In:E2)(f_s_NextReq:A8Y):∀ x,(C4 C0K [Q1 f_s_l1In,C1V f_s_NextReq] C7O 67 [.tmp 4] (Tryz.f194.body.getD .skip) B65 B66).fn x=A5Y f_s_l1In f_s_NextReq x.1 x.2.1:=by intro x;kernel_rfl
theorem C7R:B3 Tryz.prog 194 C7P:=sm MO A3F (tc Tryz.call120 S1 (tc Tryz.call251 D2j A6)) Tryz.func194 (by kernel_rfl) (by decide) (C7Q E1 A5u)
abbrev B68:List PK:= [.val false .str false,.val false (.rs 5 (.int .u8)) false]
abbrev B69:List RK:= [.val true A9]
def B6A(f:A2P):Nat×Fn:=(138,⟨B68,B69,fun x=>f x.1 x.2.1⟩)
def C7S:Fn:=(B6A Y8).2
theorem C7T(f_s_ClientOk:N8):∀ x,(C4 cfg [A4U f_s_ClientOk] (B5 []) 16 [.cell 4 79] (Tryz.f138.body.getD .skip) B68 B69).fn x=A9Y f_s_ClientOk x.1 x.2.1:=by intro x;kernel_rfl
theorem C7U:B3 Tryz.prog 138 C7S:=sm MO B0 (tc Tryz.call215 A74 A6) Tryz.func138 (by kernel_rfl) (by decide) (C7T F9)
abbrev C5e:List PK:= [.val true F6 false]
abbrev C5f:List RK:= [.val false .bool]
def B7a(f:A1Q):Nat×Fn:=(158,⟨C5e,C5f,fun x=>f x.1⟩)
def D5Y:Fn:=(B7a Q5).2
theorem D5Z(f_s_l1In:E2):∀ x,(C4 cfg [Q1 f_s_l1In] (B5 []) 11 [.tmp 2] (Tryz.f158.body.getD .skip) C5e C5f).fn x=B73 f_s_l1In x.1:=by intro x;kernel_rfl
theorem C5g:B3 Tryz.prog 158 D5Y:=sm MO B0 (tc Tryz.call120 S1 A6) Tryz.func158 (by kernel_rfl) (by decide) (D5Z E1)
def D0U:Nat→Option Jn:=B5 [(3,⟨[],lt 3 16 [],false⟩),(26,⟨[.t 3 false [.int .i64]],lt 4 15 [],false⟩)]
abbrev B8x:List PK:= [.val true (.pair (.pair (.pair (.rs 9 .str) (.rs 9 .str)) (.pair (.int .i64) (.pair (.int .i64) (.rs 109 kUp)))) (.rs 130 B2)) false]
abbrev B8y:List RK:= [.val false .bool]
def B8z(f:A6q):Nat×Fn:=(90,⟨B8x,B8y,fun x=>f x.1⟩)
def D0V:Fn:=(B8z A0T).2
theorem D0W(f_s_RespOk:A1Q)(f_s_StoreOk:P0):∀ x,(C4 cfg [B7a f_s_RespOk,A3o f_s_StoreOk] D0U 28 [.tmp 2] (Tryz.f90.body.getD .skip) B8x B8y).fn x=A6r f_s_RespOk f_s_StoreOk x.1:=by intro x;kernel_rfl
theorem D0X:B3 Tryz.prog 90 D0V:=sm MO B0 (tc Tryz.call158 C5g (tc Tryz.call159 A6B A6)) Tryz.func90 (by kernel_rfl) (by decide) (D0W Q5 F4)
abbrev C1n:List PK:= [.val false (.int .i64) false]
abbrev C1o:List RK:= [.val false (.int .i64)]
def C1p(f:A8f):Nat×Fn:=(161,⟨C1n,C1o,fun x=>f x.1⟩)
def D32:Fn:=(C1p A8g).2
theorem D33:∀ x,(C4 cfg [] (B5 []) 9 [.tmp 2] (Tryz.f161.body.getD .skip) C1n C1o).fn x=B3b x.1:=by intro x;kernel_rfl
theorem D34:B3 Tryz.prog 161 D32:=sm MO B0 A6 Tryz.func161 (by kernel_rfl) (by decide) (D33)
def D8d:Nat→Option Jn:=B5 [(3,⟨[],lt 4 10 [],false⟩)]
abbrev C94:List PK:= [.val true W8 false]
abbrev C95:List RK:= [.val false .bool]
def C96(f:B0G):Nat×Fn:=(91,⟨C94,C95,fun x=>f x.1⟩)
def D8e:Fn:=(C96 A59).2
theorem D8f(f_s_l1In:E2)(f_s_l11Id:O6)(f_s_l11Most:A8f):∀ x,(C4 cfg [Q1 f_s_l1In,A3k f_s_l11Id,C1p f_s_l11Most] D8d 26 [.tmp 2] (Tryz.f91.body.getD .skip) C94 C95).fn x=B9z f_s_l1In f_s_l11Id f_s_l11Most x.1:=by intro x;kernel_rfl
theorem D8g:B3 Tryz.prog 91 D8e:=sm MO B0 (tc Tryz.call120 S1 (tc Tryz.call160 A5Q (tc Tryz.call161 D34 A6))) Tryz.func91 (by kernel_rfl) (by decide) (D8f E1 N2 A8g)
def C5h:Nat→Option Jn:=B5 [(7,⟨[],lt 9 30 [.t 4,.t 5],false⟩),(58,⟨[.t 4 false [.int .i64]],lt 9 30 [.t 5],false⟩),(7462,⟨[.t 5 false [.int .i64]],lt 21 18 [],false⟩)]
abbrev B4K:List PK:= [.val true (.pair (.pair (.pair (.pair (.rs 9 .str) (.rs 9 .str)) (.pair (.int .i64) (.pair (.int .i64) (.rs 109 kUp)))) (.rs 130 B2)) (.pair (.rs 79 A9) (.pair (.rs 4 .bool) (.pair (.rs 113 F8) (.pair (.rs 130 B2) (.rs 3 (.int .i64))))))) false]
abbrev B4L:List RK:= [.val false .bool]
def B4M(f:A44):Nat×Fn:=(141,⟨B4K,B4L,fun x=>f x.1⟩)
def C5i:Fn:=(B4M V2).2
theorem C5j(f_s_ClientOk:N8):∀ x,(C4 cfg [A4U f_s_ClientOk] C5h 55 [.tmp 2] (Tryz.f141.body.getD .skip) B4K B4L).fn x=A45 f_s_ClientOk x.1:=by intro x;kernel_rfl
theorem C5k:B3 Tryz.prog 141 C5i:=sm MO B0 (tc Tryz.call215 A74 A6) Tryz.func141 (by kernel_rfl) (by decide) (C5j F9)
def D5a:Nat→Option Jn:=B5 [(26,⟨[.t 5 false [.int .i64]],lt 6 26 [],false⟩)]
abbrev C5l:List PK:= [.val true (.pair (.pair (.pair (.pair (.rs 9 .str) (.rs 9 .str)) (.pair (.int .i64) (.pair (.int .i64) (.rs 109 kUp)))) (.rs 130 B2)) (.pair (.rs 79 A9) (.pair (.rs 4 .bool) (.pair (.rs 113 F8) (.pair (.rs 130 B2) (.rs 3 (.int .i64))))))) false,.val false (.rs 130 B2) false]
abbrev C5m:List RK:= [.val false .bool]
def C5n(f:B1R):Nat×Fn:=(142,⟨C5l,C5m,fun x=>f x.1 x.2.1⟩)
def D5b:Fn:=(C5n A7W).2
theorem D5c(f_s_l1In:E2)(f_s_RespOk:A1Q):∀ x,(C4 cfg [Q1 f_s_l1In,B7a f_s_RespOk] D5a 32 [.tmp 4] (Tryz.f142.body.getD .skip) C5l C5m).fn x=B74 f_s_l1In f_s_RespOk x.1 x.2.1:=by intro x;kernel_rfl
theorem D5d:B3 Tryz.prog 142 D5b:=sm MO B0 (tc Tryz.call120 S1 (tc Tryz.call158 C5g A6)) Tryz.func142 (by kernel_rfl) (by decide) (D5c E1 Q5)
def D35:Nat→Option Jn:=B5 [(3,⟨[],lt 4 36 [],false⟩),(58,⟨[.t 3 false [.int .i64]],lt 40 29 [],false⟩)]
abbrev C1q:List PK:= [.val true (.pair (.pair (.pair (.pair (.rs 9 .str) (.rs 9 .str)) (.pair (.int .i64) (.pair (.int .i64) (.rs 109 kUp)))) (.rs 130 B2)) (.pair (.rs 79 A9) (.pair (.rs 4 .bool) (.pair (.rs 113 F8) (.pair (.rs 130 B2) (.rs 3 (.int .i64))))))) false]
abbrev C1r:List RK:= [.val false .bool]
def C1s(f:A8h):Nat×Fn:=(70,⟨C1q,C1r,fun x=>f x.1⟩)
def D36:Fn:=(C1s X6).2
theorem D37(f_s_ServerOk:A6q)(f_s_ReqOk:B0G)(f_s_l1In:E2)(f_s_l18Clients:A44)(f_s_l18Who:B1R):∀ x,(C4 cfg [B8z f_s_ServerOk,C96 f_s_ReqOk,Q1 f_s_l1In,B4M f_s_l18Clients,C5n f_s_l18Who] D35 69 [.tmp 2] (Tryz.f70.body.getD .skip) C1q C1r).fn x=A8i f_s_ServerOk f_s_ReqOk f_s_l1In f_s_l18Clients f_s_l18Who x.1:=by intro x;kernel_rfl
theorem D38:B3 Tryz.prog 70 D36:=sm MO B0 (tc Tryz.call90 D0X (tc Tryz.call91 D8g (tc Tryz.call120 S1 (tc Tryz.call141 C5k (tc Tryz.call142 D5d A6))))) Tryz.func70 (by kernel_rfl) (by decide) (D37 A0T A59 E1 V2 A7W)
def D39:Nat→Option Jn:=B5 [(58,⟨[.t 4 false [.int .i64],.b 3 [.own 100000000,.own 100000001],.r 100000000 9 .str,.r 100000001 9 .str],lt 6 19 [.r 17,.r 18,.r 22,.r 23],false⟩),(116,⟨[],lt 6 7 [],false⟩)]
abbrev C1t:List PK:= [.val false (.int .i64) false]
abbrev C1u:List RK:= [.val true A4p]
def C1v(f:A8j):Nat×Fn:=(303,⟨C1t,C1u,fun x=>f x.1⟩)
def D3A:Fn:=(C1v A5x).2
theorem D3B:∀ x,(C4 cfg [] D39 26 [.cell 2 26] (Tryz.f303.body.getD .skip) C1t C1u).fn x=B3c x.1:=by intro x;kernel_rfl
theorem D3C:B3 Tryz.prog 303 D3A:=sm MO B0 A6 Tryz.func303 (by kernel_rfl) (by decide) (D3B)
abbrev A2l:List PK:= [.val false (.int .i64) false]
abbrev A2m:List RK:= [.val true (.pair A4p (.pair (.int .i64) (.pair (.int .i64) (.sl 109 (.pair .str (.pair (.int .i64) (.pair (.rs 5 (.int .u8)) .bool)))))))]
def A2n(f:A6s):Nat×Fn:=(272,⟨A2l,A2m,fun x=>f x.1⟩)
def A9n:Fn:=(A2n A6t).2
theorem A9o(f_s_DiskNew:A8j):∀ x,(C4 C0K [C1v f_s_DiskNew] (B5 []) 6 [.cell 2 29] (Tryz.f272.body.getD .skip) A2l A2m).fn x=B1S f_s_DiskNew x.1:=by intro x;kernel_rfl
theorem A9p:B3 Tryz.prog 272 A9n:=sm MO A3F (tc Tryz.call303 D3C A6) Tryz.func272 (by kernel_rfl) (by decide) (A9o A5x)
abbrev A2G:List PK:= [.val false (.int .i64) false]
abbrev A2H:List RK:= [.val true (.pair (.pair A4p (.pair (.int .i64) (.pair (.int .i64) (.sl 109 (.pair .str (.pair (.int .i64) (.pair (.rs 5 (.int .u8)) .bool))))))) (.sl 130 B2))]
def A2I(f:A5Z):Nat×Fn:=(216,⟨A2G,A2H,fun x=>f x.1⟩)
def A8I:Fn:=(A2I A2R).2
theorem A8J(f_s_StoreNew:A6s):∀ x,(C4 C0K [A2n f_s_StoreNew] (B5 []) 6 [.cell 2 32] (Tryz.f216.body.getD .skip) A2G A2H).fn x=A9Z f_s_StoreNew x.1:=by intro x;kernel_rfl
theorem A8K:B3 Tryz.prog 216 A8I:=sm MO A3F (tc Tryz.call272 A9p A6) Tryz.func216 (by kernel_rfl) (by decide) (A8J A6t)
def A9q:Nat→Option Jn:=B5 [(7,⟨[.b 5 [.own 36864,.own 36865,.int .i64,.int .i64,.own 36868,.own 36869,.own 100000000,.own 100000001,.nil,.nil,.own 100000002],.r 36864 9 .str,.r 36865 9 .str,.r 36868 109 (.pair .str (.pair (.int .i64) (.pair (.rs 5 (.int .u8)) .bool))),.r 36869 130 B2,.r 100000000 79 (.pair .str (.pair (.rs 5 (.int .u8)) F6)),.r 100000001 4 .bool,.r 100000002 3 (.int .i64)],lt 10 26 [.r 23,.r 24,.r 28,.r 29,.r 33,.r 34,.r 94209,.t 6],true⟩),(58,⟨[.t 6 false [.int .i64],.b 5 [.own 36864,.own 36865,.int .i64,.int .i64,.own 36868,.own 36869,.own 100000000,.own 100000001,.nil,.nil,.own 100000002],.r 36864 9 .str,.r 36865 9 .str,.r 36868 109 (.pair .str (.pair (.int .i64) (.pair (.rs 5 (.int .u8)) .bool))),.r 36869 130 B2,.r 100000000 79 (.pair .str (.pair (.rs 5 (.int .u8)) F6)),.r 100000001 4 .bool,.r 100000002 3 (.int .i64)],lt 10 26 [.r 23,.r 24,.r 28,.r 29,.r 33,.r 34,.r 94209],false⟩)]
abbrev A2o:List PK:= [.val false (.int .i64) false,.val false (.rs 79 A9) false]
abbrev A2p:List RK:= [.val true (.pair (.pair (.pair A4p (.pair (.int .i64) (.pair (.int .i64) (.sl 109 (.pair .str (.pair (.int .i64) (.pair (.rs 5 (.int .u8)) .bool))))))) (.sl 130 B2)) (.pair (.sl 79 (.pair .str (.pair (.rs 5 (.int .u8)) F6))) (.pair (.sl 4 .bool) (.pair (.sl 113 (.pair (.int .i64) (.pair W8 (.rs 5 (.int .u8))))) (.pair (.sl 130 B2) (.sl 3 (.int .i64)))))))]
def A2q(f:A6u):Nat×Fn:=(140,⟨A2o,A2p,fun x=>f x.1 x.2.1⟩)
def A9r:Fn:=(A2q A46).2
theorem A9s(f_s_WorldOk:A8h)(f_s_l17Copy:A1O)(f_s_ServerNew:A5Z):∀ x,(C4 C0K [C1s f_s_WorldOk,B4J f_s_l17Copy,A2I f_s_ServerNew] A9q 41 [.cell 4 38] (Tryz.f140.body.getD .skip) A2o A2p).fn x=B1T f_s_WorldOk f_s_l17Copy f_s_ServerNew x.1 x.2.1:=by intro x;kernel_rfl
theorem A9t:B3 Tryz.prog 140 A9r:=sm MO A3F (tc Tryz.call70 D38 (tc Tryz.call193 C1m (tc Tryz.call216 A8K A6))) Tryz.func140 (by kernel_rfl) (by decide) (A9s X6 U4 A2R)
def B90:Nat→Option Jn:=B5 [(31,⟨[.t 9 false [.int .i64],.b 8 [.int .i64,.int .i64],.b 10 [.own 100000000,.own 100000001,.int .i64,.int .i64,.ro 109 kUp],.r 100000000 9 .str,.r 100000001 9 .str],lt 19 51 [.r 114688,.r 114689,.r 167936,.r 167937,.r 237568,.r 237569,.r 274432,.r 274433,.t 13,.t 14],false⟩)]
abbrev A9F:List PK:= [.val true (.pair (.pair (.rs 9 .str) (.rs 9 .str)) (.pair (.int .i64) (.pair (.int .i64) (.rs 109 kUp)))) false,.val true W8 false,.val false (.rs 5 (.int .u8)) false]
abbrev A9G:List RK:= [.val true (.pair (.pair (.rs 9 .str) (.rs 9 .str)) (.pair (.int .i64) (.pair (.int .i64) (.rs 109 kUp)))),.val true F6]
def A9H(f:A12):Nat×Fn:=(92,⟨A9F,A9G,fun x=>f x.1 x.2.1 x.2.2.1⟩)
def B91:Fn:=(A9H S4).2
theorem B92(f_s_MakeUp_r99_0:A1z)(f_s_PutUp_r99_0:A2y)(f_s_DoneUp_r99_0:A20)(f_s_DropUp_r99_0:A21)(f_s_l15Looks:A6n)(f_s_l15Bad:B1M):∀ x,(C4 cfg [B0W f_s_MakeUp_r99_0,B2R f_s_PutUp_r99_0,B0Z f_s_DoneUp_r99_0,B0c f_s_DropUp_r99_0,B8n f_s_l15Looks,C5a f_s_l15Bad] B90 80 [.cell 6 29,.cell 7 126] (Tryz.f92.body.getD .skip) A9F A9G).fn x=A47 f_s_MakeUp_r99_0 f_s_PutUp_r99_0 f_s_DoneUp_r99_0 f_s_DropUp_r99_0 f_s_l15Looks f_s_l15Bad x.1 x.2.1 x.2.2.1:=by intro x;kernel_rfl
theorem B93:B3 Tryz.prog 92 B91:=sm MO B0 (tc Tryz.call162 C0V (tc Tryz.call163 C2b (tc Tryz.call164 C0Z (tc Tryz.call165 C0d (tc Tryz.call166 D0L (tc Tryz.call167 D5V A6)))))) Tryz.func92 (by kernel_rfl) (by decide) (B92 A03 A0f A04 A05 A3z A7U)
def C5o:Nat→Option Jn:=B5 [(3,⟨[],lt 8 18 [],false⟩)]
abbrev B4N:List PK:= [.ptr (.pair (.pair (.pair (.pair (.rs 9 .str) (.rs 9 .str)) (.pair (.int .i64) (.pair (.int .i64) (.rs 109 (.pair .str (.pair (.int .i64) (.pair (.rs 5 (.int .u8)) .bool))))))) (.sl 130 B2)) (.pair (.sl 79 (.pair .str (.pair (.rs 5 (.int .u8)) F6))) (.pair (.sl 4 .bool) (.pair (.sl 113 (.pair (.int .i64) (.pair W8 (.rs 5 (.int .u8))))) (.pair (.sl 130 B2) (.sl 3 (.int .i64))))))),.val false (.int .i64) false]
abbrev B4O:List RK:= [.val false .bool]
def B4P(f:A48):Nat×Fn:=(195,⟨B4N,B4O,fun x=>f x.1 x.2.1⟩)
def C5p:Fn:=(B4P V3).2
theorem C5q(f_s_l15Does_r99_0:A12)(f_s_l1In:E2):∀ x,(C4 C0K [A9H f_s_l15Does_r99_0,Q1 f_s_l1In] C5o 85 [.tmp 4] (Tryz.f195.body.getD .skip) B4N B4O).fn x=A49 f_s_l15Does_r99_0 f_s_l1In x.1 x.2.1:=by intro x;kernel_rfl
theorem C5r:B3 Tryz.prog 195 C5p:=sm MO A3F (tc Tryz.call92 B93 (tc Tryz.call120 S1 A6)) Tryz.func195 (by kernel_rfl) (by decide) (C5q S4 E1)
end
end Go.Proofs.YtpdcljonclhhpaaGreat.Ev
