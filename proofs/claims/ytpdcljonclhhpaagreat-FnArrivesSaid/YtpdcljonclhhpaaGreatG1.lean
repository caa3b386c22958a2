/- Each function of the program does what its plain function says. -/
import Derived.Test.YtpdcljonclhhpaaGreatTy
import Derived.Test.YtpdcljonclhhpaaGreatPu
import Derived.Test.YtpdcljonclhhpaaGreatIns
import Derived.Test.YtpdcljonclhhpaaGreatDelF
import Derived.Test.YtpdcljonclhhpaaGreatChunk
set_option linter.unusedVariables false
set_option maxRecDepth 100000
namespace Go.Proofs.YtpdcljonclhhpaaGreat.Ev
noncomputable section
abbrev A50:List PK:= [.val false (.sl 109 kUp) false,.val false (.int .i64) false,.val false (.sl 109 kUp) false]
abbrev A51:List RK:= [.val false (.sl 109 kUp)]
def A09(f:K4):Nat×Fn:=(290,⟨A50,A51,fun x=>f x.1 x.2.1 x.2.2.1⟩)
def A52:Fn:=(A09 K5).2
theorem A53:B4 Tryz.prog 290 A52:=D0a kUp (by decide)
abbrev A54:List PK:= [.val false (.sl 109 kUp) false,.val false (.int .i64) false,.val false (.int .i64) false]
abbrev A55:List RK:= [.val false (.sl 109 kUp)]
def A0A(f:K6):Nat×Fn:=(291,⟨A54,A55,fun x=>f x.1 x.2.1 x.2.2.1⟩)
def A56:Fn:=(A0A K7).2
theorem A57:B4 Tryz.prog 291 A56:=D0Y kUp (by decide)
abbrev A2w:List PK:= [.val false (.sl 113 G0) false,.val false (.int .i64) false,.val false (.int .i64) false]
abbrev A2x:List RK:= [.val false (.sl 113 G0)]
def V6(f:I4):Nat×Fn:=(260,⟨A2w,A2x,fun x=>f x.1 x.2.1 x.2.2.1⟩)
def A2y:Fn:=(V6 I5).2
theorem A2z:B4 Tryz.prog 260 A2y:=B97 G0 (by decide)
abbrev A30:List PK:= [.val false (.sl 130 B2) false,.val false (.int .i64) false,.val false (.int .i64) false]
abbrev A31:List RK:= [.val false (.sl 130 B2)]
def V7(f:I6):Nat×Fn:=(262,⟨A30,A31,fun x=>f x.1 x.2.1 x.2.2.1⟩)
def A32:Fn:=(V7 I7).2
theorem A33:B4 Tryz.prog 262 A32:=B98 B2 (by decide)
abbrev A1T:List PK:= [.val false (.sl 113 G0) false,.ptr (.int .i64)]
abbrev A1U:List RK:= [.val false (.sl 113 G0)]
def R7(f:G8):Nat×Fn:=(267000265,⟨A1T,A1U,fun x=>f x.1 x.2.1⟩)
def A1V:Fn:=(R7 G9).2
theorem A1W:B7K Tryz.prog 265 266 A1V:=B3d (.pair Y1 (.sl 5 (.int .u8))) (by decide)
abbrev A1X:List PK:= [.val false (.sl 130 B2) false,.ptr (.int .i64)]
abbrev A1Y:List RK:= [.val false (.sl 130 B2)]
def R8(f:H0):Nat×Fn:=(265000267,⟨A1X,A1Y,fun x=>f x.1 x.2.1⟩)
def A1Z:Fn:=(R8 H1).2
theorem A1a:B7K Tryz.prog 267 264 A1Z:=B3c F8 (by decide)
abbrev D7m:List PK:= [.val false (.rs 5 (.int .u8)) false]
abbrev D7n:List RK:= [.val false .bool]
def D7o(f:C3y):Nat×Fn:=(15,⟨D7m,D7n,fun x=>f x.1⟩)
def E2t:Fn:=(D7o C3z).2
theorem E2u:∀ x,(C7 cfg [] (B5 []) 6 [.tmp 2] (Tryz.f15.body.getD .skip) D7m D7n).fn x=D02 x.1:=by intro x;kernel_rfl
theorem E2v:B4 Tryz.prog 15 E2t:=sm MO B1 A8 Tryz.func15 (by kernel_rfl) (by decide) (E2u)
abbrev D39:List PK:= [.val false (.int .i64) false,.val false (.int .i64) false,.val false (.int .i64) false]
abbrev D3A:List RK:= [.val false .bool]
def Q9(f:E6):Nat×Fn:=(120,⟨D39,D3A,fun x=>f x.1 x.2.1 x.2.2.1⟩)
def E1M:Fn:=(Q9 E4).2
theorem E1N:∀ x,(C7 cfg [] (B5 []) 15 [.tmp 6] (Tryz.f120.body.getD .skip) D39 D3A).fn x=C4m x.1 x.2.1 x.2.2.1:=by intro x;kernel_rfl
theorem S8:B4 Tryz.prog 120 E1M:=sm MO B1 A8 Tryz.func120 (by kernel_rfl) (by decide) (E1N)
def E2w:Nat→Option Jn:=B5 [(7,⟨[.t 3 false [.int .i64]],lt 4 28 [],true⟩),(58,⟨[.t 3 false [.int .i64],.t 4 false [.int .i64]],lt 5 27 [],false⟩),(7462,⟨[.t 3 false [.int .i64],.t 5 false [.int .i64]],lt 20 12 [.t 6],false⟩)]
abbrev D7p:List PK:= [.val false (.rs 5 (.int .u8)) false]
abbrev D7q:List RK:= [.val false (.int .i64)]
def C46(f:A91):Nat×Fn:=(152,⟨D7p,D7q,fun x=>f x.1⟩)
def E2x:Fn:=(C46 A7J).2
theorem E2y:∀ x,(C7 cfg [] E2w 34 [.tmp 2] (Tryz.f152.body.getD .skip) D7p D7q).fn x=D03 x.1:=by intro x;kernel_rfl
theorem D0e:B4 Tryz.prog 152 E2x:=sm MO B1 A8 Tryz.func152 (by kernel_rfl) (by decide) (E2y)
def D9A:Nat→Option Jn:=B5 [(3,⟨[],lt 3 21 [],false⟩),(26,⟨[.t 3 false [.int .i64]],lt 4 20 [],false⟩)]
abbrev C9R:List PK:= [.val false .str false]
abbrev C9S:List RK:= [.val false .bool]
def A44(f:P3):Nat×Fn:=(160,⟨C9R,C9S,fun x=>f x.1⟩)
def D9B:Fn:=(A44 N9).2
theorem D9C(f_s_l1In:E6):∀ x,(C7 cfg [Q9 f_s_l1In] D9A 27 [.tmp 2] (Tryz.f160.body.getD .skip) C9R C9S).fn x=C0O f_s_l1In x.1:=by intro x;kernel_rfl
theorem A5n:B4 Tryz.prog 160 D9B:=sm MO B1 (tc Tryz.call120 S8 A8) Tryz.func160 (by kernel_rfl) (by decide) (D9C E4)
abbrev B99:List PK:= [.val true (.pair .str (.pair (.rs 5 (.int .u8)) F8)) false]
abbrev B9A:List RK:= [.val false .bool]
def A4o(f:O4):Nat×Fn:=(215,⟨B99,B9A,fun x=>f x.1⟩)
def D0f:Fn:=(A4o G1).2
theorem D0g(f_s_l1In:E6)(f_s_l11Id:P3):∀ x,(C7 cfg [Q9 f_s_l1In,A44 f_s_l11Id] (B5 []) 25 [.tmp 2] (Tryz.f215.body.getD .skip) B99 B9A).fn x=B1q f_s_l1In f_s_l11Id x.1:=by intro x;kernel_rfl
theorem A7c:B4 Tryz.prog 215 D0f:=sm MO B1 (tc Tryz.call120 S8 (tc Tryz.call160 A5n A8)) Tryz.func215 (by kernel_rfl) (by decide) (D0g E4 N9)
def D3B:Nat→Option Jn:=B5 [(128503,⟨[.t 7 false [.int .i64]],lt 40 8 [],true⟩)]
abbrev C24:List PK:= [.val true (.pair .str (.pair (.rs 5 (.int .u8)) F8)) false]
abbrev C25:List RK:= [.val true Y1,.val false (.sl 5 (.int .u8)),.val false .bool]
def C26(f:A93):Nat×Fn:=(251,⟨C24,C25,fun x=>f x.1⟩)
def D3C:Fn:=(C26 A6N).2
theorem D3D(f_s_Crc:A91)(f_s_ClientOk:O4):∀ x,(C7 cfg [C46 f_s_Crc,A4o f_s_ClientOk] D3B 65 [.cell 2 43,.tmp 3,.tmp 4] (Tryz.f251.body.getD .skip) C24 C25).fn x=B45 f_s_Crc f_s_ClientOk x.1:=by intro x;kernel_rfl
theorem D3E:B4 Tryz.prog 251 D3C:=sm MO B1 (tc Tryz.call152 D0e (tc Tryz.call215 A7c A8)) Tryz.func251 (by kernel_rfl) (by decide) (D3D A7J G1)
abbrev C27:List PK:= [.val true (.pair (.rs 9 .str) (.rs 9 .str)) false]
abbrev C28:List RK:= [.val true A59]
def A9Z(f:A0X):Nat×Fn:=(229,⟨C27,C28,fun x=>f x.1⟩)
def D3F:Fn:=(A9Z Y7).2
theorem D3G:∀ x,(C7 cfg [] (B5 []) 12 [.cell 2 26] (Tryz.f229.body.getD .skip) C27 C28).fn x=B46 x.1:=by intro x;kernel_rfl
theorem B4f:B4 Tryz.prog 229 D3F:=sm MO B1 A8 Tryz.func229 (by kernel_rfl) (by decide) (D3G)
def C5j:Nat→Option Jn:=B5 [(58,⟨[.t 3 false [.own 100000000],.t 4 false [.int .i64],.r 100000000 109 kUp],lt 7 19 [.b 5,.r 6,.r 17,.r 20,.r 24,.r 25,.t 5],false⟩)]
abbrev B4g:List PK:= [.val false (.rs 109 kUp) false]
abbrev B4h:List RK:= [.val false (.sl 109 kUp)]
def A8V(f:O5):Nat×Fn:=(230,⟨B4g,B4h,fun x=>f x.1⟩)
def C5k:Fn:=(A8V M3).2
theorem C5l:∀ x,(C7 cfg [] C5j 27 [.tmp 2] (Tryz.f230.body.getD .skip) B4g B4h).fn x=A4E x.1:=by intro x;kernel_rfl
theorem B4i:B4 Tryz.prog 230 C5k:=sm MO B1 A8 Tryz.func230 (by kernel_rfl) (by decide) (C5l)
abbrev C29:List PK:= [.val true (.pair (.pair (.rs 9 .str) (.rs 9 .str)) (.pair (.int .i64) (.pair (.int .i64) (.rs 109 kUp)))) false]
abbrev C2A:List RK:= [.val true A7w]
def A6i(f:V3):Nat×Fn:=(157,⟨C29,C2A,fun x=>f x.1⟩)
def D3H:Fn:=(A6i S3).2
theorem D3I(f_s_l12Copy:A0X)(f_s_l14CopyUps:O5):∀ x,(C7 cfg [A9Z f_s_l12Copy,A8V f_s_l14CopyUps] (B5 []) 14 [.cell 2 29] (Tryz.f157.body.getD .skip) C29 C2A).fn x=B47 f_s_l12Copy f_s_l14CopyUps x.1:=by intro x;kernel_rfl
theorem A9a:B4 Tryz.prog 157 D3H:=sm MO B1 (tc Tryz.call229 B4f (tc Tryz.call230 B4i A8)) Tryz.func157 (by kernel_rfl) (by decide) (D3I Y7 M3)
def D5o:Nat→Option Jn:=B5 [(3,⟨[],lt 4 13 [],false⟩),(58,⟨[.t 3 false [.int .i64]],lt 17 23 [],false⟩)]
abbrev C5m:List PK:= [.val true (.pair (.rs 9 .str) (.rs 9 .str)) false]
abbrev C5n:List RK:= [.val false .bool]
def B2e(f:A1g):Nat×Fn:=(231,⟨C5m,C5n,fun x=>f x.1⟩)
def D5p:Fn:=(B2e T7).2
theorem D5q:∀ x,(C7 cfg [] D5o 40 [.tmp 2] (Tryz.f231.body.getD .skip) C5m C5n).fn x=B1r x.1:=by intro x;kernel_rfl
theorem B7w:B4 Tryz.prog 231 D5p:=sm MO B1 A8 Tryz.func231 (by kernel_rfl) (by decide) (D5q)
def D5r:Nat→Option Jn:=B5 [(3,⟨[],lt 10 15 [],false⟩),(15,⟨[.t 8 false [.int .i64]],lt 25 15 [.t 9],true⟩),(122,⟨[.t 8 false [.int .i64],.t 9 false [.int .i64]],lt 25 15 [],false⟩)]
abbrev C5o:List PK:= [.val false (.rs 5 (.int .u8)) false,.val false (.int .i64) false,.val false (.int .i64) false]
abbrev C5p:List RK:= [.val false (.int .i64),.val false .bool]
def C5q(f:B1s):Nat×Fn:=(282,⟨C5o,C5p,fun x=>f x.1 x.2.1 x.2.2.1⟩)
def D5s:Fn:=(C5q A5M).2
theorem D5t(f_s_l1In:E6):∀ x,(C7 cfg [Q9 f_s_l1In] D5r 41 [.tmp 6,.tmp 7] (Tryz.f282.body.getD .skip) C5o C5p).fn x=B7Q f_s_l1In x.1 x.2.1 x.2.2.1:=by intro x;kernel_rfl
theorem D5u:B4 Tryz.prog 282 D5s:=sm MO B1 (tc Tryz.call120 S8 A8) Tryz.func282 (by kernel_rfl) (by decide) (D5t E4)
def D9D:Nat→Option Jn:=B5 [(3,⟨[],lt 3 16 [],false⟩),(943,⟨[.t 43 false [.bool]],[.t 44,.t 45],true⟩)]
abbrev C9T:List PK:= [.val true (.pair (.int .i64) (.pair (.int .i64) (.pair (.int .i64) (.pair .str (.pair (.int .i64) (.rs 5 (.int .u8))))))) false]
abbrev C9U:List RK:= [.val false .bool]
def C9V(f:B5g):Nat×Fn:=(283,⟨C9T,C9U,fun x=>f x.1⟩)
def D9E:Fn:=(C9V B0f).2
theorem D9F(f_s_l1In:E6)(f_s_l11Id:P3):∀ x,(C7 cfg [Q9 f_s_l1In,A44 f_s_l11Id] D9D 55 [.tmp 2] (Tryz.f283.body.getD .skip) C9T C9U).fn x=C0P f_s_l1In f_s_l11Id x.1:=by intro x;kernel_rfl
theorem D9G:B4 Tryz.prog 283 D9E:=sm MO B1 (tc Tryz.call120 S8 (tc Tryz.call160 A5n A8)) Tryz.func283 (by kernel_rfl) (by decide) (D9F E4 N9)
def D5v:Nat→Option Jn:=B5 [(7,⟨[.t 1 false [.int .i64]],[.t 12,.t 13],true⟩),(250,⟨[.t 7 false [.own 100001000],.t 8 false [.int .i64],.r 100001000 5 (.int .u8)],lt 20 13 [.r 11,.r 31,.r 32],false⟩)]
abbrev C5r:List PK:= [.val false (.rs 5 (.int .u8)) false,.val false (.int .i64) false,.val false (.int .i64) false]
abbrev C5s:List RK:= [.val false (.sl 5 (.int .u8))]
def C5t(f:B1t):Nat×Fn:=(306,⟨C5r,C5s,fun x=>f x.1 x.2.1 x.2.2.1⟩)
def D5w:Fn:=(C5t A7y).2
theorem D5x(f_s_l1In:E6):∀ x,(C7 cfg [Q9 f_s_l1In] D5v 34 [.tmp 6] (Tryz.f306.body.getD .skip) C5r C5s).fn x=B7R f_s_l1In x.1 x.2.1 x.2.2.1:=by intro x;kernel_rfl
theorem D5y:B4 Tryz.prog 306 D5w:=sm MO B1 (tc Tryz.call120 S8 A8) Tryz.func306 (by kernel_rfl) (by decide) (D5x E4)
abbrev C5u:List PK:= [.val true (.pair (.int .i64) (.pair (.int .i64) (.pair (.int .i64) (.pair .str (.pair (.int .i64) (.rs 5 (.int .u8))))))) false]
abbrev C5v:List RK:= [.val false .str]
def B7x(f:A5N):Nat×Fn:=(284,⟨C5u,C5v,fun x=>f x.1⟩)
def D5z:Fn:=(B7x A3b).2
theorem D60(f_s_Crc:A91)(f_s_PutBig:B1t):∀ x,(C7 cfg [C46 f_s_Crc,C5t f_s_PutBig] (B5 []) 38 [.tmp 2] (Tryz.f284.body.getD .skip) C5u C5v).fn x=B7S f_s_Crc f_s_PutBig x.1:=by intro x;kernel_rfl
theorem C5w:B4 Tryz.prog 284 D5z:=sm MO B1 (tc Tryz.call152 D0e (tc Tryz.call306 D5y A8)) Tryz.func284 (by kernel_rfl) (by decide) (D60 A7J A7y)
def D61:Nat→Option Jn:=B5 [(255,⟨[],lt 42 21 [],false⟩),(4095,⟨[],lt 87 15 [],false⟩)]
abbrev C5x:List PK:= [.val false .str false]
abbrev C5y:List RK:= [.val true A7I,.val false .bool]
def B2f(f:W4):Nat×Fn:=(235,⟨C5x,C5y,fun x=>f x.1⟩)
def D62:Fn:=(B2f L0).2
theorem D63(f_s_GetBig:B1s)(f_s_RecOk:B5g)(f_s_l13Put:A5N):∀ x,(C7 cfg [C5q f_s_GetBig,C9V f_s_RecOk,B7x f_s_l13Put] D61 127 [.cell 2 194,.tmp 3] (Tryz.f235.body.getD .skip) C5x C5y).fn x=B7T f_s_GetBig f_s_RecOk f_s_l13Put x.1:=by intro x;kernel_rfl
theorem B7y:B4 Tryz.prog 235 D62:=sm MO B1 (tc Tryz.call282 D5u (tc Tryz.call283 D9G (tc Tryz.call284 C5w A8))) Tryz.func235 (by kernel_rfl) (by decide) (D63 A5M B0f A3b)
def D0h:Nat→Option Jn:=B5 [(122,⟨[.t 3 false [.own 100000000],.t 4 false [.int .i64],.t 5 false [.int .i64],.r 100000000 194 A7I],lt 40 6 (lt 9 30 [.b 6,.r 8,.r 42,.r 43,.r 94213,.t 6,.t 7]),false⟩)]
abbrev B9B:List PK:= [.val true (.pair (.rs 9 .str) (.rs 9 .str)) false]
abbrev B9C:List RK:= [.val false (.sl 194 A7I)]
def B2g(f:A2F):Nat×Fn:=(232,⟨B9B,B9C,fun x=>f x.1⟩)
def D0i:Fn:=(B2g Y8).2
theorem D0j(f_s_GetRec:W4):∀ x,(C7 cfg [B2f f_s_GetRec] D0h 47 [.tmp 2] (Tryz.f232.body.getD .skip) B9B B9C).fn x=B8Z f_s_GetRec x.1:=by intro x;kernel_rfl
theorem B9D:B4 Tryz.prog 232 D0i:=sm MO B1 (tc Tryz.call235 B7y A8) Tryz.func232 (by kernel_rfl) (by decide) (D0j L0)
def D9H:Nat→Option Jn:=B5 [(26,⟨[.t 5 false [.int .i64]],lt 6 13 [],false⟩)]
abbrev C9W:List PK:= [.val false (.rs 109 kUp) false,.val false .str false]
abbrev C9X:List RK:= [.val false (.int .i64)]
def A5o(f:S9):Nat×Fn:=(206,⟨C9W,C9X,fun x=>f x.1 x.2.1⟩)
def D9I:Fn:=(A5o P4).2
theorem D9J:∀ x,(C7 cfg [] D9H 20 [.tmp 4] (Tryz.f206.body.getD .skip) C9W C9X).fn x=C0Q x.1 x.2.1:=by intro x;kernel_rfl
theorem A7l:B4 Tryz.prog 206 D9I:=sm MO B1 A8 Tryz.func206 (by kernel_rfl) (by decide) (D9J)
def A8W:Nat→Option Jn:=B5 [(58,⟨[.t 3 false [.own 100000000],.t 4 false [.int .i64],.r 100000000 109 (.pair .str (.pair (.int .i64) (.pair (.rs 5 (.int .u8)) .bool)))],lt 7 19 [.b 5,.r 6,.r 17,.r 20,.r 24,.r 25,.t 5],false⟩)]
abbrev A26:List PK:= [.val false (.rs 109 kUp) false]
abbrev A27:List RK:= [.val false (.sl 109 (.pair .str (.pair (.int .i64) (.pair (.rs 5 (.int .u8)) .bool))))]
def A28(f:O5):Nat×Fn:=(230,⟨A26,A27,fun x=>f x.1⟩)
def A8X:Fn:=(A28 M3).2
theorem A8Y:∀ x,(C7 C0u [] A8W 27 [.tmp 2] (Tryz.f230.body.getD .skip) A26 A27).fn x=A4E x.1:=by intro x;kernel_rfl
theorem A8Z:B4 Tryz.prog 230 A8X:=sm MO A3X A8 Tryz.func230 (by kernel_rfl) (by decide) (A8Y)
def B0u:Nat→Option Jn:=B5 [(15,⟨[.t 5 false [.own 11],.t 6 false [.int .i64],.r 11 109 (.pair .str (.pair (.int .i64) (.pair (.rs 5 (.int .u8)) .bool)))],lt 15 23 [.x 21,.x 33,.x 35],true⟩),(60,⟨[.t 5 false [.own 11],.t 6 false [.int .i64],.r 11 109 (.pair .str (.pair (.int .i64) (.pair (.rs 5 (.int .u8)) .bool)))],lt 15 23 [.x 21,.x 33,.x 35],false⟩),(120,⟨[],lt 15 13 [.x 21],false⟩)]
abbrev A45:List PK:= [.val false (.rs 109 kUp) false,.val true (.pair .str (.pair (.int .i64) (.pair (.rs 5 (.int .u8)) .bool))) false]
abbrev A46:List RK:= [.val false (.sl 109 (.pair .str (.pair (.int .i64) (.pair (.rs 5 (.int .u8)) .bool))))]
def A47(f:T0):Nat×Fn:=(305,⟨A45,A46,fun x=>f x.1 x.2.1⟩)
def B0v:Fn:=(A47 O0).2
theorem B0w(f_s_l14CopyUps:O5):∀ x,(C7 C0u [A28 f_s_l14CopyUps] B0u 43 [.tmp 4] (Tryz.f305.body.getD .skip) A45 A46).fn x=A0H f_s_l14CopyUps x.1 x.2.1:=by intro x;kernel_rfl
theorem B0x:B4 Tryz.prog 305 B0v:=sm MO A3X (tc Tryz.call230 A8Z A8) Tryz.func305 (by kernel_rfl) (by decide) (B0w M3)
def C0z:Nat→Option Jn:=B5 [(4074,⟨[],lt 43 27 [],false⟩)]
abbrev B0y:List PK:= [.val false (.rs 109 kUp) false,.val true (.pair (.int .i64) (.pair (.int .i64) (.pair (.int .i64) (.pair .str (.pair (.int .i64) (.rs 5 (.int .u8))))))) false]
abbrev B0z:List RK:= [.val false (.rs 109 (.pair .str (.pair (.int .i64) (.pair (.rs 5 (.int .u8)) .bool)))),.val false .bool]
def A5p(f:R1):Nat×Fn:=(281,⟨B0y,B0z,fun x=>f x.1 x.2.1⟩)
def C10:Fn:=(A5p O1).2
theorem C11(f_s_l14At:S9)(f_s_l14CopyUps:O5)(f_s_l14Make_r98_0_r99_0:T0):∀ x,(C7 cfg [A5o f_s_l14At,A8V f_s_l14CopyUps,A47 f_s_l14Make_r98_0_r99_0] C0z 114 [.tmp 4,.tmp 5] (Tryz.f281.body.getD .skip) B0y B0z).fn x=A5O f_s_l14At f_s_l14CopyUps f_s_l14Make_r98_0_r99_0 x.1 x.2.1:=by intro x;kernel_rfl
theorem B10:B4 Tryz.prog 281 C10:=sm MO B1 (tc Tryz.call206 A7l (tc Tryz.call230 B4i (tc Tryz.call305 B0x A8))) Tryz.func281 (by kernel_rfl) (by decide) (C11 P4 M3 O0)
def C5z:Nat→Option Jn:=B5 [(58,⟨[.t 5 false [.int .i64]],lt 11 58 [],false⟩)]
abbrev B4j:List PK:= [.val false (.rs 109 kUp) false,.val false (.rs 109 kUp) false]
abbrev B4k:List RK:= [.val false .bool]
def B4l(f:A4G):Nat×Fn:=(234,⟨B4j,B4k,fun x=>f x.1 x.2.1⟩)
def C60:Fn:=(B4l A1h).2
theorem C61:∀ x,(C7 cfg [] C5z 69 [.tmp 4] (Tryz.f234.body.getD .skip) B4j B4k).fn x=A7z x.1 x.2.1:=by intro x;kernel_rfl
theorem C62:B4 Tryz.prog 234 C60:=sm MO B1 A8 Tryz.func234 (by kernel_rfl) (by decide) (C61)
def B7z:Nat→Option Jn:=B5 [(7,⟨[.t 4 false [.ro 109 (.pair .str (.pair (.int .i64) (.pair (.rs 5 (.int .u8)) .bool)))]],lt 5 21 [.r 8,.t 27],false⟩),(58,⟨[.t 4 false [.ro 109 (.pair .str (.pair (.int .i64) (.pair (.rs 5 (.int .u8)) .bool)))],.t 5 false [.int .i64]],lt 6 20 [.r 8,.t 27],false⟩)]
abbrev A8a:List PK:= [.val false (.rs 194 A7I) false]
abbrev A8b:List RK:= [.val false (.rs 109 kUp),.val false .bool]
def A3k(f:R2):Nat×Fn:=(233,⟨A8a,A8b,fun x=>f x.1⟩)
def B80:Fn:=(A3k N4).2
theorem B81(f_s_l14One_r99_0:R1):∀ x,(C7 cfg [A5p f_s_l14One_r99_0] B7z 29 [.tmp 2,.tmp 3] (Tryz.f233.body.getD .skip) A8a A8b).fn x=A3c f_s_l14One_r99_0 x.1:=by intro x;kernel_rfl
theorem A8c:B4 Tryz.prog 233 B80:=sm MO B1 (tc Tryz.call281 B10 A8) Tryz.func233 (by kernel_rfl) (by decide) (B81 O1)
def D3J:Nat→Option Jn:=B5 [(3,⟨[],lt 9 10 [],false⟩),(31,⟨[],lt 27 33 [],false⟩),(506,⟨[.t 6 false [.int .i64]],lt 62 26 [.b 7,.r 319493,.t 7,.t 8],false⟩)]
abbrev C2B:List PK:= [.val true (.pair (.pair (.rs 9 .str) (.rs 9 .str)) (.pair (.int .i64) (.pair (.int .i64) (.rs 109 kUp)))) false]
abbrev C2C:List RK:= [.val false .bool]
def A48(f:P7):Nat×Fn:=(159,⟨C2B,C2C,fun x=>f x.1⟩)
def D3K:Fn:=(A48 F7).2
theorem D3L(f_s_l1In:E6)(f_s_DiskOk:A1g)(f_s_ScanRecs:A2F)(f_s_FoldRecs_r99_0:R2)(f_s_l14SameUps:A4G)(f_s_GetRec:W4):∀ x,(C7 cfg [Q9 f_s_l1In,B2e f_s_DiskOk,B2g f_s_ScanRecs,A3k f_s_FoldRecs_r99_0,B4l f_s_l14SameUps,B2f f_s_GetRec] D3J 88 [.tmp 2] (Tryz.f159.body.getD .skip) C2B C2C).fn x=A95 f_s_l1In f_s_DiskOk f_s_ScanRecs f_s_FoldRecs_r99_0 f_s_l14SameUps f_s_GetRec x.1:=by intro x;kernel_rfl
theorem A6j:B4 Tryz.prog 159 D3K:=sm MO B1 (tc Tryz.call120 S8 (tc Tryz.call231 B7w (tc Tryz.call232 B9D (tc Tryz.call233 A8c (tc Tryz.call234 C62 (tc Tryz.call235 B7y A8)))))) Tryz.func159 (by kernel_rfl) (by decide) (D3L E4 T7 Y8 N4 A1h L0)
abbrev C2D:List PK:= [.val true (.pair (.pair (.rs 9 .str) (.rs 9 .str)) (.pair (.int .i64) (.pair (.int .i64) (.rs 109 kUp)))) false]
abbrev C2E:List RK:= [.val false (.int .i64)]
def A6k(f:V4):Nat×Fn:=(236,⟨C2D,C2E,fun x=>f x.1⟩)
def D3M:Fn:=(A6k S5).2
theorem D3N:∀ x,(C7 cfg [] (B5 []) 10 [.tmp 2] (Tryz.f236.body.getD .skip) C2D C2E).fn x=B48 x.1:=by intro x;kernel_rfl
theorem A9b:B4 Tryz.prog 236 D3M:=sm MO B1 A8 Tryz.func236 (by kernel_rfl) (by decide) (D3N)
abbrev A9c:List PK:= [.ptr (.pair A59 (.pair (.int .i64) (.pair (.int .i64) (.rs 109 kUp)))),.val true (.pair (.int .i64) (.pair (.int .i64) (.pair (.int .i64) (.pair .str (.pair (.int .i64) (.rs 5 (.int .u8))))))) false]
abbrev A9d:List RK:= []
def Z7(f:H6):Nat×Fn:=(237,⟨A9c,A9d,fun x=>f x.1 x.2.1⟩)
def B9E:Fn:=(Z7 F3).2
theorem B9F(f_s_l14One_r99_0:R1)(f_s_l13Put:A5N):∀ x,(C7 cfg [A5p f_s_l14One_r99_0,B7x f_s_l13Put] (B5 []) 46 [] (Tryz.f237.body.getD .skip) A9c A9d).fn x=A4H f_s_l14One_r99_0 f_s_l13Put x.1 x.2.1:=by intro x;kernel_rfl
theorem A1S:B4 Tryz.prog 237 B9E:=sm MO B1 (tc Tryz.call281 B10 (tc Tryz.call284 C5w A8)) Tryz.func237 (by kernel_rfl) (by decide) (B9F O1 A3b)
abbrev D3O:List PK:= [.val true (.pair (.pair (.rs 9 .str) (.rs 9 .str)) (.pair (.int .i64) (.pair (.int .i64) (.rs 109 kUp)))) false,.val false .str false]
abbrev D3P:List RK:= [.val true kUp,.val false .bool]
def C63(f:B0g):Nat×Fn:=(113,⟨D3O,D3P,fun x=>f x.1 x.2.1⟩)
def E1O:Fn:=(C63 A80).2
theorem E1P(f_s_l14At:S9):∀ x,(C7 cfg [A5o f_s_l14At] (B5 []) 26 [.cell 4 109,.tmp 5] (Tryz.f113.body.getD .skip) D3O D3P).fn x=C4n f_s_l14At x.1 x.2.1:=by intro x;kernel_rfl
theorem D3Q:B4 Tryz.prog 113 E1O:=sm MO B1 (tc Tryz.call206 A7l A8) Tryz.func113 (by kernel_rfl) (by decide) (E1P P4)
abbrev B9G:List PK:= [.val true (.pair (.pair (.rs 9 .str) (.rs 9 .str)) (.pair (.int .i64) (.pair (.int .i64) (.rs 109 kUp)))) false,.val true Y1 false]
abbrev B9H:List RK:= [.val true F8]
def B9I(f:A7K):Nat×Fn:=(166,⟨B9G,B9H,fun x=>f x.1 x.2.1⟩)
def D0k:Fn:=(B9I A4I).2
theorem D0l(f_s_UpAt:B0g):∀ x,(C7 cfg [C63 f_s_UpAt] (B5 []) 35 [.cell 4 126] (Tryz.f166.body.getD .skip) B9G B9H).fn x=B1u f_s_UpAt x.1 x.2.1:=by intro x;kernel_rfl
theorem D0m:B4 Tryz.prog 166 D0k:=sm MO B1 (tc Tryz.call113 D3Q A8) Tryz.func166 (by kernel_rfl) (by decide) (D0l A80)
def D64:Nat→Option Jn:=B5 [(235,⟨[.t 19 false [.bool]],[.t 20,.t 21],true⟩)]
abbrev C64:List PK:= [.val true (.pair (.pair (.rs 9 .str) (.rs 9 .str)) (.pair (.int .i64) (.pair (.int .i64) (.rs 109 kUp)))) false,.val false .str false,.val false (.int .i64) false]
abbrev C65:List RK:= [.val true F8]
def C66(f:B1v):Nat×Fn:=(167,⟨C64,C65,fun x=>f x.1 x.2.1 x.2.2.1⟩)
def D65:Fn:=(C66 A81).2
theorem D66(f_s_UpAt:B0g):∀ x,(C7 cfg [C63 f_s_UpAt] D64 33 [.cell 6 126] (Tryz.f167.body.getD .skip) C64 C65).fn x=B7U f_s_UpAt x.1 x.2.1 x.2.2.1:=by intro x;kernel_rfl
theorem D67:B4 Tryz.prog 167 D65:=sm MO B1 (tc Tryz.call113 D3Q A8) Tryz.func167 (by kernel_rfl) (by decide) (D66 A80)
def C12:Nat→Option Jn:=B5 [(7,⟨[],lt 33 10 (lt 26 6 (lt 11 14 [])),false⟩),(28,⟨[.t 11 false [.bool]],lt 12 13 [],true⟩)]
abbrev B11:List PK:= [.val true (.pair (.pair (.rs 9 .str) (.rs 9 .str)) (.pair (.int .i64) (.pair (.int .i64) (.rs 109 kUp)))) false,.val false .str false,.val false (.int .i64) false]
abbrev B12:List RK:= [.val true (.pair A59 (.pair (.int .i64) (.pair (.int .i64) (.rs 109 kUp)))),.val false (.int .i64)]
def B13(f:A2G):Nat×Fn:=(162,⟨B11,B12,fun x=>f x.1 x.2.1 x.2.2.1⟩)
def C13:Fn:=(B13 A0I).2
theorem C14(f_s_l1In:E6)(f_s_l14Copy:V3)(f_s_StoreOk:P7)(f_s_l11Id:P3)(f_s_l14At:S9)(f_s_l14Left:V4)(f_s_l14Write_r0_4:H6):∀ x,(C7 cfg [Q9 f_s_l1In,A6i f_s_l14Copy,A48 f_s_StoreOk,A44 f_s_l11Id,A5o f_s_l14At,A6k f_s_l14Left,Z7 f_s_l14Write_r0_4] C12 49 [.cell 6 29,.tmp 7] (Tryz.f162.body.getD .skip) B11 B12).fn x=A5Q f_s_l1In f_s_l14Copy f_s_StoreOk f_s_l11Id f_s_l14At f_s_l14Left f_s_l14Write_r0_4 x.1 x.2.1 x.2.2.1:=by intro x;kernel_rfl
theorem C15:B4 Tryz.prog 162 C13:=sm MO B1 (tc Tryz.call120 S8 (tc Tryz.call157 A9a (tc Tryz.call159 A6j (tc Tryz.call160 A5n (tc Tryz.call206 A7l (tc Tryz.call236 A9b (tc Tryz.call237 A1S A8))))))) Tryz.func162 (by kernel_rfl) (by decide) (C14 E4 S3 F7 N9 P4 S5 F3)
def C36:Nat→Option Jn:=B5 [(7,⟨[],lt 17 14 [],false⟩),(127,⟨[],lt 64 9 (lt 44 19 []),false⟩),(255,⟨[.b 10 [.own 100003000,.own 100003001,.int .i64,.int .i64,.ro 109 kUp],.r 100003000 9 .str,.r 100003001 9 .str],lt 74 26 [.r 92,.r 97,.r 69632,.r 69633,.r 69636,.r 411648,.r 411649,.t 13,.t 14,.t 16],true⟩),(508,⟨[.t 44 false [.bool]],lt 45 18 [],true⟩),(2042,⟨[.t 13 false [.int .i64],.b 10 [.own 100003000,.own 100003001,.int .i64,.int .i64,.ro 109 kUp],.r 100003000 9 .str,.r 100003001 9 .str],lt 74 26 [.r 92,.r 97,.r 69632,.r 69633,.r 69636,.r 411648,.r 411649,.t 14,.t 16],false⟩),(65353,⟨[.t 14 false [.int .i64]],lt 82 6 [],true⟩)]
abbrev B30:List PK:= [.val true (.pair (.pair (.rs 9 .str) (.rs 9 .str)) (.pair (.int .i64) (.pair (.int .i64) (.rs 109 kUp)))) false,.val false .str false,.val false (.int .i64) false,.val false (.rs 5 (.int .u8)) false]
abbrev B31:List RK:= [.val true (.pair A59 (.pair (.int .i64) (.pair (.int .i64) (.rs 109 kUp)))),.val false (.int .i64)]
def B32(f:A3H):Nat×Fn:=(163,⟨B30,B31,fun x=>f x.1 x.2.1 x.2.2.1 x.2.2.2.1⟩)
def C37:Fn:=(B32 A0w).2
theorem C38(f_s_l1In:E6)(f_s_l14Copy:V3)(f_s_StoreOk:P7)(f_s_l11Id:P3)(f_s_l14At:S9)(f_s_l14Left:V4)(f_s_l14Write_r0_4:H6):∀ x,(C7 cfg [Q9 f_s_l1In,A6i f_s_l14Copy,A48 f_s_StoreOk,A44 f_s_l11Id,A5o f_s_l14At,A6k f_s_l14Left,Z7 f_s_l14Write_r0_4] C36 101 [.cell 8 29,.tmp 9] (Tryz.f163.body.getD .skip) B30 B31).fn x=A6o f_s_l1In f_s_l14Copy f_s_StoreOk f_s_l11Id f_s_l14At f_s_l14Left f_s_l14Write_r0_4 x.1 x.2.1 x.2.2.1 x.2.2.2.1:=by intro x;kernel_rfl
theorem C39:B4 Tryz.prog 163 C37:=sm MO B1 (tc Tryz.call120 S8 (tc Tryz.call157 A9a (tc Tryz.call159 A6j (tc Tryz.call160 A5n (tc Tryz.call206 A7l (tc Tryz.call236 A9b (tc Tryz.call237 A1S A8))))))) Tryz.func163 (by kernel_rfl) (by decide) (C38 E4 S3 F7 N9 P4 S5 F3)
def C16:Nat→Option Jn:=B5 [(7,⟨[],lt 13 8 [],false⟩)]
abbrev B14:List PK:= [.val true (.pair (.pair (.rs 9 .str) (.rs 9 .str)) (.pair (.int .i64) (.pair (.int .i64) (.rs 109 kUp)))) false,.val false .str false,.val false (.int .i64) false]
abbrev B15:List RK:= [.val true (.pair A59 (.pair (.int .i64) (.pair (.int .i64) (.rs 109 kUp)))),.val false (.int .i64)]
def B16(f:A2H):Nat×Fn:=(164,⟨B14,B15,fun x=>f x.1 x.2.1 x.2.2.1⟩)
def C17:Fn:=(B16 A0J).2
theorem C18(f_s_Crc:A91)(f_s_l14Copy:V3)(f_s_StoreOk:P7)(f_s_l11Id:P3)(f_s_l14At:S9)(f_s_l14Left:V4)(f_s_l14Write_r0_4:H6):∀ x,(C7 cfg [C46 f_s_Crc,A6i f_s_l14Copy,A48 f_s_StoreOk,A44 f_s_l11Id,A5o f_s_l14At,A6k f_s_l14Left,Z7 f_s_l14Write_r0_4] C16 62 [.cell 6 29,.tmp 7] (Tryz.f164.body.getD .skip) B14 B15).fn x=A5R f_s_Crc f_s_l14Copy f_s_StoreOk f_s_l11Id f_s_l14At f_s_l14Left f_s_l14Write_r0_4 x.1 x.2.1 x.2.2.1:=by intro x;kernel_rfl
theorem C19:B4 Tryz.prog 164 C17:=sm MO B1 (tc Tryz.call152 D0e (tc Tryz.call157 A9a (tc Tryz.call159 A6j (tc Tryz.call160 A5n (tc Tryz.call206 A7l (tc Tryz.call236 A9b (tc Tryz.call237 A1S A8))))))) Tryz.func164 (by kernel_rfl) (by decide) (C18 A7J S3 F7 N9 P4 S5 F3)
def C1A:Nat→Option Jn:=B5 [(7,⟨[],lt 26 4 (lt 19 6 (lt 9 9 [])),false⟩),(28,⟨[.t 9 false [.bool]],lt 10 8 [],true⟩)]
abbrev B17:List PK:= [.val true (.pair (.pair (.rs 9 .str) (.rs 9 .str)) (.pair (.int .i64) (.pair (.int .i64) (.rs 109 kUp)))) false,.val false .str false]
abbrev B18:List RK:= [.val true (.pair A59 (.pair (.int .i64) (.pair (.int .i64) (.rs 109 kUp)))),.val false (.int .i64)]
def B19(f:A2I):Nat×Fn:=(165,⟨B17,B18,fun x=>f x.1 x.2.1⟩)
def C1B:Fn:=(B19 A0K).2
theorem C1C(f_s_l14Copy:V3)(f_s_StoreOk:P7)(f_s_l11Id:P3)(f_s_l14At:S9)(f_s_l14Left:V4)(f_s_l14Write_r0_4:H6):∀ x,(C7 cfg [A6i f_s_l14Copy,A48 f_s_StoreOk,A44 f_s_l11Id,A5o f_s_l14At,A6k f_s_l14Left,Z7 f_s_l14Write_r0_4] C1A 35 [.cell 4 29,.tmp 5] (Tryz.f165.body.getD .skip) B17 B18).fn x=A5S f_s_l14Copy f_s_StoreOk f_s_l11Id f_s_l14At f_s_l14Left f_s_l14Write_r0_4 x.1 x.2.1:=by intro x;kernel_rfl
theorem C1D:B4 Tryz.prog 165 C1B:=sm MO B1 (tc Tryz.call157 A9a (tc Tryz.call159 A6j (tc Tryz.call160 A5n (tc Tryz.call206 A7l (tc Tryz.call236 A9b (tc Tryz.call237 A1S A8)))))) Tryz.func165 (by kernel_rfl) (by decide) (C1C S3 F7 N9 P4 S5 F3)
abbrev B6W:List PK:= [.val true (.pair (.rs 9 .str) (.rs 9 .str)) false]
abbrev B6X:List RK:= [.val true A59]
def B6Y(f:A5s):Nat×Fn:=(252,⟨B6W,B6X,fun x=>f x.1⟩)
def C7j:Fn:=(B6Y A2f).2
theorem C7k:∀ x,(C7 cfg [] (B5 []) 12 [.cell 2 26] (Tryz.f252.body.getD .skip) B6W B6X).fn x=A9y x.1:=by intro x;kernel_rfl
theorem C7l:B4 Tryz.prog 252 C7j:=sm MO B1 A8 Tryz.func252 (by kernel_rfl) (by decide) (C7k)
abbrev C2F:List PK:= [.val true (.pair .str (.pair (.rs 5 (.int .u8)) F8)) false]
abbrev C2G:List RK:= [.val false .bool]
def B4m(f:A3r):Nat×Fn:=(253,⟨C2F,C2G,fun x=>f x.1⟩)
def D3R:Fn:=(B4m A1j).2
theorem D3S:∀ x,(C7 cfg [] (B5 []) 11 [.tmp 2] (Tryz.f253.body.getD .skip) C2F C2G).fn x=B49 x.1:=by intro x;kernel_rfl
theorem C2H:B4 Tryz.prog 253 D3R:=sm MO B1 A8 Tryz.func253 (by kernel_rfl) (by decide) (D3S)
abbrev C2I:List PK:= [.val false (.int .i64) false,.val false (.int .i64) false]
abbrev C2J:List RK:= [.val false (.int .i64)]
def C2K(f:A98):Nat×Fn:=(292,⟨C2I,C2J,fun x=>f x.1 x.2.1⟩)
def D3T:Fn:=(C2K A6O).2
theorem D3U:∀ x,(C7 cfg [] (B5 []) 35 [.tmp 4] (Tryz.f292.body.getD .skip) C2I C2J).fn x=B4A x.1 x.2.1:=by intro x;kernel_rfl
theorem D3V:B4 Tryz.prog 292 D3T:=sm MO B1 A8 Tryz.func292 (by kernel_rfl) (by decide) (D3U)
abbrev B1A:List PK:= [.val true (.pair .str (.pair (.rs 5 (.int .u8)) F8)) false,.val false (.int .i64) false]
abbrev B1B:List RK:= [.val true (.pair .str (.pair (.rs 5 (.int .u8)) F8))]
def B1C(f:B1w):Nat×Fn:=(293,⟨B1A,B1B,fun x=>f x.1 x.2.1⟩)
def C1E:Fn:=(B1C A82).2
theorem C1F(f_s_l1In:E6):∀ x,(C7 cfg [Q9 f_s_l1In] (B5 []) 26 [.cell 4 79] (Tryz.f293.body.getD .skip) B1A B1B).fn x=B7V f_s_l1In x.1 x.2.1:=by intro x;kernel_rfl
theorem C1G:B4 Tryz.prog 293 C1E:=sm MO B1 (tc Tryz.call120 S8 A8) Tryz.func293 (by kernel_rfl) (by decide) (C1F E4)
abbrev A9e:List PK:= [.val true (.pair .str (.pair (.rs 5 (.int .u8)) F8)) false,.val true F8 false]
abbrev A9f:List RK:= [.val true (.pair .str (.pair (.rs 5 (.int .u8)) F8))]
def A9g(f:A99):Nat×Fn:=(254,⟨A9e,A9f,fun x=>f x.1 x.2.1⟩)
def B9J:Fn:=(A9g A6P).2
theorem B9K(f_s_l17Next:A98)(f_s_l17Far:B1w):∀ x,(C7 cfg [C2K f_s_l17Next,B1C f_s_l17Far] (B5 []) 20 [.cell 4 79] (Tryz.f254.body.getD .skip) A9e A9f).fn x=B4B f_s_l17Next f_s_l17Far x.1 x.2.1:=by intro x;kernel_rfl
theorem B9L:B4 Tryz.prog 254 B9J:=sm MO B1 (tc Tryz.call292 D3V (tc Tryz.call293 C1G A8)) Tryz.func254 (by kernel_rfl) (by decide) (B9K A6O A82)
def C7m:Nat→Option Jn:=B5 [(58,⟨[.t 5 false [.own 100000000],.t 6 false [.int .i64],.r 100000000 130 B2],lt 8 20 [.r 7,.r 26,.r 27],false⟩)]
abbrev B6Z:List PK:= [.val false (.rs 130 B2) false,.val false (.int .i64) false]
abbrev B6a:List RK:= [.val false (.sl 130 B2)]
def B6b(f:A5t):Nat×Fn:=(255,⟨B6Z,B6a,fun x=>f x.1 x.2.1⟩)
def C7n:Fn:=(B6b A2g).2
theorem C7o:∀ x,(C7 cfg [] C7m 29 [.tmp 4] (Tryz.f255.body.getD .skip) B6Z B6a).fn x=A9z x.1 x.2.1:=by intro x;kernel_rfl
theorem C7p:B4 Tryz.prog 255 C7n:=sm MO B1 A8 Tryz.func255 (by kernel_rfl) (by decide) (C7o)
abbrev C2L:List PK:= [.val true (.pair .str (.pair (.rs 5 (.int .u8)) F8)) false]
abbrev C2M:List RK:= [.val true B3]
def B4n(f:A1k):Nat×Fn:=(193,⟨C2L,C2M,fun x=>f x.1⟩)
def D3W:Fn:=(B4n V5).2
theorem D3X:∀ x,(C7 cfg [] (B5 []) 9 [.cell 2 79] (Tryz.f193.body.getD .skip) C2L C2M).fn x=B4C x.1:=by intro x;kernel_rfl
theorem C2N:B4 Tryz.prog 193 D3W:=sm MO B1 A8 Tryz.func193 (by kernel_rfl) (by decide) (D3X)
abbrev C67:List PK:= [.val true (.pair .str (.pair (.rs 5 (.int .u8)) F8)) false]
abbrev C68:List RK:= [.val true B3]
def B82(f:A3d):Nat×Fn:=(256,⟨C67,C68,fun x=>f x.1⟩)
def D68:Fn:=(B82 A0i).2
theorem D69(f_s_l17Copy:A1k)(f_s_ClientOk:O4)(f_s_l17Over:A3r):∀ x,(C7 cfg [B4n f_s_l17Copy,A4o f_s_ClientOk,B4m f_s_l17Over] (B5 []) 15 [.cell 2 79] (Tryz.f256.body.getD .skip) C67 C68).fn x=B7W f_s_l17Copy f_s_ClientOk f_s_l17Over x.1:=by intro x;kernel_rfl
theorem C69:B4 Tryz.prog 256 D68:=sm MO B1 (tc Tryz.call193 C2N (tc Tryz.call215 A7c (tc Tryz.call253 C2H A8))) Tryz.func256 (by kernel_rfl) (by decide) (D69 V5 G1 A1j)
def D0n:Nat→Option Jn:=B5 [(58,⟨[.t 3 false [.int .i64],.t 4 false [.int .i64]],lt 5 27 [.b 5,.r 86021],false⟩)]
abbrev B9M:List PK:= [.val true (.pair (.rs 9 .str) (.rs 9 .str)) false]
abbrev B9N:List RK:= [.val false (.int .i64)]
def B9O(f:A7L):Nat×Fn:=(294,⟨B9M,B9N,fun x=>f x.1⟩)
def D0o:Fn:=(B9O A4K).2
theorem D0p(f_s_GetRec:W4):∀ x,(C7 cfg [B2f f_s_GetRec] D0n 33 [.tmp 2] (Tryz.f294.body.getD .skip) B9M B9N).fn x=B1x f_s_GetRec x.1:=by intro x;kernel_rfl
theorem D0q:B4 Tryz.prog 294 D0o:=sm MO B1 (tc Tryz.call235 B7y A8) Tryz.func294 (by kernel_rfl) (by decide) (D0p L0)
def D0r:Nat→Option Jn:=B5 [(122,⟨[.t 6 false [.int .i64],.b 5 [.own 36864,.own 36865],.r 36864 9 .str,.r 36865 9 .str],lt 13 35 [.x 36,.x 38,.x 45,.x 47],false⟩),(1956,⟨[.t 29 false [.bool]],lt 20 9 [],true⟩)]
abbrev B9P:List PK:= [.val true (.pair (.rs 9 .str) (.rs 9 .str)) false,.val false (.rs 4 .bool) false]
abbrev B9Q:List RK:= [.val true A59]
def B9R(f:A7M):Nat×Fn:=(258,⟨B9P,B9Q,fun x=>f x.1 x.2.1⟩)
def D0s:Fn:=(B9R A0j).2
theorem D0t(f_s_l12Copy:A0X)(f_s_DiskOk:A1g):∀ x,(C7 cfg [A9Z f_s_l12Copy,B2e f_s_DiskOk] D0r 49 [.cell 4 26] (Tryz.f258.body.getD .skip) B9P B9Q).fn x=A7N f_s_l12Copy f_s_DiskOk x.1 x.2.1:=by intro x;kernel_rfl
theorem D0u:B4 Tryz.prog 258 D0s:=sm MO B1 (tc Tryz.call229 B4f (tc Tryz.call231 B7w A8)) Tryz.func258 (by kernel_rfl) (by decide) (D0t Y7 T7)
def B63:Nat→Option Jn:=B5 [(63,⟨[],lt 22 6 [],false⟩)]
abbrev A75:List PK:= [.val true (.pair (.rs 9 .str) (.rs 9 .str)) false]
abbrev A76:List RK:= [.val true (.pair A59 (.pair (.int .i64) (.pair (.int .i64) (.rs 109 kUp)))),.val false .bool]
def A77(f:A0C):Nat×Fn:=(257,⟨A75,A76,fun x=>f x.1⟩)
def B64:Fn:=(A77 E1).2
theorem B65(f_s_l12Copy:A0X)(f_s_DiskOk:A1g)(f_s_ScanRecs:A2F)(f_s_FoldRecs_r99_0:R2)(f_s_TopEpoch:A7L):∀ x,(C7 cfg [A9Z f_s_l12Copy,B2e f_s_DiskOk,B2g f_s_ScanRecs,A3k f_s_FoldRecs_r99_0,B9O f_s_TopEpoch] B63 36 [.cell 2 29,.tmp 3] (Tryz.f257.body.getD .skip) A75 A76).fn x=P5 f_s_l12Copy f_s_DiskOk f_s_ScanRecs f_s_FoldRecs_r99_0 f_s_TopEpoch x.1:=by intro x;kernel_rfl
theorem B66:B4 Tryz.prog 257 B64:=sm MO B1 (tc Tryz.call229 B4f (tc Tryz.call231 B7w (tc Tryz.call232 B9D (tc Tryz.call233 A8c (tc Tryz.call294 D0q A8))))) Tryz.func257 (by kernel_rfl) (by decide) (B65 Y7 T7 Y8 N4 A4K)
def C7q:Nat→Option Jn:=B5 [(3,⟨[],lt 8 26 [.x 23],false⟩)]
abbrev B6c:List PK:= [.ptr (.pair (.pair (.pair (.pair (.rs 9 .str) (.rs 9 .str)) (.pair (.int .i64) (.pair (.int .i64) (.rs 109 (.pair .str (.pair (.int .i64) (.pair (.rs 5 (.int .u8)) .bool))))))) (.sl 130 B2)) (.pair (.sl 79 (.pair .str (.pair (.rs 5 (.int .u8)) F8))) (.pair (.sl 4 .bool) (.pair (.sl 113 (.pair (.int .i64) (.pair Y1 (.rs 5 (.int .u8))))) (.pair (.sl 130 B2) (.sl 3 (.int .i64))))))),.val false (.int .i64) false]
abbrev B6d:List RK:= [.val false .bool]
def B6e(f:A5u):Nat×Fn:=(194,⟨B6c,B6d,fun x=>f x.1 x.2.1⟩)
def C7r:Fn:=(B6e Z9).2
theorem C7s(f_s_l1In:E6)(f_s_NextReq:A93):∀ x,(C7 C0u [Q9 f_s_l1In,C26 f_s_NextReq] C7q 67 [.tmp 4] (Tryz.f194.body.getD .skip) B6c B6d).fn x=A5v f_s_l1In f_s_NextReq x.1 x.2.1:=by intro x;kernel_rfl
theorem C7t:B4 Tryz.prog 194 C7r:=sm MO A3X (tc Tryz.call120 S8 (tc Tryz.call251 D3E A8)) Tryz.func194 (by kernel_rfl) (by decide) (C7s E4 A6N)
abbrev B6f:List PK:= [.val false .str false,.val false (.rs 5 (.int .u8)) false]
abbrev B6g:List RK:= [.val true B3]
def B6h(f:A2h):Nat×Fn:=(138,⟨B6f,B6g,fun x=>f x.1 x.2.1⟩)
def C7u:Fn:=(B6h A00).2
theorem C7v(f_s_ClientOk:O4):∀ x,(C7 cfg [A4o f_s_ClientOk] (B5 []) 16 [.cell 4 79] (Tryz.f138.body.getD .skip) B6f B6g).fn x=B00 f_s_ClientOk x.1 x.2.1:=by intro x;kernel_rfl
theorem C7w:B4 Tryz.prog 138 C7u:=sm MO B1 (tc Tryz.call215 A7c A8) Tryz.func138 (by kernel_rfl) (by decide) (C7v G1)
abbrev C6A:List PK:= [.val true F8 false]
abbrev C6B:List RK:= [.val false .bool]
def B83(f:A1l):Nat×Fn:=(158,⟨C6A,C6B,fun x=>f x.1⟩)
def D6A:Fn:=(B83 R3).2
theorem D6B(f_s_l1In:E6):∀ x,(C7 cfg [Q9 f_s_l1In] (B5 []) 11 [.tmp 2] (Tryz.f158.body.getD .skip) C6A C6B).fn x=B7X f_s_l1In x.1:=by intro x;kernel_rfl
theorem C6C:B4 Tryz.prog 158 D6A:=sm MO B1 (tc Tryz.call120 S8 A8) Tryz.func158 (by kernel_rfl) (by decide) (D6B E4)
def D0v:Nat→Option Jn:=B5 [(3,⟨[],lt 3 16 [],false⟩),(26,⟨[.t 3 false [.int .i64]],lt 4 15 [],false⟩)]
abbrev B9S:List PK:= [.val true (.pair (.pair (.pair (.rs 9 .str) (.rs 9 .str)) (.pair (.int .i64) (.pair (.int .i64) (.rs 109 kUp)))) (.rs 130 B2)) false]
abbrev B9T:List RK:= [.val false .bool]
def B9U(f:A7O):Nat×Fn:=(90,⟨B9S,B9T,fun x=>f x.1⟩)
def D0w:Fn:=(B9U A0k).2
theorem D0x(f_s_RespOk:A1l)(f_s_StoreOk:P7):∀ x,(C7 cfg [B83 f_s_RespOk,A48 f_s_StoreOk] D0v 28 [.tmp 2] (Tryz.f90.body.getD .skip) B9S B9T).fn x=A7P f_s_RespOk f_s_StoreOk x.1:=by intro x;kernel_rfl
theorem D0y:B4 Tryz.prog 90 D0w:=sm MO B1 (tc Tryz.call158 C6C (tc Tryz.call159 A6j A8)) Tryz.func90 (by kernel_rfl) (by decide) (D0x R3 F7)
abbrev C2O:List PK:= [.val false (.int .i64) false]
abbrev C2P:List RK:= [.val false (.int .i64)]
def C2Q(f:A9A):Nat×Fn:=(161,⟨C2O,C2P,fun x=>f x.1⟩)
def D3Y:Fn:=(C2Q A9B).2
theorem D3Z:∀ x,(C7 cfg [] (B5 []) 9 [.tmp 2] (Tryz.f161.body.getD .skip) C2O C2P).fn x=B4D x.1:=by intro x;kernel_rfl
theorem D3a:B4 Tryz.prog 161 D3Y:=sm MO B1 A8 Tryz.func161 (by kernel_rfl) (by decide) (D3Z)
def D9K:Nat→Option Jn:=B5 [(3,⟨[],lt 4 10 [],false⟩)]
abbrev C9Y:List PK:= [.val true Y1 false]
abbrev C9Z:List RK:= [.val false .bool]
def C9a(f:B0i):Nat×Fn:=(91,⟨C9Y,C9Z,fun x=>f x.1⟩)
def D9L:Fn:=(C9a A5U).2
theorem D9M(f_s_l1In:E6)(f_s_l11Id:P3)(f_s_l11Most:A9A):∀ x,(C7 cfg [Q9 f_s_l1In,A44 f_s_l11Id,C2Q f_s_l11Most] D9K 26 [.tmp 2] (Tryz.f91.body.getD .skip) C9Y C9Z).fn x=C0S f_s_l1In f_s_l11Id f_s_l11Most x.1:=by intro x;kernel_rfl
theorem D9N:B4 Tryz.prog 91 D9L:=sm MO B1 (tc Tryz.call120 S8 (tc Tryz.call160 A5n (tc Tryz.call161 D3a A8))) Tryz.func91 (by kernel_rfl) (by decide) (D9M E4 N9 A9B)
def C6D:Nat→Option Jn:=B5 [(7,⟨[],lt 9 30 [.t 4,.t 5],false⟩),(58,⟨[.t 4 false [.int .i64]],lt 9 30 [.t 5],false⟩),(7462,⟨[.t 5 false [.int .i64]],lt 21 18 [],false⟩)]
abbrev B4o:List PK:= [.val true (.pair (.pair (.pair (.pair (.rs 9 .str) (.rs 9 .str)) (.pair (.int .i64) (.pair (.int .i64) (.rs 109 kUp)))) (.rs 130 B2)) (.pair (.rs 79 B3) (.pair (.rs 4 .bool) (.pair (.rs 113 G0) (.pair (.rs 130 B2) (.rs 3 (.int .i64))))))) false]
abbrev B4p:List RK:= [.val false .bool]
def B4q(f:A4L):Nat×Fn:=(141,⟨B4o,B4p,fun x=>f x.1⟩)
def C6E:Fn:=(B4q W5).2
theorem C6F(f_s_ClientOk:O4):∀ x,(C7 cfg [A4o f_s_ClientOk] C6D 55 [.tmp 2] (Tryz.f141.body.getD .skip) B4o B4p).fn x=A4M f_s_ClientOk x.1:=by intro x;kernel_rfl
theorem C6G:B4 Tryz.prog 141 C6E:=sm MO B1 (tc Tryz.call215 A7c A8) Tryz.func141 (by kernel_rfl) (by decide) (C6F G1)
def D6C:Nat→Option Jn:=B5 [(26,⟨[.t 5 false [.int .i64]],lt 6 26 [],false⟩)]
abbrev C6H:List PK:= [.val true (.pair (.pair (.pair (.pair (.rs 9 .str) (.rs 9 .str)) (.pair (.int .i64) (.pair (.int .i64) (.rs 109 kUp)))) (.rs 130 B2)) (.pair (.rs 79 B3) (.pair (.rs 4 .bool) (.pair (.rs 113 G0) (.pair (.rs 130 B2) (.rs 3 (.int .i64))))))) false,.val false (.rs 130 B2) false]
abbrev C6I:List RK:= [.val false .bool]
def C6J(f:B1z):Nat×Fn:=(142,⟨C6H,C6I,fun x=>f x.1 x.2.1⟩)
def D6D:Fn:=(C6J A83).2
theorem D6E(f_s_l1In:E6)(f_s_RespOk:A1l):∀ x,(C7 cfg [Q9 f_s_l1In,B83 f_s_RespOk] D6C 32 [.tmp 4] (Tryz.f142.body.getD .skip) C6H C6I).fn x=B7Y f_s_l1In f_s_RespOk x.1 x.2.1:=by intro x;kernel_rfl
theorem D6F:B4 Tryz.prog 142 D6D:=sm MO B1 (tc Tryz.call120 S8 (tc Tryz.call158 C6C A8)) Tryz.func142 (by kernel_rfl) (by decide) (D6E E4 R3)
def D3b:Nat→Option Jn:=B5 [(3,⟨[],lt 4 36 [],false⟩),(58,⟨[.t 3 false [.int .i64]],lt 40 29 [],false⟩)]
abbrev C2R:List PK:= [.val true (.pair (.pair (.pair (.pair (.rs 9 .str) (.rs 9 .str)) (.pair (.int .i64) (.pair (.int .i64) (.rs 109 kUp)))) (.rs 130 B2)) (.pair (.rs 79 B3) (.pair (.rs 4 .bool) (.pair (.rs 113 G0) (.pair (.rs 130 B2) (.rs 3 (.int .i64))))))) false]
abbrev C2S:List RK:= [.val false .bool]
def C2T(f:A9C):Nat×Fn:=(70,⟨C2R,C2S,fun x=>f x.1⟩)
def D3c:Fn:=(C2T Z0).2
theorem D3d(f_s_ServerOk:A7O)(f_s_ReqOk:B0i)(f_s_l1In:E6)(f_s_l18Clients:A4L)(f_s_l18Who:B1z):∀ x,(C7 cfg [B9U f_s_ServerOk,C9a f_s_ReqOk,Q9 f_s_l1In,B4q f_s_l18Clients,C6J f_s_l18Who] D3b 69 [.tmp 2] (Tryz.f70.body.getD .skip) C2R C2S).fn x=A9D f_s_ServerOk f_s_ReqOk f_s_l1In f_s_l18Clients f_s_l18Who x.1:=by intro x;kernel_rfl
theorem D3e:B4 Tryz.prog 70 D3c:=sm MO B1 (tc Tryz.call90 D0y (tc Tryz.call91 D9N (tc Tryz.call120 S8 (tc Tryz.call141 C6G (tc Tryz.call142 D6F A8))))) Tryz.func70 (by kernel_rfl) (by decide) (D3d A0k A5U E4 W5 A83)
def D3f:Nat→Option Jn:=B5 [(58,⟨[.t 4 false [.int .i64],.b 3 [.own 100000000,.own 100000001],.r 100000000 9 .str,.r 100000001 9 .str],lt 6 19 [.r 17,.r 18,.r 22,.r 23],false⟩),(116,⟨[],lt 6 7 [],false⟩)]
abbrev C2U:List PK:= [.val false (.int .i64) false]
abbrev C2V:List RK:= [.val true A59]
def C2W(f:A9E):Nat×Fn:=(303,⟨C2U,C2V,fun x=>f x.1⟩)
def D3g:Fn:=(C2W A6Q).2
theorem D3h:∀ x,(C7 cfg [] D3f 26 [.cell 2 26] (Tryz.f303.body.getD .skip) C2U C2V).fn x=B4E x.1:=by intro x;kernel_rfl
theorem D3i:B4 Tryz.prog 303 D3g:=sm MO B1 A8 Tryz.func303 (by kernel_rfl) (by decide) (D3h)
abbrev A34:List PK:= [.val false (.int .i64) false]
abbrev A35:List RK:= [.val true (.pair A59 (.pair (.int .i64) (.pair (.int .i64) (.sl 109 (.pair .str (.pair (.int .i64) (.pair (.rs 5 (.int .u8)) .bool)))))))]
def A36(f:A7Q):Nat×Fn:=(272,⟨A34,A35,fun x=>f x.1⟩)
def B0E:Fn:=(A36 A7R).2
theorem B0F(f_s_DiskNew:A9E):∀ x,(C7 C0u [C2W f_s_DiskNew] (B5 []) 6 [.cell 2 29] (Tryz.f272.body.getD .skip) A34 A35).fn x=B20 f_s_DiskNew x.1:=by intro x;kernel_rfl
theorem B0G:B4 Tryz.prog 272 B0E:=sm MO A3X (tc Tryz.call303 D3i A8) Tryz.func272 (by kernel_rfl) (by decide) (B0F A6Q)
abbrev A2Y:List PK:= [.val false (.int .i64) false]
abbrev A2Z:List RK:= [.val true (.pair (.pair A59 (.pair (.int .i64) (.pair (.int .i64) (.sl 109 (.pair .str (.pair (.int .i64) (.pair (.rs 5 (.int .u8)) .bool))))))) (.sl 130 B2))]
def A2a(f:A5w):Nat×Fn:=(216,⟨A2Y,A2Z,fun x=>f x.1⟩)
def A8n:Fn:=(A2a A2j).2
theorem A8o(f_s_StoreNew:A7Q):∀ x,(C7 C0u [A36 f_s_StoreNew] (B5 []) 6 [.cell 2 32] (Tryz.f216.body.getD .skip) A2Y A2Z).fn x=B01 f_s_StoreNew x.1:=by intro x;kernel_rfl
theorem A8p:B4 Tryz.prog 216 A8n:=sm MO A3X (tc Tryz.call272 B0G A8) Tryz.func216 (by kernel_rfl) (by decide) (A8o A7R)
def B0H:Nat→Option Jn:=B5 [(7,⟨[.b 5 [.own 36864,.own 36865,.int .i64,.int .i64,.own 36868,.own 36869,.own 100000000,.own 100000001,.nil,.nil,.own 100000002],.r 36864 9 .str,.r 36865 9 .str,.r 36868 109 (.pair .str (.pair (.int .i64) (.pair (.rs 5 (.int .u8)) .bool))),.r 36869 130 B2,.r 100000000 79 (.pair .str (.pair (.rs 5 (.int .u8)) F8)),.r 100000001 4 .bool,.r 100000002 3 (.int .i64)],lt 10 26 [.r 23,.r 24,.r 28,.r 29,.r 33,.r 34,.r 94209,.t 6],true⟩),(58,⟨[.t 6 false [.int .i64],.b 5 [.own 36864,.own 36865,.int .i64,.int .i64,.own 36868,.own 36869,.own 100000000,.own 100000001,.nil,.nil,.own 100000002],.r 36864 9 .str,.r 36865 9 .str,.r 36868 109 (.pair .str (.pair (.int .i64) (.pair (.rs 5 (.int .u8)) .bool))),.r 36869 130 B2,.r 100000000 79 (.pair .str (.pair (.rs 5 (.int .u8)) F8)),.r 100000001 4 .bool,.r 100000002 3 (.int .i64)],lt 10 26 [.r 23,.r 24,.r 28,.r 29,.r 33,.r 34,.r 94209],false⟩)]
abbrev A37:List PK:= [.val false (.int .i64) false,.val false (.rs 79 B3) false]
abbrev A38:List RK:= [.val true (.pair (.pair (.pair A59 (.pair (.int .i64) (.pair (.int .i64) (.sl 109 (.pair .str (.pair (.int .i64) (.pair (.rs 5 (.int .u8)) .bool))))))) (.sl 130 B2)) (.pair (.sl 79 (.pair .str (.pair (.rs 5 (.int .u8)) F8))) (.pair (.sl 4 .bool) (.pair (.sl 113 (.pair (.int .i64) (.pair Y1 (.rs 5 (.int .u8))))) (.pair (.sl 130 B2) (.sl 3 (.int .i64)))))))]
def A39(f:A7S):Nat×Fn:=(140,⟨A37,A38,fun x=>f x.1 x.2.1⟩)
def B0I:Fn:=(A39 A4N).2
theorem B0J(f_s_WorldOk:A9C)(f_s_l17Copy:A1k)(f_s_ServerNew:A5w):∀ x,(C7 C0u [C2T f_s_WorldOk,B4n f_s_l17Copy,A2a f_s_ServerNew] B0H 41 [.cell 4 38] (Tryz.f140.body.getD .skip) A37 A38).fn x=B21 f_s_WorldOk f_s_l17Copy f_s_ServerNew x.1 x.2.1:=by intro x;kernel_rfl
theorem B0K:B4 Tryz.prog 140 B0I:=sm MO A3X (tc Tryz.call70 D3e (tc Tryz.call193 C2N (tc Tryz.call216 A8p A8))) Tryz.func140 (by kernel_rfl) (by decide) (B0J Z0 V5 A2j)
def B9V:Nat→Option Jn:=B5 [(31,⟨[.t 9 false [.int .i64],.b 8 [.int .i64,.int .i64],.b 10 [.own 100000000,.own 100000001,.int .i64,.int .i64,.ro 109 kUp],.r 100000000 9 .str,.r 100000001 9 .str],lt 19 51 [.r 114688,.r 114689,.r 167936,.r 167937,.r 237568,.r 237569,.r 274432,.r 274433,.t 13,.t 14],false⟩)]
abbrev A9h:List PK:= [.val true (.pair (.pair (.rs 9 .str) (.rs 9 .str)) (.pair (.int .i64) (.pair (.int .i64) (.rs 109 kUp)))) false,.val true Y1 false,.val false (.rs 5 (.int .u8)) false]
abbrev A9i:List RK:= [.val true (.pair (.pair (.rs 9 .str) (.rs 9 .str)) (.pair (.int .i64) (.pair (.int .i64) (.rs 109 kUp)))),.val true F8]
def A9j(f:A1L):Nat×Fn:=(92,⟨A9h,A9i,fun x=>f x.1 x.2.1 x.2.2.1⟩)
def B9W:Fn:=(A9j T1).2
theorem B9X(f_s_MakeUp_r99_0:A2G)(f_s_PutUp_r99_0:A3H)(f_s_DoneUp_r99_0:A2H)(f_s_DropUp_r99_0:A2I)(f_s_l15Looks:A7K)(f_s_l15Bad:B1v):∀ x,(C7 cfg [B13 f_s_MakeUp_r99_0,B32 f_s_PutUp_r99_0,B16 f_s_DoneUp_r99_0,B19 f_s_DropUp_r99_0,B9I f_s_l15Looks,C66 f_s_l15Bad] B9V 80 [.cell 6 29,.cell 7 126] (Tryz.f92.body.getD .skip) A9h A9i).fn x=A4O f_s_MakeUp_r99_0 f_s_PutUp_r99_0 f_s_DoneUp_r99_0 f_s_DropUp_r99_0 f_s_l15Looks f_s_l15Bad x.1 x.2.1 x.2.2.1:=by intro x;kernel_rfl
theorem B9Y:B4 Tryz.prog 92 B9W:=sm MO B1 (tc Tryz.call162 C15 (tc Tryz.call163 C39 (tc Tryz.call164 C19 (tc Tryz.call165 C1D (tc Tryz.call166 D0m (tc Tryz.call167 D67 A8)))))) Tryz.func92 (by kernel_rfl) (by decide) (B9X A0I A0w A0J A0K A4I A81)
def C6K:Nat→Option Jn:=B5 [(3,⟨[],lt 8 18 [],false⟩)]
abbrev B4r:List PK:= [.ptr (.pair (.pair (.pair (.pair (.rs 9 .str) (.rs 9 .str)) (.pair (.int .i64) (.pair (.int .i64) (.rs 109 (.pair .str (.pair (.int .i64) (.pair (.rs 5 (.int .u8)) .bool))))))) (.sl 130 B2)) (.pair (.sl 79 (.pair .str (.pair (.rs 5 (.int .u8)) F8))) (.pair (.sl 4 .bool) (.pair (.sl 113 (.pair (.int .i64) (.pair Y1 (.rs 5 (.int .u8))))) (.pair (.sl 130 B2) (.sl 3 (.int .i64))))))),.val false (.int .i64) false]
abbrev B4s:List RK:= [.val false .bool]
def B4t(f:A4P):Nat×Fn:=(195,⟨B4r,B4s,fun x=>f x.1 x.2.1⟩)
def C6L:Fn:=(B4t W6).2
theorem C6M(f_s_l15Does_r99_0:A1L)(f_s_l1In:E6):∀ x,(C7 C0u [A9j f_s_l15Does_r99_0,Q9 f_s_l1In] C6K 85 [.tmp 4] (Tryz.f195.body.getD .skip) B4r B4s).fn x=A4Q f_s_l15Does_r99_0 f_s_l1In x.1 x.2.1:=by intro x;kernel_rfl
theorem C6N:B4 Tryz.prog 195 C6L:=sm MO A3X (tc Tryz.call92 B9Y (tc Tryz.call120 S8 A8)) Tryz.func195 (by kernel_rfl) (by decide) (C6M T1 E4)
end
end Go.Proofs.YtpdcljonclhhpaaGreat.Ev
