/- Each function of the program does what its plain function says. -/
import Derived.Test.YtpdcljonclhhpaaGreatTy
import Derived.Test.YtpdcljonclhhpaaGreatPu
import Derived.Test.YtpdcljonclhhpaaGreatIns
import Derived.Test.YtpdcljonclhhpaaGreatChunk
set_option linter.unusedVariables false
set_option maxRecDepth 100000
namespace Go.Proofs.YtpdcljonclhhpaaGreat.Ev
noncomputable section
abbrev A2p:List PK:= [.val false (.sl 109 kUp) false,.val false (.int .i64) false,.val false (.sl 109 kUp) false]
abbrev A2q:List RK:= [.val false (.sl 109 kUp)]
def X0(f:I8):Nat×Fn:=(290,⟨A2p,A2q,fun x=>f x.1 x.2.1 x.2.2.1⟩)
def A2r:Fn:=(X0 I9).2
theorem A2s:B1 Tryz.prog 290 A2r:=C1g kUp (by decide)
abbrev A2t:List PK:= [.val false (.sl 109 kUp) false,.val false (.int .i64) false,.val false (.int .i64) false]
abbrev A2u:List RK:= [.val false (.sl 109 kUp)]
def X1(f:J0):Nat×Fn:=(291,⟨A2t,A2u,fun x=>f x.1 x.2.1 x.2.2.1⟩)
def A2v:Fn:=(X1 J1).2
theorem A2w:B1 Tryz.prog 291 A2v:=C1e kUp (by decide)
abbrev C6s:List PK:= [.val false (.rs 5 (.int .u8)) false]
abbrev C6t:List RK:= [.val false .bool]
def C6u(f:B78):Nat×Fn:=(15,⟨C6s,C6t,fun x=>f x.1⟩)
def D1C:Fn:=(C6u B79).2
theorem D1D:∀ x,(C7 cfg [] (B3 []) 6 [.tmp 2] (Tryz.f15.body.getD .skip) C6s C6t).fn x=C1L x.1:=by intro x;kernel_rfl
theorem D1E:B1 Tryz.prog 15 D1C:=sm MO B2 A7 Tryz.func15 (by kernel_rfl) (by decide) (D1D)
abbrev B8W:List PK:= [.val false (.rs 5 (.int .u8)) false,.val false (.int .i64) false]
abbrev B8X:List RK:= [.val false (.int .i64)]
def B8Y(f:A8M):Nat×Fn:=(69,⟨B8W,B8X,fun x=>f x.1 x.2.1⟩)
def C5N:Fn:=(B8Y A5V).2
theorem C5O:∀ x,(C7 cfg [] (B3 []) 15 [.tmp 4] (Tryz.f69.body.getD .skip) B8W B8X).fn x=B2S x.1 x.2.1:=by intro x;kernel_rfl
theorem C5P:B1 Tryz.prog 69 C5N:=sm MO B2 A7 Tryz.func69 (by kernel_rfl) (by decide) (C5O)
abbrev B5j:List PK:= [.val true (.pair (.rs 9 .str) (.rs 9 .str)) false]
abbrev B5k:List RK:= [.val true U2]
def A4B(f:V1):Nat×Fn:=(229,⟨B5j,B5k,fun x=>f x.1⟩)
def C3S:Fn:=(A4B S1).2
theorem C3T:∀ x,(C7 cfg [] (B3 []) 12 [.cell 2 26] (Tryz.f229.body.getD .skip) B5j B5k).fn x=B0P x.1:=by intro x;kernel_rfl
theorem A6b:B1 Tryz.prog 229 C3S:=sm MO B2 A7 Tryz.func229 (by kernel_rfl) (by decide) (C3T)
def B8Z:Nat→Option Jn:=B3 [(58,⟨[.t 3 false [.own 100000000],.t 4 false [.int .i64],.r 100000000 109 kUp],lt 7 19 [.b 5,.r 6,.r 17,.r 20,.r 24,.r 25,.t 5],false⟩)]
abbrev B0o:List PK:= [.val false (.rs 109 kUp) false]
abbrev B0p:List RK:= [.val false (.sl 109 kUp)]
def A5p(f:K6):Nat×Fn:=(230,⟨B0o,B0p,fun x=>f x.1⟩)
def B8a:Fn:=(A5p J4).2
theorem B8b:∀ x,(C7 cfg [] B8Z 27 [.tmp 2] (Tryz.f230.body.getD .skip) B0o B0p).fn x=A2I x.1:=by intro x;kernel_rfl
theorem B0q:B1 Tryz.prog 230 B8a:=sm MO B2 A7 Tryz.func230 (by kernel_rfl) (by decide) (B8b)
abbrev B5l:List PK:= [.val true (.pair (.pair (.rs 9 .str) (.rs 9 .str)) (.pair (.int .i64) (.pair (.int .i64) (.rs 109 kUp)))) false]
abbrev B5m:List RK:= [.val true A6o]
def B5n(f:I0):Nat×Fn:=(157,⟨B5l,B5m,fun x=>f x.1⟩)
def C3U:Fn:=(B5n G6).2
theorem C3V(f_s_l12Copy:V1)(f_s_l14CopyUps:K6):∀ x,(C7 cfg [A4B f_s_l12Copy,A5p f_s_l14CopyUps] (B3 []) 14 [.cell 2 29] (Tryz.f157.body.getD .skip) B5l B5m).fn x=A6H f_s_l12Copy f_s_l14CopyUps x.1:=by intro x;kernel_rfl
theorem C3W:B1 Tryz.prog 157 C3U:=sm MO B2 (tc Tryz.call229 A6b (tc Tryz.call230 B0q A7)) Tryz.func157 (by kernel_rfl) (by decide) (C3V S1 J4)
abbrev B5o:List PK:= [.val true (.pair (.pair (.pair (.rs 9 .str) (.rs 9 .str)) (.pair (.int .i64) (.pair (.int .i64) (.rs 109 kUp)))) (.rs 130 J7)) false]
abbrev B5p:List RK:= [.val true A3h]
def B5q(f:V2):Nat×Fn:=(89,⟨B5o,B5p,fun x=>f x.1⟩)
def C3X:Fn:=(B5q S2).2
theorem C3Y(f_s_l14Copy:I0):∀ x,(C7 cfg [B5n f_s_l14Copy] (B3 []) 11 [.cell 2 32] (Tryz.f89.body.getD .skip) B5o B5p).fn x=A6I f_s_l14Copy x.1:=by intro x;kernel_rfl
theorem C3Z:B1 Tryz.prog 89 C3X:=sm MO B2 (tc Tryz.call157 C3W A7) Tryz.func89 (by kernel_rfl) (by decide) (C3Y G6)
abbrev C3a:List PK:= [.val false (.int .i64) false,.val false (.int .i64) false,.val false (.int .i64) false]
abbrev C3b:List RK:= [.val false .bool]
def A1N(f:K7):Nat×Fn:=(120,⟨C3a,C3b,fun x=>f x.1 x.2.1 x.2.2.1⟩)
def D04:Fn:=(A1N K1).2
theorem D05:∀ x,(C7 cfg [] (B3 []) 15 [.tmp 6] (Tryz.f120.body.getD .skip) C3a C3b).fn x=B7u x.1 x.2.1 x.2.2.1:=by intro x;kernel_rfl
theorem A2c:B1 Tryz.prog 120 D04:=sm MO B2 A7 Tryz.func120 (by kernel_rfl) (by decide) (D05)
abbrev B8c:List PK:= [.val true U3 false]
abbrev B8d:List RK:= [.val false .bool]
def B8e(f:A5W):Nat×Fn:=(158,⟨B8c,B8d,fun x=>f x.1⟩)
def C5Q:Fn:=(B8e M2).2
theorem C5R(f_s_l1In:K7):∀ x,(C7 cfg [A1N f_s_l1In] (B3 []) 11 [.tmp 2] (Tryz.f158.body.getD .skip) B8c B8d).fn x=B2U f_s_l1In x.1:=by intro x;kernel_rfl
theorem C5S:B1 Tryz.prog 158 C5Q:=sm MO B2 (tc Tryz.call120 A2c A7) Tryz.func158 (by kernel_rfl) (by decide) (C5R K1)
def C5T:Nat→Option Jn:=B3 [(3,⟨[],lt 4 13 [],false⟩),(58,⟨[.t 3 false [.int .i64]],lt 17 23 [],false⟩)]
abbrev B8f:List PK:= [.val true (.pair (.rs 9 .str) (.rs 9 .str)) false]
abbrev B8g:List RK:= [.val false .bool]
def A8y(f:A0f):Nat×Fn:=(231,⟨B8f,B8g,fun x=>f x.1⟩)
def C5U:Fn:=(A8y Q4).2
theorem C5V:∀ x,(C7 cfg [] C5T 40 [.tmp 2] (Tryz.f231.body.getD .skip) B8f B8g).fn x=A8N x.1:=by intro x;kernel_rfl
theorem B2q:B1 Tryz.prog 231 C5U:=sm MO B2 A7 Tryz.func231 (by kernel_rfl) (by decide) (C5V)
def C5W:Nat→Option Jn:=B3 [(3,⟨[],lt 10 15 [],false⟩),(15,⟨[.t 8 false [.int .i64]],lt 25 15 [.t 9],true⟩),(122,⟨[.t 8 false [.int .i64],.t 9 false [.int .i64]],lt 25 15 [],false⟩)]
abbrev B8h:List PK:= [.val false (.rs 5 (.int .u8)) false,.val false (.int .i64) false,.val false (.int .i64) false]
abbrev B8i:List RK:= [.val false (.int .i64),.val false .bool]
def B8j(f:A8O):Nat×Fn:=(282,⟨B8h,B8i,fun x=>f x.1 x.2.1 x.2.2.1⟩)
def C5X:Fn:=(B8j A3F).2
theorem C5Y(f_s_l1In:K7):∀ x,(C7 cfg [A1N f_s_l1In] C5W 41 [.tmp 6,.tmp 7] (Tryz.f282.body.getD .skip) B8h B8i).fn x=B2V f_s_l1In x.1 x.2.1 x.2.2.1:=by intro x;kernel_rfl
theorem C5Z:B1 Tryz.prog 282 C5X:=sm MO B2 (tc Tryz.call120 A2c A7) Tryz.func282 (by kernel_rfl) (by decide) (C5Y K1)
def C84:Nat→Option Jn:=B3 [(3,⟨[],lt 3 21 [],false⟩),(26,⟨[.t 3 false [.int .i64]],lt 4 20 [],false⟩)]
abbrev C0g:List PK:= [.val false .str false]
abbrev C0h:List RK:= [.val false .bool]
def A3Z(f:P6):Nat×Fn:=(160,⟨C0g,C0h,fun x=>f x.1⟩)
def C85:Fn:=(A3Z O3).2
theorem C86(f_s_l1In:K7):∀ x,(C7 cfg [A1N f_s_l1In] C84 27 [.tmp 2] (Tryz.f160.body.getD .skip) C0g C0h).fn x=B4V f_s_l1In x.1:=by intro x;kernel_rfl
theorem A5J:B1 Tryz.prog 160 C85:=sm MO B2 (tc Tryz.call120 A2c A7) Tryz.func160 (by kernel_rfl) (by decide) (C86 K1)
def C87:Nat→Option Jn:=B3 [(3,⟨[],lt 3 16 [],false⟩),(943,⟨[.t 43 false [.bool]],[.t 44,.t 45],true⟩)]
abbrev C0i:List PK:= [.val true (.pair (.int .i64) (.pair (.int .i64) (.pair (.int .i64) (.pair .str (.pair (.int .i64) (.rs 5 (.int .u8))))))) false]
abbrev C0j:List RK:= [.val false .bool]
def C0k(f:B1L):Nat×Fn:=(283,⟨C0i,C0j,fun x=>f x.1⟩)
def C88:Fn:=(C0k A7E).2
theorem C89(f_s_l1In:K7)(f_s_l11Id:P6):∀ x,(C7 cfg [A1N f_s_l1In,A3Z f_s_l11Id] C87 55 [.tmp 2] (Tryz.f283.body.getD .skip) C0i C0j).fn x=B4W f_s_l1In f_s_l11Id x.1:=by intro x;kernel_rfl
theorem C8A:B1 Tryz.prog 283 C88:=sm MO B2 (tc Tryz.call120 A2c (tc Tryz.call160 A5J A7)) Tryz.func283 (by kernel_rfl) (by decide) (C89 K1 O3)
def D1F:Nat→Option Jn:=B3 [(7,⟨[.t 3 false [.int .i64]],lt 4 28 [],true⟩),(58,⟨[.t 3 false [.int .i64],.t 4 false [.int .i64]],lt 5 27 [],false⟩),(7462,⟨[.t 3 false [.int .i64],.t 5 false [.int .i64]],lt 20 12 [.t 6],false⟩)]
abbrev C6v:List PK:= [.val false (.rs 5 (.int .u8)) false]
abbrev C6w:List RK:= [.val false (.int .i64)]
def B3f(f:A3i):Nat×Fn:=(152,⟨C6v,C6w,fun x=>f x.1⟩)
def D1G:Fn:=(B3f A2K).2
theorem D1H:∀ x,(C7 cfg [] D1F 34 [.tmp 2] (Tryz.f152.body.getD .skip) C6v C6w).fn x=C1M x.1:=by intro x;kernel_rfl
theorem B7D:B1 Tryz.prog 152 D1G:=sm MO B2 A7 Tryz.func152 (by kernel_rfl) (by decide) (D1H)
def C5a:Nat→Option Jn:=B3 [(7,⟨[.t 1 false [.int .i64]],[.t 12,.t 13],true⟩),(250,⟨[.t 7 false [.own 100001000],.t 8 false [.int .i64],.r 100001000 5 (.int .u8)],lt 20 13 [.r 11,.r 31,.r 32],false⟩)]
abbrev B8k:List PK:= [.val false (.rs 5 (.int .u8)) false,.val false (.int .i64) false,.val false (.int .i64) false]
abbrev B8l:List RK:= [.val false (.sl 5 (.int .u8))]
def B8m(f:A8P):Nat×Fn:=(306,⟨B8k,B8l,fun x=>f x.1 x.2.1 x.2.2.1⟩)
def C5b:Fn:=(B8m A5X).2
theorem C5c(f_s_l1In:K7):∀ x,(C7 cfg [A1N f_s_l1In] C5a 34 [.tmp 6] (Tryz.f306.body.getD .skip) B8k B8l).fn x=B2W f_s_l1In x.1 x.2.1 x.2.2.1:=by intro x;kernel_rfl
theorem C5d:B1 Tryz.prog 306 C5b:=sm MO B2 (tc Tryz.call120 A2c A7) Tryz.func306 (by kernel_rfl) (by decide) (C5c K1)
abbrev B8n:List PK:= [.val true (.pair (.int .i64) (.pair (.int .i64) (.pair (.int .i64) (.pair .str (.pair (.int .i64) (.rs 5 (.int .u8))))))) false]
abbrev B8o:List RK:= [.val false .str]
def B2r(f:A3G):Nat×Fn:=(284,⟨B8n,B8o,fun x=>f x.1⟩)
def C5e:Fn:=(B2r A1i).2
theorem C5f(f_s_Crc:A3i)(f_s_PutBig:A8P):∀ x,(C7 cfg [B3f f_s_Crc,B8m f_s_PutBig] (B3 []) 38 [.tmp 2] (Tryz.f284.body.getD .skip) B8n B8o).fn x=B2X f_s_Crc f_s_PutBig x.1:=by intro x;kernel_rfl
theorem B8p:B1 Tryz.prog 284 C5e:=sm MO B2 (tc Tryz.call152 B7D (tc Tryz.call306 C5d A7)) Tryz.func284 (by kernel_rfl) (by decide) (C5f A2K A5X)
def C5g:Nat→Option Jn:=B3 [(255,⟨[],lt 42 21 [],false⟩),(4095,⟨[],lt 87 15 [],false⟩)]
abbrev B8q:List PK:= [.val false .str false]
abbrev B8r:List RK:= [.val true A4u,.val false .bool]
def A5q(f:Q5):Nat×Fn:=(235,⟨B8q,B8r,fun x=>f x.1⟩)
def C5h:Fn:=(A5q I2).2
theorem C5i(f_s_GetBig:A8O)(f_s_RecOk:B1L)(f_s_l13Put:A3G):∀ x,(C7 cfg [B8j f_s_GetBig,C0k f_s_RecOk,B2r f_s_l13Put] C5g 127 [.cell 2 194,.tmp 3] (Tryz.f235.body.getD .skip) B8q B8r).fn x=B2Y f_s_GetBig f_s_RecOk f_s_l13Put x.1:=by intro x;kernel_rfl
theorem A8z:B1 Tryz.prog 235 C5h:=sm MO B2 (tc Tryz.call282 C5Z (tc Tryz.call283 C8A (tc Tryz.call284 B8p A7))) Tryz.func235 (by kernel_rfl) (by decide) (C5i A3F A7E A1i)
def C1h:Nat→Option Jn:=B3 [(122,⟨[.t 3 false [.own 100000000],.t 4 false [.int .i64],.t 5 false [.int .i64],.r 100000000 194 A4u],lt 40 6 (lt 9 30 [.b 6,.r 8,.r 42,.r 43,.r 94213,.t 6,.t 7]),false⟩)]
abbrev B3g:List PK:= [.val true (.pair (.rs 9 .str) (.rs 9 .str)) false]
abbrev B3h:List RK:= [.val false (.sl 194 A4u)]
def B3i(f:Z6):Nat×Fn:=(232,⟨B3g,B3h,fun x=>f x.1⟩)
def C1i:Fn:=(B3i R5).2
theorem C1j(f_s_GetRec:Q5):∀ x,(C7 cfg [A5q f_s_GetRec] C1h 47 [.tmp 2] (Tryz.f232.body.getD .skip) B3g B3h).fn x=A8Q f_s_GetRec x.1:=by intro x;kernel_rfl
theorem C1k:B1 Tryz.prog 232 C1i:=sm MO B2 (tc Tryz.call235 A8z A7) Tryz.func232 (by kernel_rfl) (by decide) (C1j I2)
def C8B:Nat→Option Jn:=B3 [(26,⟨[.t 5 false [.int .i64]],lt 6 13 [],false⟩)]
abbrev C0l:List PK:= [.val false (.rs 109 kUp) false,.val false .str false]
abbrev C0m:List RK:= [.val false (.int .i64)]
def A3a(f:P7):Nat×Fn:=(206,⟨C0l,C0m,fun x=>f x.1 x.2.1⟩)
def C8C:Fn:=(A3a M8).2
theorem C8D:∀ x,(C7 cfg [] C8B 20 [.tmp 4] (Tryz.f206.body.getD .skip) C0l C0m).fn x=B4X x.1 x.2.1:=by intro x;kernel_rfl
theorem A5K:B1 Tryz.prog 206 C8C:=sm MO B2 A7 Tryz.func206 (by kernel_rfl) (by decide) (C8D)
def A5r:Nat→Option Jn:=B3 [(58,⟨[.t 3 false [.own 100000000],.t 4 false [.int .i64],.r 100000000 109 (.pair .str (.pair (.int .i64) (.pair (.rs 5 (.int .u8)) .bool)))],lt 7 19 [.b 5,.r 6,.r 17,.r 20,.r 24,.r 25,.t 5],false⟩)]
abbrev A0p:List PK:= [.val false (.rs 109 kUp) false]
abbrev A0q:List RK:= [.val false (.sl 109 (.pair .str (.pair (.int .i64) (.pair (.rs 5 (.int .u8)) .bool))))]
def T2(f:K6):Nat×Fn:=(230,⟨A0p,A0q,fun x=>f x.1⟩)
def A5s:Fn:=(T2 J4).2
theorem A5t:∀ x,(C7 A54 [] A5r 27 [.tmp 2] (Tryz.f230.body.getD .skip) A0p A0q).fn x=A2I x.1:=by intro x;kernel_rfl
theorem A0r:B1 Tryz.prog 230 A5s:=sm MO M6 A7 Tryz.func230 (by kernel_rfl) (by decide) (A5t)
def A7P:Nat→Option Jn:=B3 [(15,⟨[.t 5 false [.own 11],.t 6 false [.int .i64],.r 11 109 (.pair .str (.pair (.int .i64) (.pair (.rs 5 (.int .u8)) .bool)))],lt 15 23 [.x 21,.x 33,.x 35],true⟩),(60,⟨[.t 5 false [.own 11],.t 6 false [.int .i64],.r 11 109 (.pair .str (.pair (.int .i64) (.pair (.rs 5 (.int .u8)) .bool)))],lt 15 23 [.x 21,.x 33,.x 35],false⟩),(120,⟨[],lt 15 13 [.x 21],false⟩)]
abbrev A24:List PK:= [.val false (.rs 109 kUp) false,.val true (.pair .str (.pair (.int .i64) (.pair (.rs 5 (.int .u8)) .bool))) false]
abbrev A25:List RK:= [.val false (.sl 109 (.pair .str (.pair (.int .i64) (.pair (.rs 5 (.int .u8)) .bool))))]
def A26(f:P8):Nat×Fn:=(305,⟨A24,A25,fun x=>f x.1 x.2.1⟩)
def A7Q:Fn:=(A26 L8).2
theorem A7R(f_s_l14CopyUps:K6):∀ x,(C7 A54 [T2 f_s_l14CopyUps] A7P 43 [.tmp 4] (Tryz.f305.body.getD .skip) A24 A25).fn x=X7 f_s_l14CopyUps x.1 x.2.1:=by intro x;kernel_rfl
theorem A7S:B1 Tryz.prog 305 A7Q:=sm MO M6 (tc Tryz.call230 A0r A7) Tryz.func305 (by kernel_rfl) (by decide) (A7R J4)
def A90:Nat→Option Jn:=B3 [(4074,⟨[],lt 43 27 [],false⟩)]
abbrev A2d:List PK:= [.val false (.sl 109 (.pair .str (.pair (.int .i64) (.pair (.rs 5 (.int .u8)) .bool)))) false,.val true (.pair (.int .i64) (.pair (.int .i64) (.pair (.int .i64) (.pair .str (.pair (.int .i64) (.rs 5 (.int .u8))))))) false]
abbrev A2e:List RK:= [.val false (.sl 109 (.pair .str (.pair (.int .i64) (.pair (.rs 5 (.int .u8)) .bool)))),.val false .bool]
def A04(f:G7):Nat×Fn:=(281,⟨A2d,A2e,fun x=>f x.1 x.2.1⟩)
def A91:Fn:=(A04 E6).2
theorem A92(f_s_l14At:P7)(f_s_l14CopyUps:K6)(f_s_l14Make_r98_0_r99_0:P8):∀ x,(C7 cfg [A3a f_s_l14At,A5p f_s_l14CopyUps,A26 f_s_l14Make_r98_0_r99_0] A90 114 [.tmp 4,.tmp 5] (Tryz.f281.body.getD .skip) A2d A2e).fn x=Z7 f_s_l14At f_s_l14CopyUps f_s_l14Make_r98_0_r99_0 x.1 x.2.1:=by intro x;kernel_rfl
theorem A2f:B1 Tryz.prog 281 A91:=sm MO B2 (tc Tryz.call206 A5K (tc Tryz.call230 B0q (tc Tryz.call305 A7S A7))) Tryz.func281 (by kernel_rfl) (by decide) (A92 M8 J4 L8)
def B8s:Nat→Option Jn:=B3 [(58,⟨[.t 5 false [.int .i64]],lt 11 58 [],false⟩)]
abbrev B0r:List PK:= [.val false (.rs 109 kUp) false,.val false (.rs 109 kUp) false]
abbrev B0s:List RK:= [.val false .bool]
def B0t(f:A2L):Nat×Fn:=(234,⟨B0r,B0s,fun x=>f x.1 x.2.1⟩)
def B8t:Fn:=(B0t A0g).2
theorem B8u:∀ x,(C7 cfg [] B8s 69 [.tmp 4] (Tryz.f234.body.getD .skip) B0r B0s).fn x=A5Y x.1 x.2.1:=by intro x;kernel_rfl
theorem B8v:B1 Tryz.prog 234 B8t:=sm MO B2 A7 Tryz.func234 (by kernel_rfl) (by decide) (B8u)
def B2s:Nat→Option Jn:=B3 [(7,⟨[.t 4 false [.own 100000000],.r 100000000 109 (.pair .str (.pair (.int .i64) (.pair (.rs 5 (.int .u8)) .bool)))],lt 9 17 (lt 5 3 [.r 8,.r 90112,.t 27]),false⟩),(58,⟨[.t 4 false [.own 100000000],.t 5 false [.int .i64],.r 100000000 109 (.pair .str (.pair (.int .i64) (.pair (.rs 5 (.int .u8)) .bool)))],lt 9 17 [.r 8,.r 90112,.t 6,.t 7,.t 27],false⟩)]
abbrev A5u:List PK:= [.val false (.rs 194 A4u) false]
abbrev A5v:List RK:= [.val false (.sl 109 (.pair .str (.pair (.int .i64) (.pair (.rs 5 (.int .u8)) .bool)))),.val false .bool]
def A1r(f:O4):Nat×Fn:=(233,⟨A5u,A5v,fun x=>f x.1⟩)
def B2t:Fn:=(A1r L3).2
theorem B2u(f_s_l14One_r93_0_r94_0:G7):∀ x,(C7 A54 [A04 f_s_l14One_r93_0_r94_0] B2s 29 [.tmp 2,.tmp 3] (Tryz.f233.body.getD .skip) A5u A5v).fn x=A1j f_s_l14One_r93_0_r94_0 x.1:=by intro x;kernel_rfl
theorem A5w:B1 Tryz.prog 233 B2t:=sm MO M6 (tc Tryz.call281 A2f A7) Tryz.func233 (by kernel_rfl) (by decide) (B2u E6)
def C3c:Nat→Option Jn:=B3 [(3,⟨[],lt 9 10 [],false⟩),(31,⟨[],lt 27 33 [],false⟩),(506,⟨[.t 6 false [.int .i64]],lt 62 26 [.b 7,.r 319493,.t 7,.t 8],false⟩)]
abbrev B5r:List PK:= [.val true (.pair (.pair (.rs 9 .str) (.rs 9 .str)) (.pair (.int .i64) (.pair (.int .i64) (.rs 109 kUp)))) false]
abbrev B5s:List RK:= [.val false .bool]
def A0s(f:K3):Nat×Fn:=(159,⟨B5r,B5s,fun x=>f x.1⟩)
def C3d:Fn:=(A0s D0).2
theorem C3e(f_s_l1In:K7)(f_s_DiskOk:A0f)(f_s_ScanRecs:Z6)(f_s_FoldRecs_r98_0:O4)(f_s_l14SameUps:A2L)(f_s_GetRec:Q5):∀ x,(C7 cfg [A1N f_s_l1In,A8y f_s_DiskOk,B3i f_s_ScanRecs,A1r f_s_FoldRecs_r98_0,B0t f_s_l14SameUps,A5q f_s_GetRec] C3c 88 [.tmp 2] (Tryz.f159.body.getD .skip) B5r B5s).fn x=A6L f_s_l1In f_s_DiskOk f_s_ScanRecs f_s_FoldRecs_r98_0 f_s_l14SameUps f_s_GetRec x.1:=by intro x;kernel_rfl
theorem A27:B1 Tryz.prog 159 C3d:=sm MO B2 (tc Tryz.call120 A2c (tc Tryz.call231 B2q (tc Tryz.call232 C1k (tc Tryz.call233 A5w (tc Tryz.call234 B8v (tc Tryz.call235 A8z A7)))))) Tryz.func159 (by kernel_rfl) (by decide) (C3e K1 Q4 R5 L3 A0g I2)
def C1l:Nat→Option Jn:=B3 [(3,⟨[],lt 3 16 [],false⟩),(26,⟨[.t 3 false [.int .i64]],lt 4 15 [],false⟩)]
abbrev B3j:List PK:= [.val true (.pair (.pair (.pair (.rs 9 .str) (.rs 9 .str)) (.pair (.int .i64) (.pair (.int .i64) (.rs 109 kUp)))) (.rs 130 J7)) false]
abbrev B3k:List RK:= [.val false .bool]
def A55(f:V4):Nat×Fn:=(90,⟨B3j,B3k,fun x=>f x.1⟩)
def C1m:Fn:=(A55 E7).2
theorem C1n(f_s_RespOk:A5W)(f_s_StoreOk:K3):∀ x,(C7 cfg [B8e f_s_RespOk,A0s f_s_StoreOk] C1l 28 [.tmp 2] (Tryz.f90.body.getD .skip) B3j B3k).fn x=A10 f_s_RespOk f_s_StoreOk x.1:=by intro x;kernel_rfl
theorem A93:B1 Tryz.prog 90 C1m:=sm MO B2 (tc Tryz.call158 C5S (tc Tryz.call159 A27 A7)) Tryz.func90 (by kernel_rfl) (by decide) (C1n M2 D0)
abbrev B5t:List PK:= [.val false (.int .i64) false]
abbrev B5u:List RK:= [.val false (.int .i64)]
def B0u(f:A20):Nat×Fn:=(161,⟨B5t,B5u,fun x=>f x.1⟩)
def C3f:Fn:=(B0u S3).2
theorem C3g:∀ x,(C7 cfg [] (B3 []) 9 [.tmp 2] (Tryz.f161.body.getD .skip) B5t B5u).fn x=A40 x.1:=by intro x;kernel_rfl
theorem B5v:B1 Tryz.prog 161 C3f:=sm MO B2 A7 Tryz.func161 (by kernel_rfl) (by decide) (C3g)
def C8E:Nat→Option Jn:=B3 [(3,⟨[],lt 4 10 [],false⟩)]
abbrev C0n:List PK:= [.val true B1d false]
abbrev C0o:List RK:= [.val false .bool]
def C0p(f:B1N):Nat×Fn:=(91,⟨C0n,C0o,fun x=>f x.1⟩)
def C8F:Fn:=(C0p A7G).2
theorem C8G(f_s_l1In:K7)(f_s_l11Id:P6)(f_s_l11Most:A20):∀ x,(C7 cfg [A1N f_s_l1In,A3Z f_s_l11Id,B0u f_s_l11Most] C8E 26 [.tmp 2] (Tryz.f91.body.getD .skip) C0n C0o).fn x=B4Y f_s_l1In f_s_l11Id f_s_l11Most x.1:=by intro x;kernel_rfl
theorem C8H:B1 Tryz.prog 91 C8F:=sm MO B2 (tc Tryz.call120 A2c (tc Tryz.call160 A5J (tc Tryz.call161 B5v A7))) Tryz.func91 (by kernel_rfl) (by decide) (C8G K1 O3 S3)
abbrev B5w:List PK:= [.val true (.pair (.pair (.rs 9 .str) (.rs 9 .str)) (.pair (.int .i64) (.pair (.int .i64) (.rs 109 kUp)))) false]
abbrev B5x:List RK:= [.val false (.int .i64)]
def A4C(f:S4):Nat×Fn:=(236,⟨B5w,B5x,fun x=>f x.1⟩)
def C3h:Fn:=(A4C P2).2
theorem C3i:∀ x,(C7 cfg [] (B3 []) 10 [.tmp 2] (Tryz.f236.body.getD .skip) B5w B5x).fn x=B0Q x.1:=by intro x;kernel_rfl
theorem A6c:B1 Tryz.prog 236 C3h:=sm MO B2 A7 Tryz.func236 (by kernel_rfl) (by decide) (C3i)
abbrev A5x:List PK:= [.ptr (.pair U2 (.pair (.int .i64) (.pair (.int .i64) (.sl 109 (.pair .str (.pair (.int .i64) (.pair (.rs 5 (.int .u8)) .bool))))))),.val true (.pair (.int .i64) (.pair (.int .i64) (.pair (.int .i64) (.pair .str (.pair (.int .i64) (.rs 5 (.int .u8))))))) false]
abbrev A5y:List RK:= []
def T3(f:E0):Nat×Fn:=(237,⟨A5x,A5y,fun x=>f x.1 x.2.1⟩)
def B2v:Fn:=(T3 C8).2
theorem B2w(f_s_l14One_r93_0_r94_0:G7)(f_s_l13Put:A3G):∀ x,(C7 cfg [A04 f_s_l14One_r93_0_r94_0,B2r f_s_l13Put] (B3 []) 46 [] (Tryz.f237.body.getD .skip) A5x A5y).fn x=A1k f_s_l14One_r93_0_r94_0 f_s_l13Put x.1 x.2.1:=by intro x;kernel_rfl
theorem A05:B1 Tryz.prog 237 B2v:=sm MO B2 (tc Tryz.call281 A2f (tc Tryz.call284 B8p A7)) Tryz.func237 (by kernel_rfl) (by decide) (B2w E6 A1i)
abbrev C3j:List PK:= [.val true (.pair (.pair (.rs 9 .str) (.rs 9 .str)) (.pair (.int .i64) (.pair (.int .i64) (.rs 109 kUp)))) false,.val false .str false]
abbrev C3k:List RK:= [.val true kUp,.val false .bool]
def B0v(f:A1G):Nat×Fn:=(113,⟨C3j,C3k,fun x=>f x.1 x.2.1⟩)
def D06:Fn:=(B0v P3).2
theorem D07(f_s_l14At:P7):∀ x,(C7 cfg [A3a f_s_l14At] (B3 []) 26 [.cell 4 109,.tmp 5] (Tryz.f113.body.getD .skip) C3j C3k).fn x=B0R f_s_l14At x.1 x.2.1:=by intro x;kernel_rfl
theorem B3l:B1 Tryz.prog 113 D06:=sm MO B2 (tc Tryz.call206 A5K A7) Tryz.func113 (by kernel_rfl) (by decide) (D07 M8)
abbrev B3m:List PK:= [.val true (.pair (.pair (.rs 9 .str) (.rs 9 .str)) (.pair (.int .i64) (.pair (.int .i64) (.rs 109 kUp)))) false,.val true B1d false]
abbrev B3n:List RK:= [.val true U3]
def B3o(f:A4v):Nat×Fn:=(166,⟨B3m,B3n,fun x=>f x.1 x.2.1⟩)
def C1o:Fn:=(B3o A2M).2
theorem C1p(f_s_UpAt:A1G):∀ x,(C7 cfg [B0v f_s_UpAt] (B3 []) 35 [.cell 4 126] (Tryz.f166.body.getD .skip) B3m B3n).fn x=A8R f_s_UpAt x.1 x.2.1:=by intro x;kernel_rfl
theorem C1q:B1 Tryz.prog 166 C1o:=sm MO B2 (tc Tryz.call113 B3l A7) Tryz.func166 (by kernel_rfl) (by decide) (C1p P3)
def C5j:Nat→Option Jn:=B3 [(235,⟨[.t 19 false [.bool]],[.t 20,.t 21],true⟩)]
abbrev B8w:List PK:= [.val true (.pair (.pair (.rs 9 .str) (.rs 9 .str)) (.pair (.int .i64) (.pair (.int .i64) (.rs 109 kUp)))) false,.val false .str false,.val false (.int .i64) false]
abbrev B8x:List RK:= [.val true U3]
def B8y(f:A8S):Nat×Fn:=(167,⟨B8w,B8x,fun x=>f x.1 x.2.1 x.2.2.1⟩)
def C5k:Fn:=(B8y A5Z).2
theorem C5l(f_s_UpAt:A1G):∀ x,(C7 cfg [B0v f_s_UpAt] C5j 33 [.cell 6 126] (Tryz.f167.body.getD .skip) B8w B8x).fn x=B2Z f_s_UpAt x.1 x.2.1 x.2.2.1:=by intro x;kernel_rfl
theorem C5m:B1 Tryz.prog 167 C5k:=sm MO B2 (tc Tryz.call113 B3l A7) Tryz.func167 (by kernel_rfl) (by decide) (C5l P3)
abbrev A28:List PK:= [.val true (.pair (.pair (.rs 9 .str) (.rs 9 .str)) (.pair (.int .i64) (.pair (.int .i64) (.rs 109 kUp)))) false]
abbrev A29:List RK:= [.val true (.pair U2 (.pair (.int .i64) (.pair (.int .i64) (.sl 109 (.pair .str (.pair (.int .i64) (.pair (.rs 5 (.int .u8)) .bool)))))))]
def G5(f:I0):Nat×Fn:=(157,⟨A28,A29,fun x=>f x.1⟩)
def A7T:Fn:=(G5 G6).2
theorem A7U(f_s_l12Copy:V1)(f_s_l14CopyUps:K6):∀ x,(C7 A54 [A4B f_s_l12Copy,T2 f_s_l14CopyUps] (B3 []) 14 [.cell 2 29] (Tryz.f157.body.getD .skip) A28 A29).fn x=A6H f_s_l12Copy f_s_l14CopyUps x.1:=by intro x;kernel_rfl
theorem I7:B1 Tryz.prog 157 A7T:=sm MO M6 (tc Tryz.call229 A6b (tc Tryz.call230 A0r A7)) Tryz.func157 (by kernel_rfl) (by decide) (A7U S1 J4)
def B4s:Nat→Option Jn:=B3 [(7,⟨[],lt 33 10 (lt 26 6 (lt 11 14 [])),false⟩),(28,⟨[.t 11 false [.bool]],lt 12 13 [],true⟩)]
abbrev A7V:List PK:= [.val true (.pair (.pair (.rs 9 .str) (.rs 9 .str)) (.pair (.int .i64) (.pair (.int .i64) (.rs 109 kUp)))) false,.val false .str false,.val false (.int .i64) false]
abbrev A7W:List RK:= [.val true (.pair U2 (.pair (.int .i64) (.pair (.int .i64) (.sl 109 (.pair .str (.pair (.int .i64) (.pair (.rs 5 (.int .u8)) .bool))))))),.val false (.int .i64)]
def A3b(f:S5):Nat×Fn:=(162,⟨A7V,A7W,fun x=>f x.1 x.2.1 x.2.2.1⟩)
def B4t:Fn:=(A3b O5).2
theorem B4u(f_s_l1In:K7)(f_s_l14Copy:I0)(f_s_StoreOk:K3)(f_s_l11Id:P6)(f_s_l14At:P7)(f_s_l14Left:S4)(f_s_l14Write_r96_0:E0):∀ x,(C7 A54 [A1N f_s_l1In,G5 f_s_l14Copy,A0s f_s_StoreOk,A3Z f_s_l11Id,A3a f_s_l14At,A4C f_s_l14Left,T3 f_s_l14Write_r96_0] B4s 49 [.cell 6 29,.tmp 7] (Tryz.f162.body.getD .skip) A7V A7W).fn x=A3I f_s_l1In f_s_l14Copy f_s_StoreOk f_s_l11Id f_s_l14At f_s_l14Left f_s_l14Write_r96_0 x.1 x.2.1 x.2.2.1:=by intro x;kernel_rfl
theorem A7X:B1 Tryz.prog 162 B4t:=sm MO M6 (tc Tryz.call120 A2c (tc Tryz.call157 I7 (tc Tryz.call159 A27 (tc Tryz.call160 A5J (tc Tryz.call206 A5K (tc Tryz.call236 A6c (tc Tryz.call237 A05 A7))))))) Tryz.func162 (by kernel_rfl) (by decide) (B4u K1 G6 D0 O3 M8 P2 C8)
def B6K:Nat→Option Jn:=B3 [(7,⟨[],lt 17 14 [],false⟩),(127,⟨[],lt 64 9 (lt 44 19 []),false⟩),(255,⟨[.b 10 [.own 100003000,.own 100003001,.int .i64,.int .i64,.own 100003002],.r 100003000 9 .str,.r 100003001 9 .str,.r 100003002 109 (.pair .str (.pair (.int .i64) (.pair (.rs 5 (.int .u8)) .bool)))],lt 74 26 [.r 92,.r 97,.r 69632,.r 69633,.r 69636,.r 411648,.r 411649,.r 411652,.t 13,.t 14],true⟩),(508,⟨[.t 44 false [.bool]],lt 45 18 [],true⟩),(2042,⟨[.t 13 false [.int .i64],.b 10 [.own 100003000,.own 100003001,.int .i64,.int .i64,.own 100003002],.r 100003000 9 .str,.r 100003001 9 .str,.r 100003002 109 (.pair .str (.pair (.int .i64) (.pair (.rs 5 (.int .u8)) .bool)))],lt 74 26 [.r 92,.r 97,.r 69632,.r 69633,.r 69636,.r 411648,.r 411649,.r 411652,.t 14],false⟩),(65353,⟨[.t 14 false [.int .i64]],lt 82 6 [],true⟩)]
abbrev A9G:List PK:= [.val true (.pair (.pair (.rs 9 .str) (.rs 9 .str)) (.pair (.int .i64) (.pair (.int .i64) (.rs 109 kUp)))) false,.val false .str false,.val false (.int .i64) false,.val false (.rs 5 (.int .u8)) false]
abbrev A9H:List RK:= [.val true (.pair U2 (.pair (.int .i64) (.pair (.int .i64) (.sl 109 (.pair .str (.pair (.int .i64) (.pair (.rs 5 (.int .u8)) .bool))))))),.val false (.int .i64)]
def A4M(f:U7):Nat×Fn:=(163,⟨A9G,A9H,fun x=>f x.1 x.2.1 x.2.2.1 x.2.2.2.1⟩)
def B6L:Fn:=(A4M Q6).2
theorem B6M(f_s_l1In:K7)(f_s_l14Copy:I0)(f_s_StoreOk:K3)(f_s_l11Id:P6)(f_s_l14At:P7)(f_s_l14Left:S4)(f_s_l14Write_r96_0:E0):∀ x,(C7 A54 [A1N f_s_l1In,G5 f_s_l14Copy,A0s f_s_StoreOk,A3Z f_s_l11Id,A3a f_s_l14At,A4C f_s_l14Left,T3 f_s_l14Write_r96_0] B6K 101 [.cell 8 29,.tmp 9] (Tryz.f163.body.getD .skip) A9G A9H).fn x=A4F f_s_l1In f_s_l14Copy f_s_StoreOk f_s_l11Id f_s_l14At f_s_l14Left f_s_l14Write_r96_0 x.1 x.2.1 x.2.2.1 x.2.2.2.1:=by intro x;kernel_rfl
theorem A9I:B1 Tryz.prog 163 B6L:=sm MO M6 (tc Tryz.call120 A2c (tc Tryz.call157 I7 (tc Tryz.call159 A27 (tc Tryz.call160 A5J (tc Tryz.call206 A5K (tc Tryz.call236 A6c (tc Tryz.call237 A05 A7))))))) Tryz.func163 (by kernel_rfl) (by decide) (B6M K1 G6 D0 O3 M8 P2 C8)
def B4v:Nat→Option Jn:=B3 [(7,⟨[],lt 13 8 [],false⟩)]
abbrev A7Y:List PK:= [.val true (.pair (.pair (.rs 9 .str) (.rs 9 .str)) (.pair (.int .i64) (.pair (.int .i64) (.rs 109 kUp)))) false,.val false .str false,.val false (.int .i64) false]
abbrev A7Z:List RK:= [.val true (.pair U2 (.pair (.int .i64) (.pair (.int .i64) (.sl 109 (.pair .str (.pair (.int .i64) (.pair (.rs 5 (.int .u8)) .bool))))))),.val false (.int .i64)]
def A3c(f:S6):Nat×Fn:=(164,⟨A7Y,A7Z,fun x=>f x.1 x.2.1 x.2.2.1⟩)
def B4w:Fn:=(A3c O6).2
theorem B4x(f_s_Crc:A3i)(f_s_l14Copy:I0)(f_s_StoreOk:K3)(f_s_l11Id:P6)(f_s_l14At:P7)(f_s_l14Left:S4)(f_s_l14Write_r96_0:E0):∀ x,(C7 A54 [B3f f_s_Crc,G5 f_s_l14Copy,A0s f_s_StoreOk,A3Z f_s_l11Id,A3a f_s_l14At,A4C f_s_l14Left,T3 f_s_l14Write_r96_0] B4v 62 [.cell 6 29,.tmp 7] (Tryz.f164.body.getD .skip) A7Y A7Z).fn x=A3J f_s_Crc f_s_l14Copy f_s_StoreOk f_s_l11Id f_s_l14At f_s_l14Left f_s_l14Write_r96_0 x.1 x.2.1 x.2.2.1:=by intro x;kernel_rfl
theorem A7a:B1 Tryz.prog 164 B4w:=sm MO M6 (tc Tryz.call152 B7D (tc Tryz.call157 I7 (tc Tryz.call159 A27 (tc Tryz.call160 A5J (tc Tryz.call206 A5K (tc Tryz.call236 A6c (tc Tryz.call237 A05 A7))))))) Tryz.func164 (by kernel_rfl) (by decide) (B4x A2K G6 D0 O3 M8 P2 C8)
def B4y:Nat→Option Jn:=B3 [(7,⟨[],lt 26 4 (lt 19 6 (lt 9 9 [])),false⟩),(28,⟨[.t 9 false [.bool]],lt 10 8 [],true⟩)]
abbrev A7b:List PK:= [.val true (.pair (.pair (.rs 9 .str) (.rs 9 .str)) (.pair (.int .i64) (.pair (.int .i64) (.rs 109 kUp)))) false,.val false .str false]
abbrev A7c:List RK:= [.val true (.pair U2 (.pair (.int .i64) (.pair (.int .i64) (.sl 109 (.pair .str (.pair (.int .i64) (.pair (.rs 5 (.int .u8)) .bool))))))),.val false (.int .i64)]
def A3d(f:S7):Nat×Fn:=(165,⟨A7b,A7c,fun x=>f x.1 x.2.1⟩)
def B4z:Fn:=(A3d O7).2
theorem B50(f_s_l14Copy:I0)(f_s_StoreOk:K3)(f_s_l11Id:P6)(f_s_l14At:P7)(f_s_l14Left:S4)(f_s_l14Write_r96_0:E0):∀ x,(C7 A54 [G5 f_s_l14Copy,A0s f_s_StoreOk,A3Z f_s_l11Id,A3a f_s_l14At,A4C f_s_l14Left,T3 f_s_l14Write_r96_0] B4y 35 [.cell 4 29,.tmp 5] (Tryz.f165.body.getD .skip) A7b A7c).fn x=A3K f_s_l14Copy f_s_StoreOk f_s_l11Id f_s_l14At f_s_l14Left f_s_l14Write_r96_0 x.1 x.2.1:=by intro x;kernel_rfl
theorem A7d:B1 Tryz.prog 165 B4z:=sm MO M6 (tc Tryz.call157 I7 (tc Tryz.call159 A27 (tc Tryz.call160 A5J (tc Tryz.call206 A5K (tc Tryz.call236 A6c (tc Tryz.call237 A05 A7)))))) Tryz.func165 (by kernel_rfl) (by decide) (B50 G6 D0 O3 M8 P2 C8)
def A7e:Nat→Option Jn:=B3 [(31,⟨[.t 9 false [.int .i64],.b 3 [.ro 9 .str,.ro 9 .str,.int .i64,.int .i64,.ro 109 (.pair .str (.pair (.int .i64) (.pair (.rs 5 (.int .u8)) .bool)))],.b 8 [.int .i64,.int .i64],.b 10 [.own 100000000,.own 100000001,.int .i64,.int .i64,.own 100000002],.r 100000000 9 .str,.r 100000001 9 .str,.r 100000002 109 (.pair .str (.pair (.int .i64) (.pair (.rs 5 (.int .u8)) .bool)))],lt 19 51 (lt 12 3 [.r 1000,.r 1001,.r 1004,.r 114688,.r 114689,.r 114692,.r 167936,.r 167937,.r 167940,.r 237568,.r 237569,.r 237572,.r 274432,.r 274433,.r 274436,.t 0]),false⟩)]
abbrev A2A:List PK:= [.val true (.pair U2 (.pair (.int .i64) (.pair (.int .i64) (.sl 109 (.pair .str (.pair (.int .i64) (.pair (.rs 5 (.int .u8)) .bool))))))) false,.val true B1d false,.val false (.rs 5 (.int .u8)) false]
abbrev A2B:List RK:= [.val true (.pair U2 (.pair (.int .i64) (.pair (.int .i64) (.sl 109 (.pair .str (.pair (.int .i64) (.pair (.rs 5 (.int .u8)) .bool))))))),.val true U3]
def A2C(f:P9):Nat×Fn:=(92,⟨A2A,A2B,fun x=>f x.1 x.2.1 x.2.2.1⟩)
def A7f:Fn:=(A2C L9).2
theorem A7g(f_s_MakeUp_r98_0:S5)(f_s_PutUp_r98_0:U7)(f_s_DoneUp_r98_0:S6)(f_s_DropUp_r98_0:S7)(f_s_l15Looks:A4v)(f_s_l15Bad:A8S):∀ x,(C7 A54 [A3b f_s_MakeUp_r98_0,A4M f_s_PutUp_r98_0,A3c f_s_DoneUp_r98_0,A3d f_s_DropUp_r98_0,B3o f_s_l15Looks,B8y f_s_l15Bad] A7e 80 [.cell 6 29,.cell 7 126] (Tryz.f92.body.getD .skip) A2A A2B).fn x=X8 f_s_MakeUp_r98_0 f_s_PutUp_r98_0 f_s_DoneUp_r98_0 f_s_DropUp_r98_0 f_s_l15Looks f_s_l15Bad x.1 x.2.1 x.2.2.1:=by intro x;kernel_rfl
theorem A7h:B1 Tryz.prog 92 A7f:=sm MO M6 (tc Tryz.call162 A7X (tc Tryz.call163 A9I (tc Tryz.call164 A7a (tc Tryz.call165 A7d (tc Tryz.call166 C1q (tc Tryz.call167 C5m A7)))))) Tryz.func92 (by kernel_rfl) (by decide) (A7g O5 Q6 O6 O7 A2M A5Z)
def C3l:Nat→Option Jn:=B3 [(58,⟨[.t 4 false [.int .i64],.b 3 [.own 100000000,.own 100000001],.r 100000000 9 .str,.r 100000001 9 .str],lt 6 19 [.r 17,.r 18,.r 22,.r 23],false⟩),(116,⟨[],lt 6 7 [],false⟩)]
abbrev B5y:List PK:= [.val false (.int .i64) false]
abbrev B5z:List RK:= [.val true U2]
def B60(f:A6M):Nat×Fn:=(303,⟨B5y,B5z,fun x=>f x.1⟩)
def C3m:Fn:=(B60 A41).2
theorem C3n:∀ x,(C7 cfg [] C3l 26 [.cell 2 26] (Tryz.f303.body.getD .skip) B5y B5z).fn x=B0S x.1:=by intro x;kernel_rfl
theorem C3o:B1 Tryz.prog 303 C3m:=sm MO B2 A7 Tryz.func303 (by kernel_rfl) (by decide) (C3n)
abbrev A5z:List PK:= [.val false (.int .i64) false]
abbrev A60:List RK:= [.val true (.pair U2 (.pair (.int .i64) (.pair (.int .i64) (.sl 109 (.pair .str (.pair (.int .i64) (.pair (.rs 5 (.int .u8)) .bool)))))))]
def A1s(f:A11):Nat×Fn:=(272,⟨A5z,A60,fun x=>f x.1⟩)
def B2x:Fn:=(A1s Z9).2
theorem B2y(f_s_DiskNew:A6M):∀ x,(C7 A54 [B60 f_s_DiskNew] (B3 []) 6 [.cell 2 29] (Tryz.f272.body.getD .skip) A5z A60).fn x=A4w f_s_DiskNew x.1:=by intro x;kernel_rfl
theorem A61:B1 Tryz.prog 272 B2x:=sm MO M6 (tc Tryz.call303 C3o A7) Tryz.func272 (by kernel_rfl) (by decide) (B2y A41)
abbrev B26:List PK:= [.val true (.pair (.rs 9 .str) (.rs 9 .str)) false]
abbrev B27:List RK:= [.val true U2]
def B28(f:A3j):Nat×Fn:=(252,⟨B26,B27,fun x=>f x.1⟩)
def B9k:Fn:=(B28 A1I).2
theorem B9l:∀ x,(C7 cfg [] (B3 []) 12 [.cell 2 26] (Tryz.f252.body.getD .skip) B26 B27).fn x=A6p x.1:=by intro x;kernel_rfl
theorem B9m:B1 Tryz.prog 252 B9k:=sm MO B2 A7 Tryz.func252 (by kernel_rfl) (by decide) (B9l)
abbrev A4c:List PK:= [.val true (.pair (.pair (.rs 9 .str) (.rs 9 .str)) (.pair (.int .i64) (.pair (.int .i64) (.rs 109 kUp)))) false]
abbrev A4d:List RK:= [.val true (.pair U2 (.pair (.int .i64) (.pair (.int .i64) (.sl 109 (.pair .str (.pair (.int .i64) (.pair (.rs 5 (.int .u8)) .bool)))))))]
def A1C(f:A0N):Nat×Fn:=(273,⟨A4c,A4d,fun x=>f x.1⟩)
def B1e:Fn:=(A1C W5).2
theorem B1f(f_s_l14Copy:I0)(f_s_StoreOk:K3)(f_s_FlushDisk:A3j):∀ x,(C7 A54 [G5 f_s_l14Copy,A0s f_s_StoreOk,B28 f_s_FlushDisk] (B3 []) 13 [.cell 2 29] (Tryz.f273.body.getD .skip) A4c A4d).fn x=A3k f_s_l14Copy f_s_StoreOk f_s_FlushDisk x.1:=by intro x;kernel_rfl
theorem A4e:B1 Tryz.prog 273 B1e:=sm MO M6 (tc Tryz.call157 I7 (tc Tryz.call159 A27 (tc Tryz.call252 B9m A7))) Tryz.func273 (by kernel_rfl) (by decide) (B1f G6 D0 A1I)
def C1r:Nat→Option Jn:=B3 [(58,⟨[.t 3 false [.int .i64],.t 4 false [.int .i64]],lt 5 27 [.b 5,.r 86021],false⟩)]
abbrev B3p:List PK:= [.val true (.pair (.rs 9 .str) (.rs 9 .str)) false]
abbrev B3q:List RK:= [.val false (.int .i64)]
def B3r(f:A4x):Nat×Fn:=(294,⟨B3p,B3q,fun x=>f x.1⟩)
def C1s:Fn:=(B3r A2O).2
theorem C1t(f_s_GetRec:Q5):∀ x,(C7 cfg [A5q f_s_GetRec] C1r 33 [.tmp 2] (Tryz.f294.body.getD .skip) B3p B3q).fn x=A8U f_s_GetRec x.1:=by intro x;kernel_rfl
theorem C1u:B1 Tryz.prog 294 C1s:=sm MO B2 (tc Tryz.call235 A8z A7) Tryz.func294 (by kernel_rfl) (by decide) (C1t I2)
def C1v:Nat→Option Jn:=B3 [(122,⟨[.t 6 false [.int .i64],.b 5 [.own 36864,.own 36865],.r 36864 9 .str,.r 36865 9 .str],lt 13 35 [.x 36,.x 38,.x 45,.x 47],false⟩),(1956,⟨[.t 29 false [.bool]],lt 20 9 [],true⟩)]
abbrev B3s:List PK:= [.val true (.pair (.rs 9 .str) (.rs 9 .str)) false,.val false (.rs 4 .bool) false]
abbrev B3t:List RK:= [.val true U2]
def A94(f:A12):Nat×Fn:=(258,⟨B3s,B3t,fun x=>f x.1 x.2.1⟩)
def C1w:Fn:=(A94 V5).2
theorem C1x(f_s_l12Copy:V1)(f_s_DiskOk:A0f):∀ x,(C7 cfg [A4B f_s_l12Copy,A8y f_s_DiskOk] C1v 49 [.cell 4 26] (Tryz.f258.body.getD .skip) B3s B3t).fn x=A8V f_s_l12Copy f_s_DiskOk x.1 x.2.1:=by intro x;kernel_rfl
theorem B3u:B1 Tryz.prog 258 C1w:=sm MO B2 (tc Tryz.call229 A6b (tc Tryz.call231 B2q A7)) Tryz.func258 (by kernel_rfl) (by decide) (C1x S1 Q4)
def A6v:Nat→Option Jn:=B3 [(122,⟨[.t 3 false [.own 100000000],.t 4 false [.int .i64],.t 5 false [.int .i64],.r 100000000 194 (.pair (.int .i64) (.pair (.int .i64) (.pair (.int .i64) (.pair .str (.pair (.int .i64) (.rs 5 (.int .u8)))))))],lt 40 6 (lt 9 30 [.b 6,.r 8,.r 42,.r 43,.r 94213,.t 6,.t 7]),false⟩)]
abbrev A1O:List PK:= [.val true (.pair (.rs 9 .str) (.rs 9 .str)) false]
abbrev A1P:List RK:= [.val false (.sl 194 (.pair (.int .i64) (.pair (.int .i64) (.pair (.int .i64) (.pair .str (.pair (.int .i64) (.rs 5 (.int .u8))))))))]
def A1Q(f:Z6):Nat×Fn:=(232,⟨A1O,A1P,fun x=>f x.1⟩)
def A6w:Fn:=(A1Q R5).2
theorem A6x(f_s_GetRec:Q5):∀ x,(C7 A54 [A5q f_s_GetRec] A6v 47 [.tmp 2] (Tryz.f232.body.getD .skip) A1O A1P).fn x=A8Q f_s_GetRec x.1:=by intro x;kernel_rfl
theorem A6y:B1 Tryz.prog 232 A6w:=sm MO M6 (tc Tryz.call235 A8z A7) Tryz.func232 (by kernel_rfl) (by decide) (A6x I2)
def B1g:Nat→Option Jn:=B3 [(63,⟨[],lt 22 6 [],false⟩)]
abbrev A4f:List PK:= [.val true (.pair (.rs 9 .str) (.rs 9 .str)) false]
abbrev A4g:List RK:= [.val true (.pair U2 (.pair (.int .i64) (.pair (.int .i64) (.sl 109 (.pair .str (.pair (.int .i64) (.pair (.rs 5 (.int .u8)) .bool))))))),.val false .bool]
def A1D(f:M9):Nat×Fn:=(257,⟨A4f,A4g,fun x=>f x.1⟩)
def B1h:Fn:=(A1D F9).2
theorem B1i(f_s_l12Copy:V1)(f_s_DiskOk:A0f)(f_s_ScanRecs:Z6)(f_s_FoldRecs_r98_0:O4)(f_s_TopEpoch:A4x):∀ x,(C7 A54 [A4B f_s_l12Copy,A8y f_s_DiskOk,A1Q f_s_ScanRecs,A1r f_s_FoldRecs_r98_0,B3r f_s_TopEpoch] B1g 36 [.cell 2 29,.tmp 3] (Tryz.f257.body.getD .skip) A4f A4g).fn x=A19 f_s_l12Copy f_s_DiskOk f_s_ScanRecs f_s_FoldRecs_r98_0 f_s_TopEpoch x.1:=by intro x;kernel_rfl
theorem A4h:B1 Tryz.prog 257 B1h:=sm MO M6 (tc Tryz.call229 A6b (tc Tryz.call231 B2q (tc Tryz.call232 A6y (tc Tryz.call233 A5w (tc Tryz.call294 C1u A7))))) Tryz.func257 (by kernel_rfl) (by decide) (B1i S1 Q4 R5 L3 A2O)
abbrev A4i:List PK:= [.val false (.int .i64) false]
abbrev A4j:List RK:= [.val true (.pair (.pair U2 (.pair (.int .i64) (.pair (.int .i64) (.sl 109 (.pair .str (.pair (.int .i64) (.pair (.rs 5 (.int .u8)) .bool))))))) (.sl 130 J7))]
def A4k(f:X3):Nat×Fn:=(216,⟨A4i,A4j,fun x=>f x.1⟩)
def B1j:Fn:=(A4k R2).2
theorem B1k(f_s_StoreNew:A11):∀ x,(C7 A54 [A1s f_s_StoreNew] (B3 []) 6 [.cell 2 32] (Tryz.f216.body.getD .skip) A4i A4j).fn x=A1A f_s_StoreNew x.1:=by intro x;kernel_rfl
theorem B1l:B1 Tryz.prog 216 B1j:=sm MO M6 (tc Tryz.call272 A61 A7) Tryz.func216 (by kernel_rfl) (by decide) (B1k Z9)
abbrev A2D:List PK:= [.val true (.pair (.pair (.pair (.rs 9 .str) (.rs 9 .str)) (.pair (.int .i64) (.pair (.int .i64) (.rs 109 kUp)))) (.rs 130 J7)) false]
abbrev A2E:List RK:= [.val true (.pair (.pair U2 (.pair (.int .i64) (.pair (.int .i64) (.sl 109 (.pair .str (.pair (.int .i64) (.pair (.rs 5 (.int .u8)) .bool))))))) (.sl 130 J7))]
def Y5(f:V2):Nat×Fn:=(89,⟨A2D,A2E,fun x=>f x.1⟩)
def A7i:Fn:=(Y5 S2).2
theorem A7j(f_s_l14Copy:I0):∀ x,(C7 A54 [G5 f_s_l14Copy] (B3 []) 11 [.cell 2 32] (Tryz.f89.body.getD .skip) A2D A2E).fn x=A6I f_s_l14Copy x.1:=by intro x;kernel_rfl
theorem A2F:B1 Tryz.prog 89 A7i:=sm MO M6 (tc Tryz.call157 I7 A7) Tryz.func89 (by kernel_rfl) (by decide) (A7j G6)
abbrev A6d:List PK:= [.val true (.pair (.pair (.pair (.rs 9 .str) (.rs 9 .str)) (.pair (.int .i64) (.pair (.int .i64) (.rs 109 kUp)))) (.rs 130 J7)) false]
abbrev A6e:List RK:= [.val true (.pair (.pair U2 (.pair (.int .i64) (.pair (.int .i64) (.sl 109 (.pair .str (.pair (.int .i64) (.pair (.rs 5 (.int .u8)) .bool))))))) (.sl 130 J7)),.val false (.sl 130 J7)]
def A6f(f:V6):Nat×Fn:=(217,⟨A6d,A6e,fun x=>f x.1⟩)
def B3v:Fn:=(A6f Q0).2
theorem B3w(f_s_l15Copy:V2)(f_s_ServerOk:V4)(f_s_SyncStore:A0N):∀ x,(C7 A54 [Y5 f_s_l15Copy,A55 f_s_ServerOk,A1C f_s_SyncStore] (B3 []) 23 [.cell 2 32,.tmp 3] (Tryz.f217.body.getD .skip) A6d A6e).fn x=A2Q f_s_l15Copy f_s_ServerOk f_s_SyncStore x.1:=by intro x;kernel_rfl
theorem B3x:B1 Tryz.prog 217 B3v:=sm MO M6 (tc Tryz.call89 A2F (tc Tryz.call90 A93 (tc Tryz.call273 A4e A7))) Tryz.func217 (by kernel_rfl) (by decide) (B3w S2 E7 W5)
abbrev A0X:List PK:= [.val true (.pair (.pair U2 (.pair (.int .i64) (.pair (.int .i64) (.sl 109 (.pair .str (.pair (.int .i64) (.pair (.rs 5 (.int .u8)) .bool))))))) (.sl 130 J7)) true,.val false (.rs 4 .bool) false]
abbrev A0Y:List RK:= [.val true (.pair (.pair U2 (.pair (.int .i64) (.pair (.int .i64) (.sl 109 (.pair .str (.pair (.int .i64) (.pair (.rs 5 (.int .u8)) .bool))))))) (.sl 130 J7)),.val false .bool]
def A0Z(f:I4):Nat×Fn:=(218,⟨A0X,A0Y,fun x=>f x.1 x.2.1⟩)
def A56:Fn:=(A0Z F2).2
theorem A57(f_s_l15Copy:V2)(f_s_ServerOk:V4)(f_s_OpenStore_r98_0:M9)(f_s_FallDisk:A12):∀ x,(C7 A54 [B5q f_s_l15Copy,A55 f_s_ServerOk,A1D f_s_OpenStore_r98_0,A94 f_s_FallDisk] (B3 []) 28 [.cell 4 32,.tmp 5] (Tryz.f218.body.getD .skip) A0X A0Y).fn x=R6 f_s_l15Copy f_s_ServerOk f_s_OpenStore_r98_0 f_s_FallDisk x.1 x.2.1:=by intro x;kernel_rfl
theorem A58:B1 Tryz.prog 218 A56:=sm MO M6 (tc Tryz.call89 C3Z (tc Tryz.call90 A93 (tc Tryz.call257 A4h (tc Tryz.call258 B3u A7)))) Tryz.func218 (by kernel_rfl) (by decide) (A57 S2 E7 F9 V5)
def B6N:Nat→Option Jn:=B3 [(7,⟨[],lt 15 14 [],false⟩)]
abbrev A9J:List PK:= [.val true (.pair (.pair (.pair (.rs 9 .str) (.rs 9 .str)) (.pair (.int .i64) (.pair (.int .i64) (.rs 109 kUp)))) (.rs 130 J7)) false,.val false (.int .i64) false,.val true B1d false,.val false (.rs 5 (.int .u8)) false]
abbrev A9K:List RK:= [.val true (.pair (.pair U2 (.pair (.int .i64) (.pair (.int .i64) (.sl 109 (.pair .str (.pair (.int .i64) (.pair (.rs 5 (.int .u8)) .bool))))))) (.sl 130 J7)),.val false .bool]
def A4N(f:Q7):Nat×Fn:=(26,⟨A9J,A9K,fun x=>f x.1 x.2.1 x.2.2.1 x.2.2.2.1⟩)
def B6O:Fn:=(A4N H2).2
theorem B6P(f_s_l15Copy:V2)(f_s_ServerOk:V4)(f_s_ReqOk:B1N)(f_s_l15Does_r94_0_r98_0:P9):∀ x,(C7 A54 [Y5 f_s_l15Copy,A55 f_s_ServerOk,C0p f_s_ReqOk,A2C f_s_l15Does_r94_0_r98_0] B6N 49 [.cell 8 32,.tmp 9] (Tryz.f26.body.getD .skip) A9J A9K).fn x=A1W f_s_l15Copy f_s_ServerOk f_s_ReqOk f_s_l15Does_r94_0_r98_0 x.1 x.2.1 x.2.2.1 x.2.2.2.1:=by intro x;kernel_rfl
theorem A9L:B1 Tryz.prog 26 B6O:=sm MO M6 (tc Tryz.call89 A2F (tc Tryz.call90 A93 (tc Tryz.call91 C8H (tc Tryz.call92 A7h A7)))) Tryz.func26 (by kernel_rfl) (by decide) (B6P S2 E7 A7G L9)
abbrev B61:List PK:= [.val false (.int .i64) false,.val false (.int .i64) false,.val false (.int .i64) false]
abbrev B62:List RK:= [.val false .bool]
def V9(f:F7):Nat×Fn:=(80,⟨B61,B62,fun x=>f x.1 x.2.1 x.2.2.1⟩)
def C3p:Fn:=(V9 F8).2
theorem C3q:∀ x,(C7 cfg [] (B3 []) 15 [.tmp 6] (Tryz.f80.body.getD .skip) B61 B62).fn x=B5Z x.1 x.2.1 x.2.2.1:=by intro x;kernel_rfl
theorem Y8:B1 Tryz.prog 80 C3p:=sm MO B2 A7 Tryz.func80 (by kernel_rfl) (by decide) (C3q)
abbrev B8z:List PK:= [.val true U3 false]
abbrev B90:List RK:= [.val false .bool]
def B91(f:A5b):Nat×Fn:=(93,⟨B8z,B90,fun x=>f x.1⟩)
def C5n:Fn:=(B91 A1l).2
theorem C5o(f_i_inRange:F7):∀ x,(C7 cfg [V9 f_i_inRange] (B3 []) 11 [.tmp 2] (Tryz.f93.body.getD .skip) B8z B90).fn x=B2c f_i_inRange x.1:=by intro x;kernel_rfl
theorem C5p:B1 Tryz.prog 93 C5n:=sm MO B2 (tc Tryz.call80 Y8 A7) Tryz.func93 (by kernel_rfl) (by decide) (C5o F8)
abbrev B63:List PK:= [.val false (.int .i64) false]
abbrev B64:List RK:= [.val false .bool]
def B0w(f:A21):Nat×Fn:=(168,⟨B63,B64,fun x=>f x.1⟩)
def C3r:Fn:=(B0w A0h).2
theorem C3s(f_i_inRange:F7):∀ x,(C7 cfg [V9 f_i_inRange] (B3 []) 5 [.tmp 2] (Tryz.f168.body.getD .skip) B63 B64).fn x=A6N f_i_inRange x.1:=by intro x;kernel_rfl
theorem B65:B1 Tryz.prog 168 C3r:=sm MO B2 (tc Tryz.call80 Y8 A7) Tryz.func168 (by kernel_rfl) (by decide) (C3s F8)
def C5q:Nat→Option Jn:=B3 [(3,⟨[],lt 4 13 [],false⟩),(58,⟨[.t 20 false [.int .i64]],lt 21 19 [.t 3],false⟩)]
abbrev B92:List PK:= [.val true (.pair (.rs 9 .str) (.rs 9 .str)) false]
abbrev B93:List RK:= [.val false .bool]
def B94(f:A8X):Nat×Fn:=(169,⟨B92,B93,fun x=>f x.1⟩)
def C5r:Fn:=(B94 A8Y).2
theorem C5s:∀ x,(C7 cfg [] C5q 40 [.tmp 2] (Tryz.f169.body.getD .skip) B92 B93).fn x=B7v x.1:=by intro x;kernel_rfl
theorem C5t:B1 Tryz.prog 169 C5r:=sm MO B2 A7 Tryz.func169 (by kernel_rfl) (by decide) (C5s)
def C5u:Nat→Option Jn:=B3 [(3,⟨[],lt 11 15 [],false⟩),(15,⟨[.t 8 false [.int .i64]],lt 26 17 [.t 10],true⟩),(122,⟨[.t 8 false [.int .i64],.t 33 false [.int .i64]],lt 34 9 [.t 10],false⟩)]
abbrev B95:List PK:= [.val false (.rs 5 (.int .u8)) false,.val false (.int .i64) false,.val false (.int .i64) false]
abbrev B96:List RK:= [.val false (.int .i64),.val false .bool]
def B97(f:A8Z):Nat×Fn:=(307,⟨B95,B96,fun x=>f x.1 x.2.1 x.2.2.1⟩)
def C5v:Fn:=(B97 A5c).2
theorem C5w(f_i_inRange:F7):∀ x,(C7 cfg [V9 f_i_inRange] C5u 44 [.tmp 6,.tmp 7] (Tryz.f307.body.getD .skip) B95 B96).fn x=B2d f_i_inRange x.1 x.2.1 x.2.2.1:=by intro x;kernel_rfl
theorem C5x:B1 Tryz.prog 307 C5v:=sm MO B2 (tc Tryz.call80 Y8 A7) Tryz.func307 (by kernel_rfl) (by decide) (C5w F8)
end
end Go.Proofs.YtpdcljonclhhpaaGreat.Ev
