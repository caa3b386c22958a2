/- Each function of the program does what its plain function says. -/
import Derived.Test.YtpdcljonclhhpaaGreatG1
set_option linter.unusedVariables false
set_option maxRecDepth 100000
namespace Go.Proofs.YtpdcljonclhhpaaGreat.Ev
noncomputable section
abbrev C23:List PK:= [.val true (.pair (.pair (.rs 9 .str) (.rs 9 .str)) (.pair (.int .i64) (.pair (.int .i64) (.rs 109 kUp)))) false]
abbrev C24:List RK:= [.val false (.int .i64)]
def A6g(f:V1):Nat×Fn:=(236,⟨C23,C24,fun x=>f x.1⟩)
def D2j:Fn:=(A6g S6).2
theorem D2k:∀ x,(C5 cfg [] (B5 []) 10 [.tmp 2] (Tryz.f236.body.getD .skip) C23 C24).fn x=B41 x.1:=by intro x;kernel_rfl
theorem A9S:B3 Tryz.prog 236 D2j:=sm MO B1 A6 Tryz.func236 (by kernel_rfl) (by decide) (D2k)
abbrev A9T:List PK:= [.ptr (.pair A2X (.pair (.int .i64) (.pair (.int .i64) (.rs 109 kUp)))),.val true (.pair (.int .i64) (.pair (.int .i64) (.pair (.int .i64) (.pair .str (.pair (.int .i64) (.rs 5 (.int .u8))))))) false]
abbrev A9U:List RK:= []
def Y9(f:H0):Nat×Fn:=(237,⟨A9T,A9U,fun x=>f x.1 x.2.1⟩)
def B99:Fn:=(Y9 F3).2
theorem B9A(f_s_l14One_r99_0:R0)(f_s_l13Put:A5N):∀ x,(C5 cfg [A5k f_s_l14One_r99_0,B7l f_s_l13Put] (B5 []) 46 [] (Tryz.f237.body.getD .skip) A9T A9U).fn x=A4M f_s_l14One_r99_0 f_s_l13Put x.1 x.2.1:=by intro x;kernel_rfl
theorem A1N:B3 Tryz.prog 237 B99:=sm MO B1 (tc Tryz.call281 B0m (tc Tryz.call284 C5f A6)) Tryz.func237 (by kernel_rfl) (by decide) (B9A O3 A3Y)
abbrev D2l:List PK:= [.val true (.pair (.pair (.rs 9 .str) (.rs 9 .str)) (.pair (.int .i64) (.pair (.int .i64) (.rs 109 kUp)))) false,.val false .str false]
abbrev D2m:List RK:= [.val true kUp,.val false .bool]
def C5m(f:B0a):Nat×Fn:=(113,⟨D2l,D2m,fun x=>f x.1 x.2.1⟩)
def D9v:Fn:=(C5m A7x).2
theorem D9w(f_s_l14At:T1):∀ x,(C5 cfg [A5j f_s_l14At] (B5 []) 26 [.cell 4 109,.tmp 5] (Tryz.f113.body.getD .skip) D2l D2m).fn x=C4F f_s_l14At x.1 x.2.1:=by intro x;kernel_rfl
theorem D2n:B3 Tryz.prog 113 D9v:=sm MO B1 (tc Tryz.call206 A7a A6) Tryz.func113 (by kernel_rfl) (by decide) (D9w P5)
abbrev B9B:List PK:= [.val true (.pair (.pair (.rs 9 .str) (.rs 9 .str)) (.pair (.int .i64) (.pair (.int .i64) (.rs 109 kUp)))) false,.val true U1 false]
abbrev B9C:List RK:= [.val true E5]
def B9D(f:A7B):Nat×Fn:=(166,⟨B9B,B9C,fun x=>f x.1 x.2.1⟩)
def C9r:Fn:=(B9D A4N).2
theorem C9s(f_s_UpAt:B0a):∀ x,(C5 cfg [C5m f_s_UpAt] (B5 []) 35 [.cell 4 126] (Tryz.f166.body.getD .skip) B9B B9C).fn x=B20 f_s_UpAt x.1 x.2.1:=by intro x;kernel_rfl
theorem C9t:B3 Tryz.prog 166 C9r:=sm MO B1 (tc Tryz.call113 D2n A6) Tryz.func166 (by kernel_rfl) (by decide) (C9s A7x)
def D58:Nat→Option Jn:=B5 [(235,⟨[.t 19 false [.bool]],[.t 20,.t 21],true⟩)]
abbrev C5n:List PK:= [.val true (.pair (.pair (.rs 9 .str) (.rs 9 .str)) (.pair (.int .i64) (.pair (.int .i64) (.rs 109 kUp)))) false,.val false .str false,.val false (.int .i64) false]
abbrev C5o:List RK:= [.val true E5]
def C5p(f:B21):Nat×Fn:=(167,⟨C5n,C5o,fun x=>f x.1 x.2.1 x.2.2.1⟩)
def D59:Fn:=(C5p A7y).2
theorem D5A(f_s_UpAt:B0a):∀ x,(C5 cfg [C5m f_s_UpAt] D58 33 [.cell 6 126] (Tryz.f167.body.getD .skip) C5n C5o).fn x=B7N f_s_UpAt x.1 x.2.1 x.2.2.1:=by intro x;kernel_rfl
theorem D5B:B3 Tryz.prog 167 D59:=sm MO B1 (tc Tryz.call113 D2n A6) Tryz.func167 (by kernel_rfl) (by decide) (D5A A7x)
def C0f:Nat→Option Jn:=B5 [(7,⟨[],lt 33 10 (lt 26 6 (lt 11 14 [])),false⟩),(28,⟨[.t 11 false [.bool]],lt 12 13 [],true⟩)]
abbrev B0n:List PK:= [.val true (.pair (.pair (.rs 9 .str) (.rs 9 .str)) (.pair (.int .i64) (.pair (.int .i64) (.rs 109 kUp)))) false,.val false .str false,.val false (.int .i64) false]
abbrev B0o:List RK:= [.val true (.pair A2X (.pair (.int .i64) (.pair (.int .i64) (.rs 109 kUp)))),.val false (.int .i64)]
def B0p(f:A2F):Nat×Fn:=(162,⟨B0n,B0o,fun x=>f x.1 x.2.1 x.2.2.1⟩)
def C0g:Fn:=(B0p A0B).2
theorem C0h(f_s_l1In:E3)(f_s_l14Copy:O1)(f_s_StoreOk:P9)(f_s_l11Id:P4)(f_s_l14At:T1)(f_s_l14Left:V1)(f_s_l14Write_r0_4:H0):∀ x,(C5 cfg [Q8 f_s_l1In,A6e f_s_l14Copy,A3z f_s_StoreOk,A3v f_s_l11Id,A5j f_s_l14At,A6g f_s_l14Left,Y9 f_s_l14Write_r0_4] C0f 49 [.cell 6 29,.tmp 7] (Tryz.f162.body.getD .skip) B0n B0o).fn x=A5Q f_s_l1In f_s_l14Copy f_s_StoreOk f_s_l11Id f_s_l14At f_s_l14Left f_s_l14Write_r0_4 x.1 x.2.1 x.2.2.1:=by intro x;kernel_rfl
theorem C0i:B3 Tryz.prog 162 C0g:=sm MO B1 (tc Tryz.call120 S9 (tc Tryz.call157 A9R (tc Tryz.call159 A6f (tc Tryz.call160 A5i (tc Tryz.call206 A7a (tc Tryz.call236 A9S (tc Tryz.call237 A1N A6))))))) Tryz.func162 (by kernel_rfl) (by decide) (C0h E1 L9 F7 O0 P5 S6 F3)
def C2c:Nat→Option Jn:=B5 [(7,⟨[],lt 17 14 [],false⟩),(127,⟨[],lt 64 9 (lt 44 19 []),false⟩),(255,⟨[.b 10 [.own 100003000,.own 100003001,.int .i64,.int .i64,.ro 109 kUp],.r 100003000 9 .str,.r 100003001 9 .str],lt 74 26 [.r 92,.r 97,.r 69632,.r 69633,.r 69636,.r 411648,.r 411649,.t 13,.t 14,.t 16],true⟩),(508,⟨[.t 44 false [.bool]],lt 45 18 [],true⟩),(2042,⟨[.t 13 false [.int .i64],.b 10 [.own 100003000,.own 100003001,.int .i64,.int .i64,.ro 109 kUp],.r 100003000 9 .str,.r 100003001 9 .str],lt 74 26 [.r 92,.r 97,.r 69632,.r 69633,.r 69636,.r 411648,.r 411649,.t 14,.t 16],false⟩),(65353,⟨[.t 14 false [.int .i64]],lt 82 6 [],true⟩)]
abbrev B2u:List PK:= [.val true (.pair (.pair (.rs 9 .str) (.rs 9 .str)) (.pair (.int .i64) (.pair (.int .i64) (.rs 109 kUp)))) false,.val false .str false,.val false (.int .i64) false,.val false (.rs 5 (.int .u8)) false]
abbrev B2v:List RK:= [.val true (.pair A2X (.pair (.int .i64) (.pair (.int .i64) (.rs 109 kUp)))),.val false (.int .i64)]
def B2w(f:A3L):Nat×Fn:=(163,⟨B2u,B2v,fun x=>f x.1 x.2.1 x.2.2.1 x.2.2.2.1⟩)
def C2d:Fn:=(B2w A0t).2
theorem C2e(f_s_l1In:E3)(f_s_l14Copy:O1)(f_s_StoreOk:P9)(f_s_l11Id:P4)(f_s_l14At:T1)(f_s_l14Left:V1)(f_s_l14Write_r0_4:H0):∀ x,(C5 cfg [Q8 f_s_l1In,A6e f_s_l14Copy,A3z f_s_StoreOk,A3v f_s_l11Id,A5j f_s_l14At,A6g f_s_l14Left,Y9 f_s_l14Write_r0_4] C2c 101 [.cell 8 29,.tmp 9] (Tryz.f163.body.getD .skip) B2u B2v).fn x=A6k f_s_l1In f_s_l14Copy f_s_StoreOk f_s_l11Id f_s_l14At f_s_l14Left f_s_l14Write_r0_4 x.1 x.2.1 x.2.2.1 x.2.2.2.1:=by intro x;kernel_rfl
theorem C2f:B3 Tryz.prog 163 C2d:=sm MO B1 (tc Tryz.call120 S9 (tc Tryz.call157 A9R (tc Tryz.call159 A6f (tc Tryz.call160 A5i (tc Tryz.call206 A7a (tc Tryz.call236 A9S (tc Tryz.call237 A1N A6))))))) Tryz.func163 (by kernel_rfl) (by decide) (C2e E1 L9 F7 O0 P5 S6 F3)
def C0j:Nat→Option Jn:=B5 [(7,⟨[],lt 13 8 [],false⟩)]
abbrev B0q:List PK:= [.val true (.pair (.pair (.rs 9 .str) (.rs 9 .str)) (.pair (.int .i64) (.pair (.int .i64) (.rs 109 kUp)))) false,.val false .str false,.val false (.int .i64) false]
abbrev B0r:List RK:= [.val true (.pair A2X (.pair (.int .i64) (.pair (.int .i64) (.rs 109 kUp)))),.val false (.int .i64)]
def B0s(f:A2G):Nat×Fn:=(164,⟨B0q,B0r,fun x=>f x.1 x.2.1 x.2.2.1⟩)
def C0k:Fn:=(B0s A0C).2
theorem C0l(f_s_Crc:A8r)(f_s_l14Copy:O1)(f_s_StoreOk:P9)(f_s_l11Id:P4)(f_s_l14At:T1)(f_s_l14Left:V1)(f_s_l14Write_r0_4:H0):∀ x,(C5 cfg [C3U f_s_Crc,A6e f_s_l14Copy,A3z f_s_StoreOk,A3v f_s_l11Id,A5j f_s_l14At,A6g f_s_l14Left,Y9 f_s_l14Write_r0_4] C0j 62 [.cell 6 29,.tmp 7] (Tryz.f164.body.getD .skip) B0q B0r).fn x=A5R f_s_Crc f_s_l14Copy f_s_StoreOk f_s_l11Id f_s_l14At f_s_l14Left f_s_l14Write_r0_4 x.1 x.2.1 x.2.2.1:=by intro x;kernel_rfl
theorem C0m:B3 Tryz.prog 164 C0k:=sm MO B1 (tc Tryz.call152 C9l (tc Tryz.call157 A9R (tc Tryz.call159 A6f (tc Tryz.call160 A5i (tc Tryz.call206 A7a (tc Tryz.call236 A9S (tc Tryz.call237 A1N A6))))))) Tryz.func164 (by kernel_rfl) (by decide) (C0l A7A L9 F7 O0 P5 S6 F3)
def C0n:Nat→Option Jn:=B5 [(7,⟨[],lt 26 4 (lt 19 6 (lt 9 9 [])),false⟩),(28,⟨[.t 9 false [.bool]],lt 10 8 [],true⟩)]
abbrev B0t:List PK:= [.val true (.pair (.pair (.rs 9 .str) (.rs 9 .str)) (.pair (.int .i64) (.pair (.int .i64) (.rs 109 kUp)))) false,.val false .str false]
abbrev B0u:List RK:= [.val true (.pair A2X (.pair (.int .i64) (.pair (.int .i64) (.rs 109 kUp)))),.val false (.int .i64)]
def B0v(f:A2H):Nat×Fn:=(165,⟨B0t,B0u,fun x=>f x.1 x.2.1⟩)
def C0o:Fn:=(B0v A0D).2
theorem C0p(f_s_l14Copy:O1)(f_s_StoreOk:P9)(f_s_l11Id:P4)(f_s_l14At:T1)(f_s_l14Left:V1)(f_s_l14Write_r0_4:H0):∀ x,(C5 cfg [A6e f_s_l14Copy,A3z f_s_StoreOk,A3v f_s_l11Id,A5j f_s_l14At,A6g f_s_l14Left,Y9 f_s_l14Write_r0_4] C0n 35 [.cell 4 29,.tmp 5] (Tryz.f165.body.getD .skip) B0t B0u).fn x=A5S f_s_l14Copy f_s_StoreOk f_s_l11Id f_s_l14At f_s_l14Left f_s_l14Write_r0_4 x.1 x.2.1:=by intro x;kernel_rfl
theorem C0q:B3 Tryz.prog 165 C0o:=sm MO B1 (tc Tryz.call157 A9R (tc Tryz.call159 A6f (tc Tryz.call160 A5i (tc Tryz.call206 A7a (tc Tryz.call236 A9S (tc Tryz.call237 A1N A6)))))) Tryz.func165 (by kernel_rfl) (by decide) (C0p L9 F7 O0 P5 S6 F3)
abbrev B6P:List PK:= [.val true (.pair (.rs 9 .str) (.rs 9 .str)) false]
abbrev B6Q:List RK:= [.val true A2X]
def B6R(f:A5v):Nat×Fn:=(252,⟨B6P,B6Q,fun x=>f x.1⟩)
def C74:Fn:=(B6R A2c).2
theorem C75:∀ x,(C5 cfg [] (B5 []) 12 [.cell 2 26] (Tryz.f252.body.getD .skip) B6P B6Q).fn x=A9q x.1:=by intro x;kernel_rfl
theorem C76:B3 Tryz.prog 252 C74:=sm MO B1 A6 Tryz.func252 (by kernel_rfl) (by decide) (C75)
abbrev C25:List PK:= [.val true (.pair .str (.pair (.rs 5 (.int .u8)) E5)) false]
abbrev C26:List RK:= [.val false .bool]
def B4i(f:A3o):Nat×Fn:=(253,⟨C25,C26,fun x=>f x.1⟩)
def D2o:Fn:=(B4i A1n).2
theorem D2p:∀ x,(C5 cfg [] (B5 []) 11 [.tmp 2] (Tryz.f253.body.getD .skip) C25 C26).fn x=B42 x.1:=by intro x;kernel_rfl
theorem C27:B3 Tryz.prog 253 D2o:=sm MO B1 A6 Tryz.func253 (by kernel_rfl) (by decide) (D2p)
abbrev C28:List PK:= [.val false (.int .i64) false,.val false (.int .i64) false]
abbrev C29:List RK:= [.val false (.int .i64)]
def C2A(f:A8z):Nat×Fn:=(292,⟨C28,C29,fun x=>f x.1 x.2.1⟩)
def D2q:Fn:=(C2A A6L).2
theorem D2r:∀ x,(C5 cfg [] (B5 []) 35 [.tmp 4] (Tryz.f292.body.getD .skip) C28 C29).fn x=B43 x.1 x.2.1:=by intro x;kernel_rfl
theorem D2s:B3 Tryz.prog 292 D2q:=sm MO B1 A6 Tryz.func292 (by kernel_rfl) (by decide) (D2r)
abbrev B0w:List PK:= [.val true (.pair .str (.pair (.rs 5 (.int .u8)) E5)) false,.val false (.int .i64) false]
abbrev B0x:List RK:= [.val true (.pair .str (.pair (.rs 5 (.int .u8)) E5))]
def B0y(f:B22):Nat×Fn:=(293,⟨B0w,B0x,fun x=>f x.1 x.2.1⟩)
def C0r:Fn:=(B0y A7z).2
theorem C0s(f_s_l1In:E3):∀ x,(C5 cfg [Q8 f_s_l1In] (B5 []) 26 [.cell 4 79] (Tryz.f293.body.getD .skip) B0w B0x).fn x=B7O f_s_l1In x.1 x.2.1:=by intro x;kernel_rfl
theorem C0t:B3 Tryz.prog 293 C0r:=sm MO B1 (tc Tryz.call120 S9 A6) Tryz.func293 (by kernel_rfl) (by decide) (C0s E1)
abbrev A9V:List PK:= [.val true (.pair .str (.pair (.rs 5 (.int .u8)) E5)) false,.val true E5 false]
abbrev A9W:List RK:= [.val true (.pair .str (.pair (.rs 5 (.int .u8)) E5))]
def A9X(f:A90):Nat×Fn:=(254,⟨A9V,A9W,fun x=>f x.1 x.2.1⟩)
def B9E:Fn:=(A9X A6M).2
theorem B9F(f_s_l17Next:A8z)(f_s_l17Far:B22):∀ x,(C5 cfg [C2A f_s_l17Next,B0y f_s_l17Far] (B5 []) 20 [.cell 4 79] (Tryz.f254.body.getD .skip) A9V A9W).fn x=B44 f_s_l17Next f_s_l17Far x.1 x.2.1:=by intro x;kernel_rfl
theorem B9G:B3 Tryz.prog 254 B9E:=sm MO B1 (tc Tryz.call292 D2s (tc Tryz.call293 C0t A6)) Tryz.func254 (by kernel_rfl) (by decide) (B9F A6L A7z)
def C77:Nat→Option Jn:=B5 [(58,⟨[.t 5 false [.own 100000000],.t 6 false [.int .i64],.r 100000000 130 A9],lt 8 20 [.r 7,.r 26,.r 27],false⟩)]
abbrev B6S:List PK:= [.val false (.rs 130 A9) false,.val false (.int .i64) false]
abbrev B6T:List RK:= [.val false (.sl 130 A9)]
def B6U(f:A5w):Nat×Fn:=(255,⟨B6S,B6T,fun x=>f x.1 x.2.1⟩)
def C78:Fn:=(B6U A2d).2
theorem C79:∀ x,(C5 cfg [] C77 29 [.tmp 4] (Tryz.f255.body.getD .skip) B6S B6T).fn x=A9r x.1 x.2.1:=by intro x;kernel_rfl
theorem C7A:B3 Tryz.prog 255 C78:=sm MO B1 A6 Tryz.func255 (by kernel_rfl) (by decide) (C79)
abbrev C2B:List PK:= [.val true (.pair .str (.pair (.rs 5 (.int .u8)) E5)) false]
abbrev C2C:List RK:= [.val true B2]
def A9Y(f:V2):Nat×Fn:=(193,⟨C2B,C2C,fun x=>f x.1⟩)
def D2t:Fn:=(A9Y M0).2
theorem D2u:∀ x,(C5 cfg [] (B5 []) 9 [.cell 2 79] (Tryz.f193.body.getD .skip) C2B C2C).fn x=B45 x.1:=by intro x;kernel_rfl
theorem B4j:B3 Tryz.prog 193 D2t:=sm MO B1 A6 Tryz.func193 (by kernel_rfl) (by decide) (D2u)
abbrev C5q:List PK:= [.val true (.pair .str (.pair (.rs 5 (.int .u8)) E5)) false]
abbrev C5r:List RK:= [.val true B2]
def B7q(f:A3a):Nat×Fn:=(256,⟨C5q,C5r,fun x=>f x.1⟩)
def D5C:Fn:=(B7q A0h).2
theorem D5D(f_s_l17Copy:V2)(f_s_ClientOk:O7)(f_s_l17Over:A3o):∀ x,(C5 cfg [A9Y f_s_l17Copy,A4o f_s_ClientOk,B4i f_s_l17Over] (B5 []) 15 [.cell 2 79] (Tryz.f256.body.getD .skip) C5q C5r).fn x=B7P f_s_l17Copy f_s_ClientOk f_s_l17Over x.1:=by intro x;kernel_rfl
theorem C5s:B3 Tryz.prog 256 D5C:=sm MO B1 (tc Tryz.call193 B4j (tc Tryz.call215 A7R (tc Tryz.call253 C27 A6))) Tryz.func256 (by kernel_rfl) (by decide) (D5D M0 G0 A1n)
def C9u:Nat→Option Jn:=B5 [(58,⟨[.t 3 false [.int .i64],.t 4 false [.int .i64]],lt 5 27 [.b 5,.r 86021],false⟩)]
abbrev B9H:List PK:= [.val true (.pair (.rs 9 .str) (.rs 9 .str)) false]
abbrev B9I:List RK:= [.val false (.int .i64)]
def B9J(f:A7C):Nat×Fn:=(294,⟨B9H,B9I,fun x=>f x.1⟩)
def C9v:Fn:=(B9J A4P).2
theorem C9w(f_s_GetRec:V9):∀ x,(C5 cfg [B2a f_s_GetRec] C9u 33 [.tmp 2] (Tryz.f294.body.getD .skip) B9H B9I).fn x=B23 f_s_GetRec x.1:=by intro x;kernel_rfl
theorem C9x:B3 Tryz.prog 294 C9v:=sm MO B1 (tc Tryz.call235 B7m A6) Tryz.func294 (by kernel_rfl) (by decide) (C9w L1)
def C9y:Nat→Option Jn:=B5 [(122,⟨[.t 6 false [.int .i64],.b 5 [.own 36864,.own 36865],.r 36864 9 .str,.r 36865 9 .str],lt 13 35 [.x 36,.x 38,.x 45,.x 47],false⟩),(1956,⟨[.t 29 false [.bool]],lt 20 9 [],true⟩)]
abbrev B9K:List PK:= [.val true (.pair (.rs 9 .str) (.rs 9 .str)) false,.val false (.rs 4 .bool) false]
abbrev B9L:List RK:= [.val true A2X]
def B9M(f:A7D):Nat×Fn:=(258,⟨B9K,B9L,fun x=>f x.1 x.2.1⟩)
def C9z:Fn:=(B9M A0i).2
theorem D00(f_s_l12Copy:Y1)(f_s_DiskOk:A1k):∀ x,(C5 cfg [A6d f_s_l12Copy,B2Z f_s_DiskOk] C9y 49 [.cell 4 26] (Tryz.f258.body.getD .skip) B9K B9L).fn x=A7E f_s_l12Copy f_s_DiskOk x.1 x.2.1:=by intro x;kernel_rfl
theorem D01:B3 Tryz.prog 258 C9z:=sm MO B1 (tc Tryz.call229 A9Q (tc Tryz.call231 B7k A6)) Tryz.func258 (by kernel_rfl) (by decide) (D00 V0 T8)
def B5w:Nat→Option Jn:=B5 [(63,⟨[],lt 22 6 [],false⟩)]
abbrev A71:List PK:= [.val true (.pair (.rs 9 .str) (.rs 9 .str)) false]
abbrev A72:List RK:= [.val true (.pair A2X (.pair (.int .i64) (.pair (.int .i64) (.rs 109 kUp)))),.val false .bool]
def A73(f:A07):Nat×Fn:=(257,⟨A71,A72,fun x=>f x.1⟩)
def B5x:Fn:=(A73 D9).2
theorem B5y(f_s_l12Copy:Y1)(f_s_DiskOk:A1k)(f_s_ScanRecs:A2E)(f_s_FoldRecs_r99_0:R1)(f_s_TopEpoch:A7C):∀ x,(C5 cfg [A6d f_s_l12Copy,B2Z f_s_DiskOk,B2b f_s_ScanRecs,A3e f_s_FoldRecs_r99_0,B9J f_s_TopEpoch] B5w 36 [.cell 2 29,.tmp 3] (Tryz.f257.body.getD .skip) A71 A72).fn x=P6 f_s_l12Copy f_s_DiskOk f_s_ScanRecs f_s_FoldRecs_r99_0 f_s_TopEpoch x.1:=by intro x;kernel_rfl
theorem B5z:B3 Tryz.prog 257 B5x:=sm MO B1 (tc Tryz.call229 A9Q (tc Tryz.call231 B7k (tc Tryz.call232 B98 (tc Tryz.call233 A8O (tc Tryz.call294 C9x A6))))) Tryz.func257 (by kernel_rfl) (by decide) (B5y V0 T8 Y2 N5 A4P)
def C7B:Nat→Option Jn:=B5 [(3,⟨[],lt 8 26 [.x 23],false⟩)]
abbrev B6V:List PK:= [.ptr (.pair (.pair (.pair (.pair (.rs 9 .str) (.rs 9 .str)) (.pair (.int .i64) (.pair (.int .i64) (.rs 109 (.pair .str (.pair (.int .i64) (.pair (.rs 5 (.int .u8)) .bool))))))) (.sl 130 A9)) (.pair (.sl 79 (.pair .str (.pair (.rs 5 (.int .u8)) E5))) (.pair (.sl 4 .bool) (.pair (.sl 113 (.pair (.int .i64) (.pair U1 (.rs 5 (.int .u8))))) (.pair (.sl 130 A9) (.sl 3 (.int .i64))))))),.val false (.int .i64) false]
abbrev B6W:List RK:= [.val false .bool]
def B6X(f:A5x):Nat×Fn:=(194,⟨B6V,B6W,fun x=>f x.1 x.2.1⟩)
def C7C:Fn:=(B6X Z3).2
theorem C7D(f_s_l1In:E3)(f_s_NextReq:A8t):∀ x,(C5 B4U [Q8 f_s_l1In,C1w f_s_NextReq] C7B 67 [.tmp 4] (Tryz.f194.body.getD .skip) B6V B6W).fn x=A5y f_s_l1In f_s_NextReq x.1 x.2.1:=by intro x;kernel_rfl
theorem C7E:B3 Tryz.prog 194 C7C:=sm MO A09 (tc Tryz.call120 S9 (tc Tryz.call251 D2b A6)) Tryz.func194 (by kernel_rfl) (by decide) (C7D E1 A6K)
abbrev B6Y:List PK:= [.val false .str false,.val false (.rs 5 (.int .u8)) false]
abbrev B6Z:List RK:= [.val true B2]
def B6a(f:A2e):Nat×Fn:=(138,⟨B6Y,B6Z,fun x=>f x.1 x.2.1⟩)
def C7F:Fn:=(B6a Z4).2
theorem C7G(f_s_ClientOk:O7):∀ x,(C5 cfg [A4o f_s_ClientOk] (B5 []) 16 [.cell 4 79] (Tryz.f138.body.getD .skip) B6Y B6Z).fn x=A9s f_s_ClientOk x.1 x.2.1:=by intro x;kernel_rfl
theorem C7H:B3 Tryz.prog 138 C7F:=sm MO B1 (tc Tryz.call215 A7R A6) Tryz.func138 (by kernel_rfl) (by decide) (C7G G0)
abbrev C5t:List PK:= [.val true E5 false]
abbrev C5u:List RK:= [.val false .bool]
def B7r(f:A1o):Nat×Fn:=(158,⟨C5t,C5u,fun x=>f x.1⟩)
def D5E:Fn:=(B7r R2).2
theorem D5F(f_s_l1In:E3):∀ x,(C5 cfg [Q8 f_s_l1In] (B5 []) 11 [.tmp 2] (Tryz.f158.body.getD .skip) C5t C5u).fn x=B7Q f_s_l1In x.1:=by intro x;kernel_rfl
theorem C5v:B3 Tryz.prog 158 D5E:=sm MO B1 (tc Tryz.call120 S9 A6) Tryz.func158 (by kernel_rfl) (by decide) (D5F E1)
def D02:Nat→Option Jn:=B5 [(3,⟨[],lt 3 16 [],false⟩),(26,⟨[.t 3 false [.int .i64]],lt 4 15 [],false⟩)]
abbrev B9N:List PK:= [.val true (.pair (.pair (.pair (.rs 9 .str) (.rs 9 .str)) (.pair (.int .i64) (.pair (.int .i64) (.rs 109 kUp)))) (.rs 130 A9)) false]
abbrev B9O:List RK:= [.val false .bool]
def B9P(f:A7F):Nat×Fn:=(90,⟨B9N,B9O,fun x=>f x.1⟩)
def D03:Fn:=(B9P A0j).2
theorem D04(f_s_RespOk:A1o)(f_s_StoreOk:P9):∀ x,(C5 cfg [B7r f_s_RespOk,A3z f_s_StoreOk] D02 28 [.tmp 2] (Tryz.f90.body.getD .skip) B9N B9O).fn x=A7G f_s_RespOk f_s_StoreOk x.1:=by intro x;kernel_rfl
theorem D05:B3 Tryz.prog 90 D03:=sm MO B1 (tc Tryz.call158 C5v (tc Tryz.call159 A6f A6)) Tryz.func90 (by kernel_rfl) (by decide) (D04 R2 F7)
abbrev C2D:List PK:= [.val false (.int .i64) false]
abbrev C2E:List RK:= [.val false (.int .i64)]
def C2F(f:A91):Nat×Fn:=(161,⟨C2D,C2E,fun x=>f x.1⟩)
def D2v:Fn:=(C2F A92).2
theorem D2w:∀ x,(C5 cfg [] (B5 []) 9 [.tmp 2] (Tryz.f161.body.getD .skip) C2D C2E).fn x=B46 x.1:=by intro x;kernel_rfl
theorem D2x:B3 Tryz.prog 161 D2v:=sm MO B1 A6 Tryz.func161 (by kernel_rfl) (by decide) (D2w)
def D7j:Nat→Option Jn:=B5 [(3,⟨[],lt 4 10 [],false⟩)]
abbrev C8c:List PK:= [.val true U1 false]
abbrev C8d:List RK:= [.val false .bool]
def C8e(f:B0c):Nat×Fn:=(91,⟨C8c,C8d,fun x=>f x.1⟩)
def D7k:Fn:=(C8e A5U).2
theorem D7l(f_s_l1In:E3)(f_s_l11Id:P4)(f_s_l11Most:A91):∀ x,(C5 cfg [Q8 f_s_l1In,A3v f_s_l11Id,C2F f_s_l11Most] D7j 26 [.tmp 2] (Tryz.f91.body.getD .skip) C8c C8d).fn x=C0B f_s_l1In f_s_l11Id f_s_l11Most x.1:=by intro x;kernel_rfl
theorem D7m:B3 Tryz.prog 91 D7k:=sm MO B1 (tc Tryz.call120 S9 (tc Tryz.call160 A5i (tc Tryz.call161 D2x A6))) Tryz.func91 (by kernel_rfl) (by decide) (D7l E1 O0 A92)
def C5w:Nat→Option Jn:=B5 [(7,⟨[],lt 9 30 [.t 4,.t 5],false⟩),(58,⟨[.t 4 false [.int .i64]],lt 9 30 [.t 5],false⟩),(7462,⟨[.t 5 false [.int .i64]],lt 21 18 [],false⟩)]
abbrev B4k:List PK:= [.val true (.pair (.pair (.pair (.pair (.rs 9 .str) (.rs 9 .str)) (.pair (.int .i64) (.pair (.int .i64) (.rs 109 kUp)))) (.rs 130 A9)) (.pair (.rs 79 B2) (.pair (.rs 4 .bool) (.pair (.rs 113 F0) (.pair (.rs 130 A9) (.rs 3 (.int .i64))))))) false]
abbrev B4l:List RK:= [.val false .bool]
def B4m(f:A4Q):Nat×Fn:=(141,⟨B4k,B4l,fun x=>f x.1⟩)
def C5x:Fn:=(B4m W0).2
theorem C5y(f_s_ClientOk:O7):∀ x,(C5 cfg [A4o f_s_ClientOk] C5w 55 [.tmp 2] (Tryz.f141.body.getD .skip) B4k B4l).fn x=A4R f_s_ClientOk x.1:=by intro x;kernel_rfl
theorem C5z:B3 Tryz.prog 141 C5x:=sm MO B1 (tc Tryz.call215 A7R A6) Tryz.func141 (by kernel_rfl) (by decide) (C5y G0)
def D5G:Nat→Option Jn:=B5 [(26,⟨[.t 5 false [.int .i64]],lt 6 26 [],false⟩)]
abbrev C60:List PK:= [.val true (.pair (.pair (.pair (.pair (.rs 9 .str) (.rs 9 .str)) (.pair (.int .i64) (.pair (.int .i64) (.rs 109 kUp)))) (.rs 130 A9)) (.pair (.rs 79 B2) (.pair (.rs 4 .bool) (.pair (.rs 113 F0) (.pair (.rs 130 A9) (.rs 3 (.int .i64))))))) false,.val false (.rs 130 A9) false]
abbrev C61:List RK:= [.val false .bool]
def C62(f:B25):Nat×Fn:=(142,⟨C60,C61,fun x=>f x.1 x.2.1⟩)
def D5H:Fn:=(C62 A80).2
theorem D5I(f_s_l1In:E3)(f_s_RespOk:A1o):∀ x,(C5 cfg [Q8 f_s_l1In,B7r f_s_RespOk] D5G 32 [.tmp 4] (Tryz.f142.body.getD .skip) C60 C61).fn x=B7R f_s_l1In f_s_RespOk x.1 x.2.1:=by intro x;kernel_rfl
theorem D5J:B3 Tryz.prog 142 D5H:=sm MO B1 (tc Tryz.call120 S9 (tc Tryz.call158 C5v A6)) Tryz.func142 (by kernel_rfl) (by decide) (D5I E1 R2)
def D2y:Nat→Option Jn:=B5 [(3,⟨[],lt 4 36 [],false⟩),(58,⟨[.t 3 false [.int .i64]],lt 40 29 [],false⟩)]
abbrev C2G:List PK:= [.val true (.pair (.pair (.pair (.pair (.rs 9 .str) (.rs 9 .str)) (.pair (.int .i64) (.pair (.int .i64) (.rs 109 kUp)))) (.rs 130 A9)) (.pair (.rs 79 B2) (.pair (.rs 4 .bool) (.pair (.rs 113 F0) (.pair (.rs 130 A9) (.rs 3 (.int .i64))))))) false]
abbrev C2H:List RK:= [.val false .bool]
def C2I(f:A93):Nat×Fn:=(70,⟨C2G,C2H,fun x=>f x.1⟩)
def D2z:Fn:=(C2I Y4).2
theorem D30(f_s_ServerOk:A7F)(f_s_ReqOk:B0c)(f_s_l1In:E3)(f_s_l18Clients:A4Q)(f_s_l18Who:B25):∀ x,(C5 cfg [B9P f_s_ServerOk,C8e f_s_ReqOk,Q8 f_s_l1In,B4m f_s_l18Clients,C62 f_s_l18Who] D2y 69 [.tmp 2] (Tryz.f70.body.getD .skip) C2G C2H).fn x=A94 f_s_ServerOk f_s_ReqOk f_s_l1In f_s_l18Clients f_s_l18Who x.1:=by intro x;kernel_rfl
theorem D31:B3 Tryz.prog 70 D2z:=sm MO B1 (tc Tryz.call90 D05 (tc Tryz.call91 D7m (tc Tryz.call120 S9 (tc Tryz.call141 C5z (tc Tryz.call142 D5J A6))))) Tryz.func70 (by kernel_rfl) (by decide) (D30 A0j A5U E1 W0 A80)
def D32:Nat→Option Jn:=B5 [(58,⟨[.t 4 false [.int .i64],.b 3 [.own 100000000,.own 100000001],.r 100000000 9 .str,.r 100000001 9 .str],lt 6 19 [.r 17,.r 18,.r 22,.r 23],false⟩),(116,⟨[],lt 6 7 [],false⟩)]
abbrev C2J:List PK:= [.val false (.int .i64) false]
abbrev C2K:List RK:= [.val true A2X]
def C2L(f:A95):Nat×Fn:=(303,⟨C2J,C2K,fun x=>f x.1⟩)
def D33:Fn:=(C2L A6N).2
theorem D34:∀ x,(C5 cfg [] D32 26 [.cell 2 26] (Tryz.f303.body.getD .skip) C2J C2K).fn x=B47 x.1:=by intro x;kernel_rfl
theorem D35:B3 Tryz.prog 303 D33:=sm MO B1 A6 Tryz.func303 (by kernel_rfl) (by decide) (D34)
abbrev A31:List PK:= [.val false (.int .i64) false]
abbrev A32:List RK:= [.val true (.pair A2X (.pair (.int .i64) (.pair (.int .i64) (.sl 109 (.pair .str (.pair (.int .i64) (.pair (.rs 5 (.int .u8)) .bool)))))))]
def A33(f:A7H):Nat×Fn:=(272,⟨A31,A32,fun x=>f x.1⟩)
def B05:Fn:=(A33 A7I).2
theorem B06(f_s_DiskNew:A95):∀ x,(C5 B4U [C2L f_s_DiskNew] (B5 []) 6 [.cell 2 29] (Tryz.f272.body.getD .skip) A31 A32).fn x=B26 f_s_DiskNew x.1:=by intro x;kernel_rfl
theorem B07:B3 Tryz.prog 272 B05:=sm MO A09 (tc Tryz.call303 D35 A6) Tryz.func272 (by kernel_rfl) (by decide) (B06 A6N)
abbrev A2R:List PK:= [.val false (.int .i64) false]
abbrev A2S:List RK:= [.val true (.pair (.pair A2X (.pair (.int .i64) (.pair (.int .i64) (.sl 109 (.pair .str (.pair (.int .i64) (.pair (.rs 5 (.int .u8)) .bool))))))) (.sl 130 A9))]
def A2T(f:A5z):Nat×Fn:=(216,⟨A2R,A2S,fun x=>f x.1⟩)
def A8Y:Fn:=(A2T A2g).2
theorem A8Z(f_s_StoreNew:A7H):∀ x,(C5 B4U [A33 f_s_StoreNew] (B5 []) 6 [.cell 2 32] (Tryz.f216.body.getD .skip) A2R A2S).fn x=A9t f_s_StoreNew x.1:=by intro x;kernel_rfl
theorem A8a:B3 Tryz.prog 216 A8Y:=sm MO A09 (tc Tryz.call272 B07 A6) Tryz.func216 (by kernel_rfl) (by decide) (A8Z A7I)
def B08:Nat→Option Jn:=B5 [(7,⟨[.b 5 [.own 36864,.own 36865,.int .i64,.int .i64,.own 36868,.own 36869,.own 100000000,.own 100000001,.nil,.nil,.own 100000002],.r 36864 9 .str,.r 36865 9 .str,.r 36868 109 (.pair .str (.pair (.int .i64) (.pair (.rs 5 (.int .u8)) .bool))),.r 36869 130 A9,.r 100000000 79 (.pair .str (.pair (.rs 5 (.int .u8)) E5)),.r 100000001 4 .bool,.r 100000002 3 (.int .i64)],lt 10 26 [.r 23,.r 24,.r 28,.r 29,.r 33,.r 34,.r 94209,.t 6],true⟩),(58,⟨[.t 6 false [.int .i64],.b 5 [.own 36864,.own 36865,.int .i64,.int .i64,.own 36868,.own 36869,.own 100000000,.own 100000001,.nil,.nil,.own 100000002],.r 36864 9 .str,.r 36865 9 .str,.r 36868 109 (.pair .str (.pair (.int .i64) (.pair (.rs 5 (.int .u8)) .bool))),.r 36869 130 A9,.r 100000000 79 (.pair .str (.pair (.rs 5 (.int .u8)) E5)),.r 100000001 4 .bool,.r 100000002 3 (.int .i64)],lt 10 26 [.r 23,.r 24,.r 28,.r 29,.r 33,.r 34,.r 94209],false⟩)]
abbrev A34:List PK:= [.val false (.int .i64) false,.val false (.rs 79 B2) false]
abbrev A35:List RK:= [.val true (.pair (.pair (.pair A2X (.pair (.int .i64) (.pair (.int .i64) (.sl 109 (.pair .str (.pair (.int .i64) (.pair (.rs 5 (.int .u8)) .bool))))))) (.sl 130 A9)) (.pair (.sl 79 (.pair .str (.pair (.rs 5 (.int .u8)) E5))) (.pair (.sl 4 .bool) (.pair (.sl 113 (.pair (.int .i64) (.pair U1 (.rs 5 (.int .u8))))) (.pair (.sl 130 A9) (.sl 3 (.int .i64)))))))]
def A36(f:A7J):Nat×Fn:=(140,⟨A34,A35,fun x=>f x.1 x.2.1⟩)
def B09:Fn:=(A36 A4S).2
theorem B0A(f_s_WorldOk:A93)(f_s_l17Copy:V2)(f_s_ServerNew:A5z):∀ x,(C5 B4U [C2I f_s_WorldOk,A9Y f_s_l17Copy,A2T f_s_ServerNew] B08 41 [.cell 4 38] (Tryz.f140.body.getD .skip) A34 A35).fn x=B27 f_s_WorldOk f_s_l17Copy f_s_ServerNew x.1 x.2.1:=by intro x;kernel_rfl
theorem B0B:B3 Tryz.prog 140 B09:=sm MO A09 (tc Tryz.call70 D31 (tc Tryz.call193 B4j (tc Tryz.call216 A8a A6))) Tryz.func140 (by kernel_rfl) (by decide) (B0A Y4 M0 A2g)
def B9Q:Nat→Option Jn:=B5 [(31,⟨[.t 9 false [.int .i64],.b 8 [.int .i64,.int .i64],.b 10 [.own 100000000,.own 100000001,.int .i64,.int .i64,.ro 109 kUp],.r 100000000 9 .str,.r 100000001 9 .str],lt 19 51 [.r 114688,.r 114689,.r 167936,.r 167937,.r 237568,.r 237569,.r 274432,.r 274433,.t 13,.t 14],false⟩)]
abbrev A9Z:List PK:= [.val true (.pair (.pair (.rs 9 .str) (.rs 9 .str)) (.pair (.int .i64) (.pair (.int .i64) (.rs 109 kUp)))) false,.val true U1 false,.val false (.rs 5 (.int .u8)) false]
abbrev A9a:List RK:= [.val true (.pair (.pair (.rs 9 .str) (.rs 9 .str)) (.pair (.int .i64) (.pair (.int .i64) (.rs 109 kUp)))),.val true E5]
def A9b(f:A1I):Nat×Fn:=(92,⟨A9Z,A9a,fun x=>f x.1 x.2.1 x.2.2.1⟩)
def B9R:Fn:=(A9b T3).2
theorem B9S(f_s_MakeUp_r99_0:A2F)(f_s_PutUp_r99_0:A3L)(f_s_DoneUp_r99_0:A2G)(f_s_DropUp_r99_0:A2H)(f_s_l15Looks:A7B)(f_s_l15Bad:B21):∀ x,(C5 cfg [B0p f_s_MakeUp_r99_0,B2w f_s_PutUp_r99_0,B0s f_s_DoneUp_r99_0,B0v f_s_DropUp_r99_0,B9D f_s_l15Looks,C5p f_s_l15Bad] B9Q 80 [.cell 6 29,.cell 7 126] (Tryz.f92.body.getD .skip) A9Z A9a).fn x=A4T f_s_MakeUp_r99_0 f_s_PutUp_r99_0 f_s_DoneUp_r99_0 f_s_DropUp_r99_0 f_s_l15Looks f_s_l15Bad x.1 x.2.1 x.2.2.1:=by intro x;kernel_rfl
theorem B9T:B3 Tryz.prog 92 B9R:=sm MO B1 (tc Tryz.call162 C0i (tc Tryz.call163 C2f (tc Tryz.call164 C0m (tc Tryz.call165 C0q (tc Tryz.call166 C9t (tc Tryz.call167 D5B A6)))))) Tryz.func92 (by kernel_rfl) (by decide) (B9S A0B A0t A0C A0D A4N A7y)
def C63:Nat→Option Jn:=B5 [(3,⟨[],lt 8 18 [],false⟩)]
abbrev B4n:List PK:= [.ptr (.pair (.pair (.pair (.pair (.rs 9 .str) (.rs 9 .str)) (.pair (.int .i64) (.pair (.int .i64) (.rs 109 (.pair .str (.pair (.int .i64) (.pair (.rs 5 (.int .u8)) .bool))))))) (.sl 130 A9)) (.pair (.sl 79 (.pair .str (.pair (.rs 5 (.int .u8)) E5))) (.pair (.sl 4 .bool) (.pair (.sl 113 (.pair (.int .i64) (.pair U1 (.rs 5 (.int .u8))))) (.pair (.sl 130 A9) (.sl 3 (.int .i64))))))),.val false (.int .i64) false]
abbrev B4o:List RK:= [.val false .bool]
def B4p(f:A4U):Nat×Fn:=(195,⟨B4n,B4o,fun x=>f x.1 x.2.1⟩)
def C64:Fn:=(B4p W4).2
theorem C65(f_s_l15Does_r99_0:A1I)(f_s_l1In:E3):∀ x,(C5 B4U [A9b f_s_l15Does_r99_0,Q8 f_s_l1In] C63 85 [.tmp 4] (Tryz.f195.body.getD .skip) B4n B4o).fn x=A4V f_s_l15Does_r99_0 f_s_l1In x.1 x.2.1:=by intro x;kernel_rfl
theorem C66:B3 Tryz.prog 195 C64:=sm MO A09 (tc Tryz.call92 B9T (tc Tryz.call120 S9 A6)) Tryz.func195 (by kernel_rfl) (by decide) (C65 T3 E1)
abbrev B6b:List PK:= [.ptr (.pair (.pair (.pair (.pair (.rs 9 .str) (.rs 9 .str)) (.pair (.int .i64) (.pair (.int .i64) (.rs 109 (.pair .str (.pair (.int .i64) (.pair (.rs 5 (.int .u8)) .bool))))))) (.sl 130 A9)) (.pair (.sl 79 (.pair .str (.pair (.rs 5 (.int .u8)) E5))) (.pair (.sl 4 .bool) (.pair (.sl 113 (.pair (.int .i64) (.pair U1 (.rs 5 (.int .u8))))) (.pair (.sl 130 A9) (.sl 3 (.int .i64)))))))]
abbrev B6c:List RK:= [.val false .bool]
def B6d(f:A8x):Nat×Fn:=(196,⟨B6b,B6c,fun x=>f x.1⟩)
def C7I:Fn:=(B6d A1m).2
theorem C7J(f_s_FlushDisk:A5v):∀ x,(C5 B4U [B6R f_s_FlushDisk] (B5 []) 46 [.tmp 2] (Tryz.f196.body.getD .skip) B6b B6c).fn x=A8y f_s_FlushDisk x.1:=by intro x;kernel_rfl
theorem C7K:B3 Tryz.prog 196 C7I:=sm MO A09 (tc Tryz.call252 C76 A6) Tryz.func196 (by kernel_rfl) (by decide) (C7J A2c)
def C7L:Nat→Option Jn:=B5 [(501,⟨[.b 1000 [.ro 9 .str,.ro 9 .str,.int .i64,.int .i64,.ro 109 (.pair .str (.pair (.int .i64) (.pair (.rs 5 (.int .u8)) .bool))),.own 1005,.own 1006,.own 1007,.own 1008,.own 38,.own 1010],.r 38 130 A9,.r 1005 130 A9,.r 1006 79 (.pair .str (.pair (.rs 5 (.int .u8)) E5)),.r 1007 4 .bool,.r 1008 113 (.pair (.int .i64) (.pair U1 (.rs 5 (.int .u8)))),.r 1010 3 (.int .i64)],lt 56 28 [.x 62,.x 78,.x 83],true⟩)]
abbrev B6e:List PK:= [.ptr (.pair (.pair (.pair (.pair (.rs 9 .str) (.rs 9 .str)) (.pair (.int .i64) (.pair (.int .i64) (.rs 109 (.pair .str (.pair (.int .i64) (.pair (.rs 5 (.int .u8)) .bool))))))) (.sl 130 A9)) (.pair (.sl 79 (.pair .str (.pair (.rs 5 (.int .u8)) E5))) (.pair (.sl 4 .bool) (.pair (.sl 113 (.pair (.int .i64) (.pair U1 (.rs 5 (.int .u8))))) (.pair (.sl 130 A9) (.sl 3 (.int .i64))))))),.val false (.int .i64) false]
abbrev B6f:List RK:= [.val false .bool]
def B6g(f:A60):Nat×Fn:=(197,⟨B6e,B6f,fun x=>f x.1 x.2.1⟩)
def C7M:Fn:=(B6g Z6).2
theorem C7N(f_s_l1In:E3)(f_s_l17Over:A3o)(f_s_l17Hear:A90):∀ x,(C5 B4U [Q8 f_s_l1In,B4i f_s_l17Over,A9X f_s_l17Hear] C7L 106 [.tmp 4] (Tryz.f197.body.getD .skip) B6e B6f).fn x=A61 f_s_l1In f_s_l17Over f_s_l17Hear x.1 x.2.1:=by intro x;kernel_rfl
theorem C7O:B3 Tryz.prog 197 C7M:=sm MO A09 (tc Tryz.call120 S9 (tc Tryz.call253 C27 (tc Tryz.call254 B9G A6))) Tryz.func197 (by kernel_rfl) (by decide) (C7N E1 A1n A6M)
def D06:Nat→Option Jn:=B5 [(15,⟨[.t 5 false [.own 100000000],.r 100000000 113 (.pair (.int .i64) (.pair U1 (.rs 5 (.int .u8))))],lt 17 29 [.r 16,.r 44,.r 45,.t 6,.x 31,.x 42],true⟩),(122,⟨[.t 5 false [.own 100000000],.t 6 false [.int .i64],.r 100000000 113 (.pair (.int .i64) (.pair U1 (.rs 5 (.int .u8))))],lt 17 29 [.r 16,.r 44,.r 45,.x 31,.x 42],false⟩)]
abbrev B9U:List PK:= [.ptr (.pair (.pair (.pair (.pair (.rs 9 .str) (.rs 9 .str)) (.pair (.int .i64) (.pair (.int .i64) (.rs 109 (.pair .str (.pair (.int .i64) (.pair (.rs 5 (.int .u8)) .bool))))))) (.sl 130 A9)) (.pair (.sl 79 (.pair .str (.pair (.rs 5 (.int .u8)) E5))) (.pair (.sl 4 .bool) (.pair (.sl 113 (.pair (.int .i64) (.pair U1 (.rs 5 (.int .u8))))) (.pair (.sl 130 A9) (.sl 3 (.int .i64))))))),.val false (.int .i64) false]
abbrev B9V:List RK:= [.val false .bool]
def B9W(f:A7K):Nat×Fn:=(198,⟨B9U,B9V,fun x=>f x.1 x.2.1⟩)
def D07:Fn:=(B9W A0k).2
theorem D08(f_s_l1In:E3)(f_s_l18Others:A5w)(f_s_CutOff:A3a):∀ x,(C5 B4U [Q8 f_s_l1In,B6U f_s_l18Others,B7q f_s_CutOff] D06 90 [.tmp 4] (Tryz.f198.body.getD .skip) B9U B9V).fn x=A7L f_s_l1In f_s_l18Others f_s_CutOff x.1 x.2.1:=by intro x;kernel_rfl
theorem D09:B3 Tryz.prog 198 D07:=sm MO A09 (tc Tryz.call120 S9 (tc Tryz.call255 C7A (tc Tryz.call256 C5s A6))) Tryz.func198 (by kernel_rfl) (by decide) (D08 E1 A2d A0h)
def C67:Nat→Option Jn:=B5 [(1018,⟨[.t 7 false [.int .i64],.b 1000 [.own 73728,.own 73729,.int .i64,.int .i64,.ro 109 kUp,.nil,.own 1006,.own 1007,.own 28,.own 32,.own 1010],.r 28 113 (.pair (.int .i64) (.pair U1 (.rs 5 (.int .u8)))),.r 32 130 A9,.r 1006 79 (.pair .str (.pair (.rs 5 (.int .u8)) E5)),.r 1007 4 .bool,.r 1010 3 (.int .i64),.r 73728 9 .str,.r 73729 9 .str],lt 35 29 [.r 233473,.x 54,.x 57,.x 63],false⟩)]
abbrev B4q:List PK:= [.ptr (.pair (.pair (.pair (.pair (.rs 9 .str) (.rs 9 .str)) (.pair (.int .i64) (.pair (.int .i64) (.rs 109 (.pair .str (.pair (.int .i64) (.pair (.rs 5 (.int .u8)) .bool))))))) (.sl 130 A9)) (.pair (.sl 79 (.pair .str (.pair (.rs 5 (.int .u8)) E5))) (.pair (.sl 4 .bool) (.pair (.sl 113 (.pair (.int .i64) (.pair U1 (.rs 5 (.int .u8))))) (.pair (.sl 130 A9) (.sl 3 (.int .i64))))))),.val false (.rs 4 .bool) false]
abbrev B4r:List RK:= [.val false .bool]
def B4s(f:A4W):Nat×Fn:=(199,⟨B4q,B4r,fun x=>f x.1 x.2.1⟩)
def C68:Fn:=(B4s W5).2
theorem C69(f_s_CutOff:A3a)(f_s_OpenStore_r99_0:A07)(f_s_FallDisk:A7D):∀ x,(C5 B4U [B7q f_s_CutOff,A73 f_s_OpenStore_r99_0,B9M f_s_FallDisk] C67 64 [.tmp 4] (Tryz.f199.body.getD .skip) B4q B4r).fn x=A4X f_s_CutOff f_s_OpenStore_r99_0 f_s_FallDisk x.1 x.2.1:=by intro x;kernel_rfl
theorem C6A:B3 Tryz.prog 199 C68:=sm MO A09 (tc Tryz.call256 C5s (tc Tryz.call257 B5z (tc Tryz.call258 D01 A6))) Tryz.func199 (by kernel_rfl) (by decide) (C69 A0h D9 A0i)
abbrev C2M:List PK:= [.ptr (.pair (.pair (.pair (.pair (.rs 9 .str) (.rs 9 .str)) (.pair (.int .i64) (.pair (.int .i64) (.rs 109 (.pair .str (.pair (.int .i64) (.pair (.rs 5 (.int .u8)) .bool))))))) (.sl 130 A9)) (.pair (.sl 79 (.pair .str (.pair (.rs 5 (.int .u8)) E5))) (.pair (.sl 4 .bool) (.pair (.sl 113 (.pair (.int .i64) (.pair U1 (.rs 5 (.int .u8))))) (.pair (.sl 130 A9) (.sl 3 (.int .i64))))))),.val true (.pair (.int .i64) (.pair (.int .i64) (.rs 4 .bool))) false]
abbrev C2N:List RK:= [.val false .bool]
def B4t(f:A0V):Nat×Fn:=(111,⟨C2M,C2N,fun x=>f x.1 x.2.1⟩)
def D36:Fn:=(B4t S7).2
theorem D37(f_s_l18Send_W:A5x)(f_s_l18Serve_W:A4U)(f_s_l18Sync:A8x)(f_s_l18Tell_W:A60)(f_s_l18Cut_W:A7K)(f_s_l18Crash_W:A4W):∀ x,(C5 B4U [B6X f_s_l18Send_W,B4p f_s_l18Serve_W,B6d f_s_l18Sync,B6g f_s_l18Tell_W,B9W f_s_l18Cut_W,B4s f_s_l18Crash_W] (B5 []) 41 [.tmp 4] (Tryz.f111.body.getD .skip) C2M C2N).fn x=A96 f_s_l18Send_W f_s_l18Serve_W f_s_l18Sync f_s_l18Tell_W f_s_l18Cut_W f_s_l18Crash_W x.1 x.2.1:=by intro x;kernel_rfl
theorem C2O:B3 Tryz.prog 111 D36:=sm MO A09 (tc Tryz.call194 C7E (tc Tryz.call195 C66 (tc Tryz.call196 C7K (tc Tryz.call197 C7O (tc Tryz.call198 D09 (tc Tryz.call199 C6A A6)))))) Tryz.func111 (by kernel_rfl) (by decide) (D37 Z3 W4 A1m Z6 A0k W5)
abbrev C6B:List PK:= [.val false (.rs 5 (.int .u8)) false,.val false (.int .i64) false]
abbrev C6C:List RK:= [.val false (.int .i64)]
def C6D(f:B28):Nat×Fn:=(69,⟨C6B,C6C,fun x=>f x.1 x.2.1⟩)
def D5K:Fn:=(C6D A81).2
theorem D5L:∀ x,(C5 cfg [] (B5 []) 15 [.tmp 4] (Tryz.f69.body.getD .skip) C6B C6C).fn x=B7S x.1 x.2.1:=by intro x;kernel_rfl
theorem D5M:B3 Tryz.prog 69 D5K:=sm MO B1 A6 Tryz.func69 (by kernel_rfl) (by decide) (D5L)
abbrev A40:List PK:= [.val true (.pair (.pair (.rs 9 .str) (.rs 9 .str)) (.pair (.int .i64) (.pair (.int .i64) (.rs 109 kUp)))) false]
abbrev A41:List RK:= [.val true (.pair A2X (.pair (.int .i64) (.pair (.int .i64) (.sl 109 (.pair .str (.pair (.int .i64) (.pair (.rs 5 (.int .u8)) .bool)))))))]
def A42(f:O1):Nat×Fn:=(157,⟨A40,A41,fun x=>f x.1⟩)
def B0z:Fn:=(A42 L9).2
theorem B10(f_s_l12Copy:Y1)(f_s_l14CopyUps:M4):∀ x,(C5 B4U [A6d f_s_l12Copy,W9 f_s_l14CopyUps] (B5 []) 14 [.cell 2 29] (Tryz.f157.body.getD .skip) A40 A41).fn x=A8u f_s_l12Copy f_s_l14CopyUps x.1:=by intro x;kernel_rfl
theorem B11:B3 Tryz.prog 157 B0z:=sm MO A09 (tc Tryz.call229 A9Q (tc Tryz.call230 A24 A6)) Tryz.func157 (by kernel_rfl) (by decide) (B10 V0 L0)
abbrev A43:List PK:= [.val true (.pair (.pair (.pair (.rs 9 .str) (.rs 9 .str)) (.pair (.int .i64) (.pair (.int .i64) (.rs 109 kUp)))) (.rs 130 A9)) false]
abbrev A44:List RK:= [.val true (.pair (.pair A2X (.pair (.int .i64) (.pair (.int .i64) (.sl 109 (.pair .str (.pair (.int .i64) (.pair (.rs 5 (.int .u8)) .bool))))))) (.sl 130 A9))]
def A45(f:A97):Nat×Fn:=(89,⟨A43,A44,fun x=>f x.1⟩)
def B12:Fn:=(A45 A6O).2
theorem B13(f_s_l14Copy:O1):∀ x,(C5 B4U [A42 f_s_l14Copy] (B5 []) 11 [.cell 2 32] (Tryz.f89.body.getD .skip) A43 A44).fn x=B48 f_s_l14Copy x.1:=by intro x;kernel_rfl
theorem B14:B3 Tryz.prog 89 B12:=sm MO A09 (tc Tryz.call157 B11 A6) Tryz.func89 (by kernel_rfl) (by decide) (B13 L9)
def B15:Nat→Option Jn:=B5 [(7,⟨[.b 3 [.own 40960,.own 40961,.int .i64,.int .i64,.own 40964,.own 40965,.own 100000000,.own 13,.nil,.own 17,.own 21],.r 13 4 .bool,.r 17 130 A9,.r 21 3 (.int .i64),.r 40960 9 .str,.r 40961 9 .str,.r 40964 109 (.pair .str (.pair (.int .i64) (.pair (.rs 5 (.int .u8)) .bool))),.r 40965 130 A9,.r 100000000 79 (.pair .str (.pair (.rs 5 (.int .u8)) E5))],lt 23 18 [.r 38,.r 39,.r 155649,.t 4],true⟩),(58,⟨[.t 4 false [.int .i64],.b 3 [.own 40960,.own 40961,.int .i64,.int .i64,.own 40964,.own 40965,.own 100000000,.own 13,.nil,.own 17,.own 21],.r 13 4 .bool,.r 17 130 A9,.r 21 3 (.int .i64),.r 40960 9 .str,.r 40961 9 .str,.r 40964 109 (.pair .str (.pair (.int .i64) (.pair (.rs 5 (.int .u8)) .bool))),.r 40965 130 A9,.r 100000000 79 (.pair .str (.pair (.rs 5 (.int .u8)) E5))],lt 23 18 [.r 38,.r 39,.r 155649],false⟩),(122,⟨[.t 5 false [.int .i64],.b 3 [.own 40960,.own 40961,.int .i64,.int .i64,.own 40964,.own 40965,.own 100000000,.own 13,.own 100002001,.own 17,.own 21],.r 13 4 .bool,.r 17 130 A9,.r 21 3 (.int .i64),.r 40960 9 .str,.r 40961 9 .str,.r 40964 109 (.pair .str (.pair (.int .i64) (.pair (.rs 5 (.int .u8)) .bool))),.r 40965 130 A9,.r 100000000 79 (.pair .str (.pair (.rs 5 (.int .u8)) E5)),.r 100002001 113 (.pair (.int .i64) (.pair U1 (.rs 5 (.int .u8))))],lt 41 23 [.b 6,.r 53,.r 56,.r 61,.r 62,.t 6],false⟩)]
abbrev A46:List PK:= [.val true (.pair (.pair (.pair (.pair (.rs 9 .str) (.rs 9 .str)) (.pair (.int .i64) (.pair (.int .i64) (.rs 109 kUp)))) (.rs 130 A9)) (.pair (.rs 79 B2) (.pair (.rs 4 .bool) (.pair (.rs 113 F0) (.pair (.rs 130 A9) (.rs 3 (.int .i64))))))) false]
abbrev A47:List RK:= [.val true (.pair (.pair (.pair A2X (.pair (.int .i64) (.pair (.int .i64) (.sl 109 (.pair .str (.pair (.int .i64) (.pair (.rs 5 (.int .u8)) .bool))))))) (.sl 130 A9)) (.pair (.sl 79 (.pair .str (.pair (.rs 5 (.int .u8)) E5))) (.pair (.sl 4 .bool) (.pair (.sl 113 (.pair (.int .i64) (.pair U1 (.rs 5 (.int .u8))))) (.pair (.sl 130 A9) (.sl 3 (.int .i64)))))))]
def A48(f:A98):Nat×Fn:=(109,⟨A46,A47,fun x=>f x.1⟩)
def B16:Fn:=(A48 A6P).2
theorem B17(f_s_l15Copy:A97)(f_s_l17Copy:V2):∀ x,(C5 B4U [A45 f_s_l15Copy,A9Y f_s_l17Copy] B15 65 [.cell 2 38] (Tryz.f109.body.getD .skip) A46 A47).fn x=B49 f_s_l15Copy f_s_l17Copy x.1:=by intro x;kernel_rfl
theorem B18:B3 Tryz.prog 109 B16:=sm MO A09 (tc Tryz.call89 B14 (tc Tryz.call193 B4j A6)) Tryz.func109 (by kernel_rfl) (by decide) (B17 A6O M0)
abbrev A14:List PK:= [.val false (.rs 9 .str) false]
abbrev A15:List RK:= [.val false (.sl 9 .str)]
def U0(f:G9):Nat×Fn:=(275,⟨A14,A15,fun x=>f x.1⟩)
def A6t:Fn:=(U0 F9).2
theorem A6u:∀ x,(C5 cfg [] (B5 []) 8 [.tmp 2] (Tryz.f275.body.getD .skip) A14 A15).fn x=T9 x.1:=by intro x;kernel_rfl
theorem A16:B3 Tryz.prog 275 A6t:=sm MO B1 A6 Tryz.func275 (by kernel_rfl) (by decide) (A6u)
abbrev B9X:List PK:= [.val true (.pair (.rs 9 .str) (.rs 9 .str)) false]
abbrev B9Y:List RK:= [.val true A2X]
def A7S(f:Y5):Nat×Fn:=(221,⟨B9X,B9Y,fun x=>f x.1⟩)
def D0A:Fn:=(A7S U5).2
theorem D0B(f_slices_Clone_string_string:G9):∀ x,(C5 cfg [U0 f_slices_Clone_string_string] (B5 []) 10 [.cell 2 26] (Tryz.f221.body.getD .skip) B9X B9Y).fn x=B29 f_slices_Clone_string_string x.1:=by intro x;kernel_rfl
theorem B2c:B3 Tryz.prog 221 D0A:=sm MO B1 (tc Tryz.call275 A16 A6) Tryz.func221 (by kernel_rfl) (by decide) (D0B F9)
def C7P:Nat→Option Jn:=B5 [(58,⟨[.t 17 false [.int .i64],.b 3 [.own 36864,.own 36865,.int .i64,.int .i64,.own 100000000],.r 36864 9 .str,.r 36865 9 .str,.r 100000000 109 kUp],lt 18 11 [.b 5,.r 25,.r 26,.r 102402,.t 5],false⟩)]
abbrev B6h:List PK:= [.val true (.pair (.pair (.rs 9 .str) (.rs 9 .str)) (.pair (.int .i64) (.pair (.int .i64) (.rs 109 kUp)))) false]
abbrev B6i:List RK:= [.val true A7k]
def B6j(f:A63):Nat×Fn:=(154,⟨B6h,B6i,fun x=>f x.1⟩)
def C7Q:Fn:=(B6j A2i).2
theorem C7R(f_i_copyUp:A1a)(f_i_copyDisk:Y5):∀ x,(C5 cfg [B7f f_i_copyUp,A7S f_i_copyDisk] C7P 30 [.cell 2 29] (Tryz.f154.body.getD .skip) B6h B6i).fn x=A9u f_i_copyUp f_i_copyDisk x.1:=by intro x;kernel_rfl
theorem C7S:B3 Tryz.prog 154 C7Q:=sm MO B1 (tc Tryz.call144 C50 (tc Tryz.call221 B2c A6)) Tryz.func154 (by kernel_rfl) (by decide) (C7R T7 U5)
abbrev X0:List PK:= [.val false (.rs 130 A9) false]
abbrev X1:List RK:= [.val false (.sl 130 A9)]
def N7(f:F4):Nat×Fn:=(155,⟨X0,X1,fun x=>f x.1⟩)
def A3f:Fn:=(N7 D8).2
theorem A3g:∀ x,(C5 cfg [] (B5 []) 8 [.tmp 2] (Tryz.f155.body.getD .skip) X0 X1).fn x=N6 x.1:=by intro x;kernel_rfl
theorem X2:B3 Tryz.prog 155 A3f:=sm MO B1 A6 Tryz.func155 (by kernel_rfl) (by decide) (A3g)
abbrev B4u:List PK:= [.val true (.pair (.pair (.pair (.rs 9 .str) (.rs 9 .str)) (.pair (.int .i64) (.pair (.int .i64) (.rs 109 kUp)))) (.rs 130 A9)) false]
abbrev B4v:List RK:= [.val true A5o]
def B4w(f:A4Y):Nat×Fn:=(87,⟨B4u,B4v,fun x=>f x.1⟩)
def C6E:Fn:=(B4w A1q).2
theorem C6F(f_i_copyStore:A63)(f_slices_Clone_impl_Held_impl_Held:F4):∀ x,(C5 cfg [B6j f_i_copyStore,N7 f_slices_Clone_impl_Held_impl_Held] (B5 []) 10 [.cell 2 32] (Tryz.f87.body.getD .skip) B4u B4v).fn x=A82 f_i_copyStore f_slices_Clone_impl_Held_impl_Held x.1:=by intro x;kernel_rfl
theorem C6G:B3 Tryz.prog 87 C6E:=sm MO B1 (tc Tryz.call154 C7S (tc Tryz.call155 X2 A6)) Tryz.func87 (by kernel_rfl) (by decide) (C6F A2i D8)
abbrev A37:List PK:= [.val false (.rs 4 .bool) false]
abbrev A38:List RK:= [.val false (.sl 4 .bool)]
def A39(f:R8):Nat×Fn:=(188,⟨A37,A38,fun x=>f x.1⟩)
def B0C:Fn:=(A39 M6).2
theorem B0D:∀ x,(C5 cfg [] (B5 []) 8 [.tmp 2] (Tryz.f188.body.getD .skip) A37 A38).fn x=Z7 x.1:=by intro x;kernel_rfl
theorem B0E:B3 Tryz.prog 188 B0C:=sm MO B1 A6 Tryz.func188 (by kernel_rfl) (by decide) (B0D)
abbrev A4p:List PK:= [.val false (.rs 3 (.int .i64)) false]
abbrev A4q:List RK:= [.val false (.sl 3 (.int .i64))]
def A4r(f:U6):Nat×Fn:=(189,⟨A4p,A4q,fun x=>f x.1⟩)
def B2d:Fn:=(A4r O8).2
theorem B2e:∀ x,(C5 cfg [] (B5 []) 8 [.tmp 2] (Tryz.f189.body.getD .skip) A4p A4q).fn x=A0l x.1:=by intro x;kernel_rfl
theorem B2f:B3 Tryz.prog 189 B2d:=sm MO B1 A6 Tryz.func189 (by kernel_rfl) (by decide) (B2e)
end
end Go.Proofs.YtpdcljonclhhpaaGreat.Ev
