/- Each function of the program does what its plain function says. -/
import Derived.Test.YtpdcljonclhhpaaGreatG3
set_option linter.unusedVariables false
set_option maxRecDepth 100000
namespace Go.Proofs.YtpdcljonclhhpaaGreat.Ev
noncomputable section
def D90:Nat→Option Jn:=B3 [(3,⟨[],lt 9 10 [],false⟩),(31,⟨[],lt 27 33 [],false⟩),(506,⟨[.t 6 false [.int .i64]],lt 62 26 [.b 7,.r 319493,.t 7,.t 8],false⟩)]
abbrev C50:List PK:= [.val true (.pair (.pair (.rs 9 .str) (.rs 9 .str)) (.pair (.int .i64) (.pair (.int .i64) (.rs 109 kUp)))) false]
abbrev C51:List RK:= [.val false .bool]
def A3U(f:O6):Nat×Fn:=(159,⟨C50,C51,fun x=>f x.1⟩)
def D91:Fn:=(A3U F8).2
theorem D92(f_s_l1In:F0)(f_s_DiskOk:B2d)(f_s_ScanRecs:A7E)(f_s_FoldRecs_r99_0:A0A)(f_s_l14SameUps:A49)(f_s_GetRec:A1I):∀ x,(B9 cfg [Q4 f_s_l1In,D03 f_s_DiskOk,C1h f_s_ScanRecs,A8b f_s_FoldRecs_r99_0,B67 f_s_l14SameUps,B9p f_s_GetRec] D90 88 [.tmp 2] (Tryz.f159.body.getD .skip) C50 C51).fn x=A9C f_s_l1In f_s_DiskOk f_s_ScanRecs f_s_FoldRecs_r99_0 f_s_l14SameUps f_s_GetRec x.1:=by intro x;kernel_rfl
theorem A6R:B1 Tryz.prog 159 D91:=sm MO A7 (tc Tryz.call120 R5 (tc Tryz.call231 E29 (tc Tryz.call232 D5o (tc Tryz.call233 B9t (tc Tryz.call234 D0M (tc Tryz.call235 D0F A5)))))) Tryz.func159 (by kernel_rfl) (by decide) (D92 E4 A1H A1j T6 A1J N8)
def D5p:Nat→Option Jn:=B3 [(3,⟨[],lt 3 16 [],false⟩),(26,⟨[.t 3 false [.int .i64]],lt 4 15 [],false⟩)]
abbrev C1i:List PK:= [.val true (.pair (.pair (.pair (.rs 9 .str) (.rs 9 .str)) (.pair (.int .i64) (.pair (.int .i64) (.rs 109 kUp)))) (.rs 130 A9)) false]
abbrev C1j:List RK:= [.val false .bool]
def C1k(f:A7F):Nat×Fn:=(90,⟨C1i,C1j,fun x=>f x.1⟩)
def D5q:Fn:=(C1k A4A).2
theorem D5r(f_s_RespOk:A1G)(f_s_StoreOk:O6):∀ x,(B9 cfg [B9n f_s_RespOk,A3U f_s_StoreOk] D5p 28 [.tmp 2] (Tryz.f90.body.getD .skip) C1i C1j).fn x=B2h f_s_RespOk f_s_StoreOk x.1:=by intro x;kernel_rfl
theorem D5s:B1 Tryz.prog 90 D5q:=sm MO A7 (tc Tryz.call158 D00 (tc Tryz.call159 A6R A5)) Tryz.func90 (by kernel_rfl) (by decide) (D5r T5 F8)
abbrev C52:List PK:= [.val false (.int .i64) false]
abbrev C53:List RK:= [.val false (.int .i64)]
def C54(f:A9D):Nat×Fn:=(161,⟨C52,C53,fun x=>f x.1⟩)
def D93:Fn:=(C54 A9E).2
theorem D94:∀ x,(B9 cfg [] (B3 []) 9 [.tmp 2] (Tryz.f161.body.getD .skip) C52 C53).fn x=B4y x.1:=by intro x;kernel_rfl
theorem D95:B1 Tryz.prog 161 D93:=sm MO A7 A5 Tryz.func161 (by kernel_rfl) (by decide) (D94)
def E5C:Nat→Option Jn:=B3 [(3,⟨[],lt 4 10 [],false⟩)]
abbrev D3n:List PK:= [.val true N3 false]
abbrev D3o:List RK:= [.val false .bool]
def D3p(f:B10):Nat×Fn:=(91,⟨D3n,D3o,fun x=>f x.1⟩)
def E5D:Fn:=(D3p A50).2
theorem E5E(f_s_l1In:F0)(f_s_l11Id:O2)(f_s_l11Most:A9D):∀ x,(B9 cfg [Q4 f_s_l1In,A3Q f_s_l11Id,C54 f_s_l11Most] E5C 26 [.tmp 2] (Tryz.f91.body.getD .skip) D3n D3o).fn x=C2M f_s_l1In f_s_l11Id f_s_l11Most x.1:=by intro x;kernel_rfl
theorem E5F:B1 Tryz.prog 91 E5D:=sm MO A7 (tc Tryz.call120 R5 (tc Tryz.call160 A5B (tc Tryz.call161 D95 A5))) Tryz.func91 (by kernel_rfl) (by decide) (E5E E4 M7 A9E)
abbrev C1l:List PK:= [.val true (.pair .str (.pair (.rs 5 (.int .u8)) E8)) false]
abbrev C1m:List RK:= [.val false .bool]
def B3B(f:A0B):Nat×Fn:=(215,⟨C1l,C1m,fun x=>f x.1⟩)
def D5t:Fn:=(B3B I8).2
theorem D5u(f_s_l1In:F0)(f_s_l11Id:O2):∀ x,(B9 cfg [Q4 f_s_l1In,A3Q f_s_l11Id] (B3 []) 25 [.tmp 2] (Tryz.f215.body.getD .skip) C1l C1m).fn x=B2i f_s_l1In f_s_l11Id x.1:=by intro x;kernel_rfl
theorem C1n:B1 Tryz.prog 215 D5t:=sm MO A7 (tc Tryz.call120 R5 (tc Tryz.call160 A5B A5)) Tryz.func215 (by kernel_rfl) (by decide) (D5u E4 M7)
def D0N:Nat→Option Jn:=B3 [(7,⟨[],lt 9 30 [.t 4,.t 5],false⟩),(58,⟨[.t 4 false [.int .i64]],lt 9 30 [.t 5],false⟩),(7462,⟨[.t 5 false [.int .i64]],lt 21 18 [],false⟩)]
abbrev B68:List PK:= [.val true (.pair (.pair (.pair (.pair (.rs 9 .str) (.rs 9 .str)) (.pair (.int .i64) (.pair (.int .i64) (.rs 109 kUp)))) (.rs 130 A9)) (.pair (.rs 79 B2) (.pair (.rs 4 .bool) (.pair (.rs 113 B8) (.pair (.rs 130 A9) (.rs 3 (.int .i64))))))) false]
abbrev B69:List RK:= [.val false .bool]
def B6A(f:A4B):Nat×Fn:=(141,⟨B68,B69,fun x=>f x.1⟩)
def D0O:Fn:=(B6A T7).2
theorem D0P(f_s_ClientOk:A0B):∀ x,(B9 cfg [B3B f_s_ClientOk] D0N 55 [.tmp 2] (Tryz.f141.body.getD .skip) B68 B69).fn x=A4C f_s_ClientOk x.1:=by intro x;kernel_rfl
theorem D0Q:B1 Tryz.prog 141 D0O:=sm MO A7 (tc Tryz.call215 C1n A5) Tryz.func141 (by kernel_rfl) (by decide) (D0P I8)
def E2N:Nat→Option Jn:=B3 [(26,⟨[.t 5 false [.int .i64]],lt 6 26 [],false⟩)]
abbrev D0R:List PK:= [.val true (.pair (.pair (.pair (.pair (.rs 9 .str) (.rs 9 .str)) (.pair (.int .i64) (.pair (.int .i64) (.rs 109 kUp)))) (.rs 130 A9)) (.pair (.rs 79 B2) (.pair (.rs 4 .bool) (.pair (.rs 113 B8) (.pair (.rs 130 A9) (.rs 3 (.int .i64))))))) false,.val false (.rs 130 A9) false]
abbrev D0S:List RK:= [.val false .bool]
def D0T(f:B2k):Nat×Fn:=(142,⟨D0R,D0S,fun x=>f x.1 x.2.1⟩)
def E2O:Fn:=(D0T A8E).2
theorem E2P(f_s_l1In:F0)(f_s_RespOk:A1G):∀ x,(B9 cfg [Q4 f_s_l1In,B9n f_s_RespOk] E2N 32 [.tmp 4] (Tryz.f142.body.getD .skip) D0R D0S).fn x=B9S f_s_l1In f_s_RespOk x.1 x.2.1:=by intro x;kernel_rfl
theorem E2Q:B1 Tryz.prog 142 E2O:=sm MO A7 (tc Tryz.call120 R5 (tc Tryz.call158 D00 A5)) Tryz.func142 (by kernel_rfl) (by decide) (E2P E4 T5)
def D96:Nat→Option Jn:=B3 [(3,⟨[],lt 4 36 [],false⟩),(58,⟨[.t 3 false [.int .i64]],lt 40 29 [],false⟩)]
abbrev C55:List PK:= [.val true (.pair (.pair (.pair (.pair (.rs 9 .str) (.rs 9 .str)) (.pair (.int .i64) (.pair (.int .i64) (.rs 109 kUp)))) (.rs 130 A9)) (.pair (.rs 79 B2) (.pair (.rs 4 .bool) (.pair (.rs 113 B8) (.pair (.rs 130 A9) (.rs 3 (.int .i64))))))) false]
abbrev C56:List RK:= [.val false .bool]
def C57(f:A9F):Nat×Fn:=(70,⟨C55,C56,fun x=>f x.1⟩)
def D97:Fn:=(C57 Z2).2
theorem D98(f_s_ServerOk:A7F)(f_s_ReqOk:B10)(f_s_l1In:F0)(f_s_l18Clients:A4B)(f_s_l18Who:B2k):∀ x,(B9 cfg [C1k f_s_ServerOk,D3p f_s_ReqOk,Q4 f_s_l1In,B6A f_s_l18Clients,D0T f_s_l18Who] D96 69 [.tmp 2] (Tryz.f70.body.getD .skip) C55 C56).fn x=A9G f_s_ServerOk f_s_ReqOk f_s_l1In f_s_l18Clients f_s_l18Who x.1:=by intro x;kernel_rfl
theorem D99:B1 Tryz.prog 70 D97:=sm MO A7 (tc Tryz.call90 D5s (tc Tryz.call91 E5F (tc Tryz.call120 R5 (tc Tryz.call141 D0Q (tc Tryz.call142 E2Q A5))))) Tryz.func70 (by kernel_rfl) (by decide) (D98 A4A A50 E4 T7 A8E)
abbrev C58:List PK:= [.val true (.pair (.rs 9 .str) (.rs 9 .str)) false]
abbrev C59:List RK:= [.val true A0x]
def B6B(f:A6D):Nat×Fn:=(229,⟨C58,C59,fun x=>f x.1⟩)
def D9A:Fn:=(B6B A3K).2
theorem D9B:∀ x,(B9 cfg [] (B3 []) 12 [.cell 2 26] (Tryz.f229.body.getD .skip) C58 C59).fn x=B4z x.1:=by intro x;kernel_rfl
theorem C5A:B1 Tryz.prog 229 D9A:=sm MO A7 A5 Tryz.func229 (by kernel_rfl) (by decide) (D9B)
abbrev C5B:List PK:= [.val true (.pair (.pair (.rs 9 .str) (.rs 9 .str)) (.pair (.int .i64) (.pair (.int .i64) (.rs 109 kUp)))) false]
abbrev C5C:List RK:= [.val true A3g]
def A6S(f:N0):Nat×Fn:=(157,⟨C5B,C5C,fun x=>f x.1⟩)
def D9C:Fn:=(A6S L0).2
theorem D9D(f_s_l12Copy:A6D)(f_s_l14CopyUps:L8):∀ x,(B9 cfg [B6B f_s_l12Copy,A8V f_s_l14CopyUps] (B3 []) 14 [.cell 2 29] (Tryz.f157.body.getD .skip) C5B C5C).fn x=A9H f_s_l12Copy f_s_l14CopyUps x.1:=by intro x;kernel_rfl
theorem A9i:B1 Tryz.prog 157 D9C:=sm MO A7 (tc Tryz.call229 C5A (tc Tryz.call230 B64 A5)) Tryz.func157 (by kernel_rfl) (by decide) (D9D A3K K2)
abbrev C5D:List PK:= [.val true (.pair .str (.pair (.rs 5 (.int .u8)) E8)) false]
abbrev C5E:List RK:= [.val true B2]
def C5F(f:A6F):Nat×Fn:=(193,⟨C5D,C5E,fun x=>f x.1⟩)
def D9E:Fn:=(C5F A1K).2
theorem D9F:∀ x,(B9 cfg [] (B3 []) 9 [.cell 2 79] (Tryz.f193.body.getD .skip) C5D C5E).fn x=B51 x.1:=by intro x;kernel_rfl
theorem D9G:B1 Tryz.prog 193 D9E:=sm MO A7 A5 Tryz.func193 (by kernel_rfl) (by decide) (D9F)
def D9H:Nat→Option Jn:=B3 [(128503,⟨[.t 7 false [.int .i64]],lt 40 8 [],true⟩)]
abbrev C5G:List PK:= [.val true (.pair .str (.pair (.rs 5 (.int .u8)) E8)) false]
abbrev C5H:List RK:= [.val true N3,.val false (.sl 5 (.int .u8)),.val false .bool]
def C5I(f:A9K):Nat×Fn:=(251,⟨C5G,C5H,fun x=>f x.1⟩)
def D9I:Fn:=(C5I A6H).2
theorem D9J(f_s_Crc:A9A)(f_s_ClientOk:A0B):∀ x,(B9 cfg [C6g f_s_Crc,B3B f_s_ClientOk] D9H 65 [.cell 2 43,.tmp 3,.tmp 4] (Tryz.f251.body.getD .skip) C5G C5H).fn x=B53 f_s_Crc f_s_ClientOk x.1:=by intro x;kernel_rfl
theorem D9K:B1 Tryz.prog 251 D9I:=sm MO A7 (tc Tryz.call152 D5k (tc Tryz.call215 C1n A5)) Tryz.func251 (by kernel_rfl) (by decide) (D9J A7D I8)
abbrev C5J:List PK:= [.val true (.pair (.pair (.rs 9 .str) (.rs 9 .str)) (.pair (.int .i64) (.pair (.int .i64) (.rs 109 kUp)))) false]
abbrev C5K:List RK:= [.val false (.int .i64)]
def A6T(f:S6):Nat×Fn:=(236,⟨C5J,C5K,fun x=>f x.1⟩)
def D9L:Fn:=(A6T Q3).2
theorem D9M:∀ x,(B9 cfg [] (B3 []) 10 [.tmp 2] (Tryz.f236.body.getD .skip) C5J C5K).fn x=B54 x.1:=by intro x;kernel_rfl
theorem A9j:B1 Tryz.prog 236 D9L:=sm MO A7 A5 Tryz.func236 (by kernel_rfl) (by decide) (D9M)
abbrev A9k:List PK:= [.ptr (.pair A0x (.pair (.int .i64) (.pair (.int .i64) (.rs 109 kUp)))),.val true (.pair (.int .i64) (.pair (.int .i64) (.pair (.int .i64) (.pair .str (.pair (.int .i64) (.rs 5 (.int .u8))))))) false]
abbrev A9l:List RK:= []
def W6(f:G4):Nat×Fn:=(237,⟨A9k,A9l,fun x=>f x.1 x.2.1⟩)
def C1o:Fn:=(W6 F3).2
theorem C1p(f_s_l14One_r99_0:P5)(f_s_l13Put:A4x):∀ x,(B9 cfg [A5D f_s_l14One_r99_0,B9o f_s_l13Put] (B3 []) 46 [] (Tryz.f237.body.getD .skip) A9k A9l).fn x=A4D f_s_l14One_r99_0 f_s_l13Put x.1 x.2.1:=by intro x;kernel_rfl
theorem A0l:B1 Tryz.prog 237 C1o:=sm MO A7 (tc Tryz.call281 B1S (tc Tryz.call284 D0C A5)) Tryz.func237 (by kernel_rfl) (by decide) (C1p M9 A34)
abbrev D9N:List PK:= [.val true (.pair (.pair (.rs 9 .str) (.rs 9 .str)) (.pair (.int .i64) (.pair (.int .i64) (.rs 109 kUp)))) false,.val false .str false]
abbrev D9O:List RK:= [.val true kUp,.val false .bool]
def D0U(f:B11):Nat×Fn:=(113,⟨D9N,D9O,fun x=>f x.1 x.2.1⟩)
def E7M:Fn:=(D0U A8F).2
theorem E7N(f_s_l14At:Q5):∀ x,(B9 cfg [A5C f_s_l14At] (B3 []) 26 [.cell 4 109,.tmp 5] (Tryz.f113.body.getD .skip) D9N D9O).fn x=C7T f_s_l14At x.1 x.2.1:=by intro x;kernel_rfl
theorem D9P:B1 Tryz.prog 113 E7M:=sm MO A7 (tc Tryz.call206 A7S A5) Tryz.func113 (by kernel_rfl) (by decide) (E7N O3)
abbrev C1q:List PK:= [.val true (.pair (.pair (.rs 9 .str) (.rs 9 .str)) (.pair (.int .i64) (.pair (.int .i64) (.rs 109 kUp)))) false,.val true N3 false]
abbrev C1r:List RK:= [.val true E8]
def C1s(f:A7G):Nat×Fn:=(166,⟨C1q,C1r,fun x=>f x.1 x.2.1⟩)
def D5v:Fn:=(C1s A4E).2
theorem D5w(f_s_UpAt:B11):∀ x,(B9 cfg [D0U f_s_UpAt] (B3 []) 35 [.cell 4 126] (Tryz.f166.body.getD .skip) C1q C1r).fn x=B2l f_s_UpAt x.1 x.2.1:=by intro x;kernel_rfl
theorem D5x:B1 Tryz.prog 166 D5v:=sm MO A7 (tc Tryz.call113 D9P A5) Tryz.func166 (by kernel_rfl) (by decide) (D5w A8F)
def E2R:Nat→Option Jn:=B3 [(235,⟨[.t 19 false [.bool]],[.t 20,.t 21],true⟩)]
abbrev D0V:List PK:= [.val true (.pair (.pair (.rs 9 .str) (.rs 9 .str)) (.pair (.int .i64) (.pair (.int .i64) (.rs 109 kUp)))) false,.val false .str false,.val false (.int .i64) false]
abbrev D0W:List RK:= [.val true E8]
def D0X(f:B2m):Nat×Fn:=(167,⟨D0V,D0W,fun x=>f x.1 x.2.1 x.2.2.1⟩)
def E2S:Fn:=(D0X A8G).2
theorem E2T(f_s_UpAt:B11):∀ x,(B9 cfg [D0U f_s_UpAt] E2R 33 [.cell 6 126] (Tryz.f167.body.getD .skip) D0V D0W).fn x=B9T f_s_UpAt x.1 x.2.1 x.2.2.1:=by intro x;kernel_rfl
theorem E2U:B1 Tryz.prog 167 E2S:=sm MO A7 (tc Tryz.call113 D9P A5) Tryz.func167 (by kernel_rfl) (by decide) (E2T A8F)
def C34:Nat→Option Jn:=B3 [(7,⟨[],lt 33 10 (lt 26 6 (lt 11 14 [])),false⟩),(28,⟨[.t 11 false [.bool]],lt 12 13 [],true⟩)]
abbrev B1T:List PK:= [.val true (.pair (.pair (.rs 9 .str) (.rs 9 .str)) (.pair (.int .i64) (.pair (.int .i64) (.rs 109 kUp)))) false,.val false .str false,.val false (.int .i64) false]
abbrev B1U:List RK:= [.val true (.pair A0x (.pair (.int .i64) (.pair (.int .i64) (.rs 109 kUp)))),.val false (.int .i64)]
def B1V(f:A1l):Nat×Fn:=(162,⟨B1T,B1U,fun x=>f x.1 x.2.1 x.2.2.1⟩)
def C35:Fn:=(B1V Y3).2
theorem C36(f_s_l1In:F0)(f_s_l14Copy:N0)(f_s_StoreOk:O6)(f_s_l11Id:O2)(f_s_l14At:Q5)(f_s_l14Left:S6)(f_s_l14Write_r0_4:G4):∀ x,(B9 cfg [Q4 f_s_l1In,A6S f_s_l14Copy,A3U f_s_StoreOk,A3Q f_s_l11Id,A5C f_s_l14At,A6T f_s_l14Left,W6 f_s_l14Write_r0_4] C34 49 [.cell 6 29,.tmp 7] (Tryz.f162.body.getD .skip) B1T B1U).fn x=A51 f_s_l1In f_s_l14Copy f_s_StoreOk f_s_l11Id f_s_l14At f_s_l14Left f_s_l14Write_r0_4 x.1 x.2.1 x.2.2.1:=by intro x;kernel_rfl
theorem C37:B1 Tryz.prog 162 C35:=sm MO A7 (tc Tryz.call120 R5 (tc Tryz.call157 A9i (tc Tryz.call159 A6R (tc Tryz.call160 A5B (tc Tryz.call206 A7S (tc Tryz.call236 A9j (tc Tryz.call237 A0l A5))))))) Tryz.func162 (by kernel_rfl) (by decide) (C36 E4 L0 F8 M7 O3 Q3 F3)
def C6H:Nat→Option Jn:=B3 [(7,⟨[],lt 17 14 [],false⟩),(127,⟨[],lt 64 9 (lt 44 19 []),false⟩),(255,⟨[.b 10 [.own 100003000,.own 100003001,.int .i64,.int .i64,.ro 109 kUp],.r 100003000 9 .str,.r 100003001 9 .str],lt 74 26 [.r 92,.r 97,.r 69632,.r 69633,.r 69636,.r 411648,.r 411649,.t 13,.t 14,.t 16],true⟩),(508,⟨[.t 44 false [.bool]],lt 45 18 [],true⟩),(2042,⟨[.t 13 false [.int .i64],.b 10 [.own 100003000,.own 100003001,.int .i64,.int .i64,.ro 109 kUp],.r 100003000 9 .str,.r 100003001 9 .str],lt 74 26 [.r 92,.r 97,.r 69632,.r 69633,.r 69636,.r 411648,.r 411649,.t 14,.t 16],false⟩),(65353,⟨[.t 14 false [.int .i64]],lt 82 6 [],true⟩)]
abbrev B3t:List PK:= [.val true (.pair (.pair (.rs 9 .str) (.rs 9 .str)) (.pair (.int .i64) (.pair (.int .i64) (.rs 109 kUp)))) false,.val false .str false,.val false (.int .i64) false,.val false (.rs 5 (.int .u8)) false]
abbrev B3u:List RK:= [.val true (.pair A0x (.pair (.int .i64) (.pair (.int .i64) (.rs 109 kUp)))),.val false (.int .i64)]
def B3v(f:A2w):Nat×Fn:=(163,⟨B3t,B3u,fun x=>f x.1 x.2.1 x.2.2.1 x.2.2.2.1⟩)
def C6I:Fn:=(B3v A0I).2
theorem C6J(f_s_l1In:F0)(f_s_l14Copy:N0)(f_s_StoreOk:O6)(f_s_l11Id:O2)(f_s_l14At:Q5)(f_s_l14Left:S6)(f_s_l14Write_r0_4:G4):∀ x,(B9 cfg [Q4 f_s_l1In,A6S f_s_l14Copy,A3U f_s_StoreOk,A3Q f_s_l11Id,A5C f_s_l14At,A6T f_s_l14Left,W6 f_s_l14Write_r0_4] C6H 101 [.cell 8 29,.tmp 9] (Tryz.f163.body.getD .skip) B3t B3u).fn x=A6k f_s_l1In f_s_l14Copy f_s_StoreOk f_s_l11Id f_s_l14At f_s_l14Left f_s_l14Write_r0_4 x.1 x.2.1 x.2.2.1 x.2.2.2.1:=by intro x;kernel_rfl
theorem C6K:B1 Tryz.prog 163 C6I:=sm MO A7 (tc Tryz.call120 R5 (tc Tryz.call157 A9i (tc Tryz.call159 A6R (tc Tryz.call160 A5B (tc Tryz.call206 A7S (tc Tryz.call236 A9j (tc Tryz.call237 A0l A5))))))) Tryz.func163 (by kernel_rfl) (by decide) (C6J E4 L0 F8 M7 O3 Q3 F3)
def C38:Nat→Option Jn:=B3 [(7,⟨[],lt 13 8 [],false⟩)]
abbrev B1W:List PK:= [.val true (.pair (.pair (.rs 9 .str) (.rs 9 .str)) (.pair (.int .i64) (.pair (.int .i64) (.rs 109 kUp)))) false,.val false .str false,.val false (.int .i64) false]
abbrev B1X:List RK:= [.val true (.pair A0x (.pair (.int .i64) (.pair (.int .i64) (.rs 109 kUp)))),.val false (.int .i64)]
def B1Y(f:A1m):Nat×Fn:=(164,⟨B1W,B1X,fun x=>f x.1 x.2.1 x.2.2.1⟩)
def C39:Fn:=(B1Y Y4).2
theorem C3A(f_s_Crc:A9A)(f_s_l14Copy:N0)(f_s_StoreOk:O6)(f_s_l11Id:O2)(f_s_l14At:Q5)(f_s_l14Left:S6)(f_s_l14Write_r0_4:G4):∀ x,(B9 cfg [C6g f_s_Crc,A6S f_s_l14Copy,A3U f_s_StoreOk,A3Q f_s_l11Id,A5C f_s_l14At,A6T f_s_l14Left,W6 f_s_l14Write_r0_4] C38 62 [.cell 6 29,.tmp 7] (Tryz.f164.body.getD .skip) B1W B1X).fn x=A52 f_s_Crc f_s_l14Copy f_s_StoreOk f_s_l11Id f_s_l14At f_s_l14Left f_s_l14Write_r0_4 x.1 x.2.1 x.2.2.1:=by intro x;kernel_rfl
theorem C3B:B1 Tryz.prog 164 C39:=sm MO A7 (tc Tryz.call152 D5k (tc Tryz.call157 A9i (tc Tryz.call159 A6R (tc Tryz.call160 A5B (tc Tryz.call206 A7S (tc Tryz.call236 A9j (tc Tryz.call237 A0l A5))))))) Tryz.func164 (by kernel_rfl) (by decide) (C3A A7D L0 F8 M7 O3 Q3 F3)
def C3C:Nat→Option Jn:=B3 [(7,⟨[],lt 26 4 (lt 19 6 (lt 9 9 [])),false⟩),(28,⟨[.t 9 false [.bool]],lt 10 8 [],true⟩)]
abbrev B1Z:List PK:= [.val true (.pair (.pair (.rs 9 .str) (.rs 9 .str)) (.pair (.int .i64) (.pair (.int .i64) (.rs 109 kUp)))) false,.val false .str false]
abbrev B1a:List RK:= [.val true (.pair A0x (.pair (.int .i64) (.pair (.int .i64) (.rs 109 kUp)))),.val false (.int .i64)]
def B1b(f:A1n):Nat×Fn:=(165,⟨B1Z,B1a,fun x=>f x.1 x.2.1⟩)
def C3D:Fn:=(B1b Y5).2
theorem C3E(f_s_l14Copy:N0)(f_s_StoreOk:O6)(f_s_l11Id:O2)(f_s_l14At:Q5)(f_s_l14Left:S6)(f_s_l14Write_r0_4:G4):∀ x,(B9 cfg [A6S f_s_l14Copy,A3U f_s_StoreOk,A3Q f_s_l11Id,A5C f_s_l14At,A6T f_s_l14Left,W6 f_s_l14Write_r0_4] C3C 35 [.cell 4 29,.tmp 5] (Tryz.f165.body.getD .skip) B1Z B1a).fn x=A53 f_s_l14Copy f_s_StoreOk f_s_l11Id f_s_l14At f_s_l14Left f_s_l14Write_r0_4 x.1 x.2.1:=by intro x;kernel_rfl
theorem C3F:B1 Tryz.prog 165 C3D:=sm MO A7 (tc Tryz.call157 A9i (tc Tryz.call159 A6R (tc Tryz.call160 A5B (tc Tryz.call206 A7S (tc Tryz.call236 A9j (tc Tryz.call237 A0l A5)))))) Tryz.func165 (by kernel_rfl) (by decide) (C3E L0 F8 M7 O3 Q3 F3)
abbrev B8Y:List PK:= [.val true (.pair (.rs 9 .str) (.rs 9 .str)) false]
abbrev B8Z:List RK:= [.val true A0x]
def B8a(f:A5n):Nat×Fn:=(252,⟨B8Y,B8Z,fun x=>f x.1⟩)
def D2I:Fn:=(B8a A27).2
theorem D2J:∀ x,(B9 cfg [] (B3 []) 12 [.cell 2 26] (Tryz.f252.body.getD .skip) B8Y B8Z).fn x=B0M x.1:=by intro x;kernel_rfl
theorem D2K:B1 Tryz.prog 252 D2I:=sm MO A7 A5 Tryz.func252 (by kernel_rfl) (by decide) (D2J)
abbrev C5L:List PK:= [.val true (.pair .str (.pair (.rs 5 (.int .u8)) E8)) false]
abbrev C5M:List RK:= [.val false .bool]
def C5N(f:A9M):Nat×Fn:=(253,⟨C5L,C5M,fun x=>f x.1⟩)
def D9Q:Fn:=(C5N A6I).2
theorem D9R:∀ x,(B9 cfg [] (B3 []) 11 [.tmp 2] (Tryz.f253.body.getD .skip) C5L C5M).fn x=B56 x.1:=by intro x;kernel_rfl
theorem D9S:B1 Tryz.prog 253 D9Q:=sm MO A7 A5 Tryz.func253 (by kernel_rfl) (by decide) (D9R)
abbrev C5O:List PK:= [.val false (.int .i64) false,.val false (.int .i64) false]
abbrev C5P:List RK:= [.val false (.int .i64)]
def C5Q(f:A9N):Nat×Fn:=(292,⟨C5O,C5P,fun x=>f x.1 x.2.1⟩)
def D9T:Fn:=(C5Q A6J).2
theorem D9U:∀ x,(B9 cfg [] (B3 []) 35 [.tmp 4] (Tryz.f292.body.getD .skip) C5O C5P).fn x=B57 x.1 x.2.1:=by intro x;kernel_rfl
theorem D9V:B1 Tryz.prog 292 D9T:=sm MO A7 A5 Tryz.func292 (by kernel_rfl) (by decide) (D9U)
abbrev B1c:List PK:= [.val true (.pair .str (.pair (.rs 5 (.int .u8)) E8)) false,.val false (.int .i64) false]
abbrev B1d:List RK:= [.val true (.pair .str (.pair (.rs 5 (.int .u8)) E8))]
def B1e(f:B2n):Nat×Fn:=(293,⟨B1c,B1d,fun x=>f x.1 x.2.1⟩)
def C3G:Fn:=(B1e A8H).2
theorem C3H(f_s_l1In:F0):∀ x,(B9 cfg [Q4 f_s_l1In] (B3 []) 26 [.cell 4 79] (Tryz.f293.body.getD .skip) B1c B1d).fn x=B9U f_s_l1In x.1 x.2.1:=by intro x;kernel_rfl
theorem C3I:B1 Tryz.prog 293 C3G:=sm MO A7 (tc Tryz.call120 R5 A5) Tryz.func293 (by kernel_rfl) (by decide) (C3H E4)
abbrev A9m:List PK:= [.val true (.pair .str (.pair (.rs 5 (.int .u8)) E8)) false,.val true E8 false]
abbrev A9n:List RK:= [.val true (.pair .str (.pair (.rs 5 (.int .u8)) E8))]
def A9o(f:A9O):Nat×Fn:=(254,⟨A9m,A9n,fun x=>f x.1 x.2.1⟩)
def C1t:Fn:=(A9o A6K).2
theorem C1u(f_s_l17Next:A9N)(f_s_l17Far:B2n):∀ x,(B9 cfg [C5Q f_s_l17Next,B1e f_s_l17Far] (B3 []) 20 [.cell 4 79] (Tryz.f254.body.getD .skip) A9m A9n).fn x=B58 f_s_l17Next f_s_l17Far x.1 x.2.1:=by intro x;kernel_rfl
theorem C1v:B1 Tryz.prog 254 C1t:=sm MO A7 (tc Tryz.call292 D9V (tc Tryz.call293 C3I A5)) Tryz.func254 (by kernel_rfl) (by decide) (C1u A6J A8H)
def C1w:Nat→Option Jn:=B3 [(31,⟨[.t 9 false [.int .i64],.b 8 [.int .i64,.int .i64],.b 10 [.own 100000000,.own 100000001,.int .i64,.int .i64,.ro 109 kUp],.r 100000000 9 .str,.r 100000001 9 .str],lt 19 51 [.r 114688,.r 114689,.r 167936,.r 167937,.r 237568,.r 237569,.r 274432,.r 274433,.t 13,.t 14],false⟩)]
abbrev A9p:List PK:= [.val true (.pair (.pair (.rs 9 .str) (.rs 9 .str)) (.pair (.int .i64) (.pair (.int .i64) (.rs 109 kUp)))) false,.val true N3 false,.val false (.rs 5 (.int .u8)) false]
abbrev A9q:List RK:= [.val true (.pair (.pair (.rs 9 .str) (.rs 9 .str)) (.pair (.int .i64) (.pair (.int .i64) (.rs 109 kUp)))),.val true E8]
def A9r(f:A0k):Nat×Fn:=(92,⟨A9p,A9q,fun x=>f x.1 x.2.1 x.2.2.1⟩)
def C1x:Fn:=(A9r V9).2
theorem C1y(f_s_MakeUp_r99_0:A1l)(f_s_PutUp_r99_0:A2w)(f_s_DoneUp_r99_0:A1m)(f_s_DropUp_r99_0:A1n)(f_s_l15Looks:A7G)(f_s_l15Bad:B2m):∀ x,(B9 cfg [B1V f_s_MakeUp_r99_0,B3v f_s_PutUp_r99_0,B1Y f_s_DoneUp_r99_0,B1b f_s_DropUp_r99_0,C1s f_s_l15Looks,D0X f_s_l15Bad] C1w 80 [.cell 6 29,.cell 7 126] (Tryz.f92.body.getD .skip) A9p A9q).fn x=A4F f_s_MakeUp_r99_0 f_s_PutUp_r99_0 f_s_DoneUp_r99_0 f_s_DropUp_r99_0 f_s_l15Looks f_s_l15Bad x.1 x.2.1 x.2.2.1:=by intro x;kernel_rfl
theorem C1z:B1 Tryz.prog 92 C1x:=sm MO A7 (tc Tryz.call162 C37 (tc Tryz.call163 C6K (tc Tryz.call164 C3B (tc Tryz.call165 C3F (tc Tryz.call166 D5x (tc Tryz.call167 E2U A5)))))) Tryz.func92 (by kernel_rfl) (by decide) (C1y Y3 A0I Y4 Y5 A4E A8G)
def D0Y:Nat→Option Jn:=B3 [(3,⟨[],lt 8 18 [],false⟩)]
abbrev B6C:List PK:= [.ptr (.pair (.pair (.pair (.pair (.rs 9 .str) (.rs 9 .str)) (.pair (.int .i64) (.pair (.int .i64) (.rs 109 (.pair .str (.pair (.int .i64) (.pair (.rs 5 (.int .u8)) .bool))))))) (.sl 130 A9)) (.pair (.sl 79 (.pair .str (.pair (.rs 5 (.int .u8)) E8))) (.pair (.sl 4 .bool) (.pair (.sl 113 (.pair (.int .i64) (.pair N3 (.rs 5 (.int .u8))))) (.pair (.sl 130 A9) (.sl 3 (.int .i64))))))),.val false (.int .i64) false]
abbrev B6D:List RK:= [.val false .bool]
def B6E(f:A1L):Nat×Fn:=(195,⟨B6C,B6D,fun x=>f x.1 x.2.1⟩)
def D0Z:Fn:=(B6E N9).2
theorem D0a(f_s_l15Does_r99_0:A0k)(f_s_l1In:F0):∀ x,(B9 C8D [A9r f_s_l15Does_r99_0,Q4 f_s_l1In] D0Y 85 [.tmp 4] (Tryz.f195.body.getD .skip) B6C B6D).fn x=A8I f_s_l15Does_r99_0 f_s_l1In x.1 x.2.1:=by intro x;kernel_rfl
theorem D0b:B1 Tryz.prog 195 D0Z:=sm MO A5r (tc Tryz.call92 C1z (tc Tryz.call120 R5 A5)) Tryz.func195 (by kernel_rfl) (by decide) (D0a V9 E4)
abbrev A3V:List PK:= [.val true (.pair (.pair (.rs 9 .str) (.rs 9 .str)) (.pair (.int .i64) (.pair (.int .i64) (.rs 109 kUp)))) false]
abbrev A3W:List RK:= [.val true (.pair A0x (.pair (.int .i64) (.pair (.int .i64) (.sl 109 (.pair .str (.pair (.int .i64) (.pair (.rs 5 (.int .u8)) .bool)))))))]
def A3X(f:N0):Nat×Fn:=(157,⟨A3V,A3W,fun x=>f x.1⟩)
def B1f:Fn:=(A3X L0).2
theorem B1g(f_s_l12Copy:A6D)(f_s_l14CopyUps:L8):∀ x,(B9 C8D [B6B f_s_l12Copy,U1 f_s_l14CopyUps] (B3 []) 14 [.cell 2 29] (Tryz.f157.body.getD .skip) A3V A3W).fn x=A9H f_s_l12Copy f_s_l14CopyUps x.1:=by intro x;kernel_rfl
theorem B1h:B1 Tryz.prog 157 B1f:=sm MO A5r (tc Tryz.call229 C5A (tc Tryz.call230 A1S A5)) Tryz.func157 (by kernel_rfl) (by decide) (B1g A3K K2)
abbrev A3Y:List PK:= [.val true (.pair (.pair (.pair (.rs 9 .str) (.rs 9 .str)) (.pair (.int .i64) (.pair (.int .i64) (.rs 109 kUp)))) (.rs 130 A9)) false]
abbrev A3Z:List RK:= [.val true (.pair (.pair A0x (.pair (.int .i64) (.pair (.int .i64) (.sl 109 (.pair .str (.pair (.int .i64) (.pair (.rs 5 (.int .u8)) .bool))))))) (.sl 130 A9))]
def A3a(f:A9I):Nat×Fn:=(89,⟨A3Y,A3Z,fun x=>f x.1⟩)
def B1i:Fn:=(A3a A6E).2
theorem B1j(f_s_l14Copy:N0):∀ x,(B9 C8D [A3X f_s_l14Copy] (B3 []) 11 [.cell 2 32] (Tryz.f89.body.getD .skip) A3Y A3Z).fn x=B50 f_s_l14Copy x.1:=by intro x;kernel_rfl
theorem B1k:B1 Tryz.prog 89 B1i:=sm MO A5r (tc Tryz.call157 B1h A5) Tryz.func89 (by kernel_rfl) (by decide) (B1j L0)
def B1l:Nat→Option Jn:=B3 [(7,⟨[.b 3 [.own 40960,.own 40961,.int .i64,.int .i64,.own 40964,.own 40965,.own 100000000,.own 13,.nil,.own 17,.own 21],.r 13 4 .bool,.r 17 130 A9,.r 21 3 (.int .i64),.r 40960 9 .str,.r 40961 9 .str,.r 40964 109 (.pair .str (.pair (.int .i64) (.pair (.rs 5 (.int .u8)) .bool))),.r 40965 130 A9,.r 100000000 79 (.pair .str (.pair (.rs 5 (.int .u8)) E8))],lt 23 18 [.r 38,.r 39,.r 155649,.t 4],true⟩),(58,⟨[.t 4 false [.int .i64],.b 3 [.own 40960,.own 40961,.int .i64,.int .i64,.own 40964,.own 40965,.own 100000000,.own 13,.nil,.own 17,.own 21],.r 13 4 .bool,.r 17 130 A9,.r 21 3 (.int .i64),.r 40960 9 .str,.r 40961 9 .str,.r 40964 109 (.pair .str (.pair (.int .i64) (.pair (.rs 5 (.int .u8)) .bool))),.r 40965 130 A9,.r 100000000 79 (.pair .str (.pair (.rs 5 (.int .u8)) E8))],lt 23 18 [.r 38,.r 39,.r 155649],false⟩),(122,⟨[.t 5 false [.int .i64],.b 3 [.own 40960,.own 40961,.int .i64,.int .i64,.own 40964,.own 40965,.own 100000000,.own 13,.own 100002001,.own 17,.own 21],.r 13 4 .bool,.r 17 130 A9,.r 21 3 (.int .i64),.r 40960 9 .str,.r 40961 9 .str,.r 40964 109 (.pair .str (.pair (.int .i64) (.pair (.rs 5 (.int .u8)) .bool))),.r 40965 130 A9,.r 100000000 79 (.pair .str (.pair (.rs 5 (.int .u8)) E8)),.r 100002001 113 (.pair (.int .i64) (.pair N3 (.rs 5 (.int .u8))))],lt 41 23 [.b 6,.r 53,.r 56,.r 61,.r 62,.t 6],false⟩)]
abbrev A3b:List PK:= [.val true (.pair (.pair (.pair (.pair (.rs 9 .str) (.rs 9 .str)) (.pair (.int .i64) (.pair (.int .i64) (.rs 109 kUp)))) (.rs 130 A9)) (.pair (.rs 79 B2) (.pair (.rs 4 .bool) (.pair (.rs 113 B8) (.pair (.rs 130 A9) (.rs 3 (.int .i64))))))) false]
abbrev A3c:List RK:= [.val true (.pair (.pair (.pair A0x (.pair (.int .i64) (.pair (.int .i64) (.sl 109 (.pair .str (.pair (.int .i64) (.pair (.rs 5 (.int .u8)) .bool))))))) (.sl 130 A9)) (.pair (.sl 79 (.pair .str (.pair (.rs 5 (.int .u8)) E8))) (.pair (.sl 4 .bool) (.pair (.sl 113 (.pair (.int .i64) (.pair N3 (.rs 5 (.int .u8))))) (.pair (.sl 130 A9) (.sl 3 (.int .i64)))))))]
def A3d(f:A9J):Nat×Fn:=(109,⟨A3b,A3c,fun x=>f x.1⟩)
def B1m:Fn:=(A3d A6G).2
theorem B1n(f_s_l15Copy:A9I)(f_s_l17Copy:A6F):∀ x,(B9 C8D [A3a f_s_l15Copy,C5F f_s_l17Copy] B1l 65 [.cell 2 38] (Tryz.f109.body.getD .skip) A3b A3c).fn x=B52 f_s_l15Copy f_s_l17Copy x.1:=by intro x;kernel_rfl
theorem B1o:B1 Tryz.prog 109 B1m:=sm MO A5r (tc Tryz.call89 B1k (tc Tryz.call193 D9G A5)) Tryz.func109 (by kernel_rfl) (by decide) (B1n A6E A1K)
abbrev B8b:List PK:= [.ptr (.pair (.pair (.pair (.pair (.rs 9 .str) (.rs 9 .str)) (.pair (.int .i64) (.pair (.int .i64) (.rs 109 (.pair .str (.pair (.int .i64) (.pair (.rs 5 (.int .u8)) .bool))))))) (.sl 130 A9)) (.pair (.sl 79 (.pair .str (.pair (.rs 5 (.int .u8)) E8))) (.pair (.sl 4 .bool) (.pair (.sl 113 (.pair (.int .i64) (.pair N3 (.rs 5 (.int .u8))))) (.pair (.sl 130 A9) (.sl 3 (.int .i64)))))))]
abbrev B8c:List RK:= [.val false .bool]
def B8d(f:A9L):Nat×Fn:=(196,⟨B8b,B8c,fun x=>f x.1⟩)
def D2L:Fn:=(B8d A3L).2
theorem D2M(f_s_FlushDisk:A5n):∀ x,(B9 C8D [B8a f_s_FlushDisk] (B3 []) 46 [.tmp 2] (Tryz.f196.body.getD .skip) B8b B8c).fn x=B55 f_s_FlushDisk x.1:=by intro x;kernel_rfl
theorem D2N:B1 Tryz.prog 196 D2L:=sm MO A5r (tc Tryz.call252 D2K A5) Tryz.func196 (by kernel_rfl) (by decide) (D2M A27)
def D2O:Nat→Option Jn:=B3 [(501,⟨[.b 1000 [.ro 9 .str,.ro 9 .str,.int .i64,.int .i64,.ro 109 (.pair .str (.pair (.int .i64) (.pair (.rs 5 (.int .u8)) .bool))),.own 1005,.own 1006,.own 1007,.own 1008,.own 38,.own 1010],.r 38 130 A9,.r 1005 130 A9,.r 1006 79 (.pair .str (.pair (.rs 5 (.int .u8)) E8)),.r 1007 4 .bool,.r 1008 113 (.pair (.int .i64) (.pair N3 (.rs 5 (.int .u8)))),.r 1010 3 (.int .i64)],lt 56 28 [.x 62,.x 78,.x 83],true⟩)]
abbrev B8e:List PK:= [.ptr (.pair (.pair (.pair (.pair (.rs 9 .str) (.rs 9 .str)) (.pair (.int .i64) (.pair (.int .i64) (.rs 109 (.pair .str (.pair (.int .i64) (.pair (.rs 5 (.int .u8)) .bool))))))) (.sl 130 A9)) (.pair (.sl 79 (.pair .str (.pair (.rs 5 (.int .u8)) E8))) (.pair (.sl 4 .bool) (.pair (.sl 113 (.pair (.int .i64) (.pair N3 (.rs 5 (.int .u8))))) (.pair (.sl 130 A9) (.sl 3 (.int .i64))))))),.val false (.int .i64) false]
abbrev B8f:List RK:= [.val false .bool]
def B8g(f:A28):Nat×Fn:=(197,⟨B8e,B8f,fun x=>f x.1 x.2.1⟩)
def D2P:Fn:=(B8g S7).2
theorem D2Q(f_s_l1In:F0)(f_s_l17Over:A9M)(f_s_l17Hear:A9O):∀ x,(B9 C8D [Q4 f_s_l1In,C5N f_s_l17Over,A9o f_s_l17Hear] D2O 106 [.tmp 4] (Tryz.f197.body.getD .skip) B8e B8f).fn x=B0N f_s_l1In f_s_l17Over f_s_l17Hear x.1 x.2.1:=by intro x;kernel_rfl
theorem D2R:B1 Tryz.prog 197 D2P:=sm MO A5r (tc Tryz.call120 R5 (tc Tryz.call253 D9S (tc Tryz.call254 C1v A5))) Tryz.func197 (by kernel_rfl) (by decide) (D2Q E4 A6I A6K)
def D2S:Nat→Option Jn:=B3 [(3,⟨[],lt 8 26 [.x 23],false⟩)]
abbrev B8h:List PK:= [.ptr (.pair (.pair (.pair (.pair (.rs 9 .str) (.rs 9 .str)) (.pair (.int .i64) (.pair (.int .i64) (.rs 109 (.pair .str (.pair (.int .i64) (.pair (.rs 5 (.int .u8)) .bool))))))) (.sl 130 A9)) (.pair (.sl 79 (.pair .str (.pair (.rs 5 (.int .u8)) E8))) (.pair (.sl 4 .bool) (.pair (.sl 113 (.pair (.int .i64) (.pair N3 (.rs 5 (.int .u8))))) (.pair (.sl 130 A9) (.sl 3 (.int .i64))))))),.val false (.int .i64) false]
abbrev B8i:List RK:= [.val false .bool]
def B8j(f:A29):Nat×Fn:=(194,⟨B8h,B8i,fun x=>f x.1 x.2.1⟩)
def D2T:Fn:=(B8j P9).2
theorem D2U(f_s_l1In:F0)(f_s_NextReq:A9K):∀ x,(B9 C8D [Q4 f_s_l1In,C5I f_s_NextReq] D2S 67 [.tmp 4] (Tryz.f194.body.getD .skip) B8h B8i).fn x=B0O f_s_l1In f_s_NextReq x.1 x.2.1:=by intro x;kernel_rfl
theorem D2V:B1 Tryz.prog 194 D2T:=sm MO A5r (tc Tryz.call120 R5 (tc Tryz.call251 D9K A5)) Tryz.func194 (by kernel_rfl) (by decide) (D2U E4 A6H)
def D2W:Nat→Option Jn:=B3 [(1,⟨[.b 1000 [.ro 9 .str,.ro 9 .str,.int .i64,.int .i64,.ro 109 (.pair .str (.pair (.int .i64) (.pair (.rs 5 (.int .u8)) .bool))),.own 100000000,.own 100000001,.own 100000002,.own 100000003,.own 100000004,.own 100000005],.r 100000000 130 A9,.r 100000001 79 (.pair .str (.pair (.rs 5 (.int .u8)) E8)),.r 100000002 4 .bool,.r 100000003 113 (.pair (.int .i64) (.pair N3 (.rs 5 (.int .u8)))),.r 100000004 130 A9,.r 100000005 3 (.int .i64)],lt 4 3 [.r 1005,.r 1006,.r 1007,.r 1008,.r 1009,.r 1010,.r 30725,.r 30726,.r 30727,.r 30728,.r 30729,.r 30730,.t 2],true⟩),(7,⟨[.b 1000 [.ro 9 .str,.ro 9 .str,.int .i64,.int .i64,.ro 109 (.pair .str (.pair (.int .i64) (.pair (.rs 5 (.int .u8)) .bool))),.own 100002006,.own 100002007,.own 100002008,.own 100002009,.own 100002010,.own 100002011],.r 100002006 130 A9,.r 100002007 79 (.pair .str (.pair (.rs 5 (.int .u8)) E8)),.r 100002008 4 .bool,.r 100002009 113 (.pair (.int .i64) (.pair N3 (.rs 5 (.int .u8)))),.r 100002010 130 A9,.r 100002011 3 (.int .i64)],lt 9 8 [.r 38917,.r 38918,.r 38919,.r 38920,.r 38921,.r 38922,.r 71685,.r 71686,.r 71687,.r 71688,.r 71689,.r 71690],true⟩),(10,⟨[.t 2 false [.bool],.b 1000 [.ro 9 .str,.ro 9 .str,.int .i64,.int .i64,.ro 109 (.pair .str (.pair (.int .i64) (.pair (.rs 5 (.int .u8)) .bool))),.own 100000000,.own 100000001,.own 100000002,.own 100000003,.own 100000004,.own 100000005],.r 100000000 130 A9,.r 100000001 79 (.pair .str (.pair (.rs 5 (.int .u8)) E8)),.r 100000002 4 .bool,.r 100000003 113 (.pair (.int .i64) (.pair N3 (.rs 5 (.int .u8)))),.r 100000004 130 A9,.r 100000005 3 (.int .i64)],lt 4 3 [.r 1005,.r 1006,.r 1007,.r 1008,.r 1009,.r 1010,.r 30725,.r 30726,.r 30727,.r 30728,.r 30729,.r 30730],false⟩),(28,⟨[.b 1000 [.ro 9 .str,.ro 9 .str,.int .i64,.int .i64,.ro 109 (.pair .str (.pair (.int .i64) (.pair (.rs 5 (.int .u8)) .bool))),.own 100002006,.own 100002007,.own 100002008,.own 100002009,.own 100002010,.own 100002011],.r 100002006 130 A9,.r 100002007 79 (.pair .str (.pair (.rs 5 (.int .u8)) E8)),.r 100002008 4 .bool,.r 100002009 113 (.pair (.int .i64) (.pair N3 (.rs 5 (.int .u8)))),.r 100002010 130 A9,.r 100002011 3 (.int .i64)],lt 9 8 [.r 38917,.r 38918,.r 38919,.r 38920,.r 38921,.r 38922,.r 71685,.r 71686,.r 71687,.r 71688,.r 71689,.r 71690],false⟩),(62,⟨[.t 3 false [.int .i64],.b 1000 [.ro 9 .str,.ro 9 .str,.int .i64,.int .i64,.ro 109 (.pair .str (.pair (.int .i64) (.pair (.rs 5 (.int .u8)) .bool))),.own 100004012,.own 100004013,.own 100004014,.own 100004015,.own 100004016,.own 100004017],.r 100004012 130 A9,.r 100004013 79 (.pair .str (.pair (.rs 5 (.int .u8)) E8)),.r 100004014 4 .bool,.r 100004015 113 (.pair (.int .i64) (.pair N3 (.rs 5 (.int .u8)))),.r 100004016 130 A9,.r 100004017 3 (.int .i64)],lt 17 12 [.r 120837,.r 120838,.r 120839,.r 120840,.r 120841,.r 120842,.r 100002006,.r 100002007,.r 100002008,.r 100002009,.r 100002010,.r 100002011],false⟩)]
abbrev B8k:List PK:= [.ptr (.pair (.pair (.pair (.pair (.rs 9 .str) (.rs 9 .str)) (.pair (.int .i64) (.pair (.int .i64) (.rs 109 (.pair .str (.pair (.int .i64) (.pair (.rs 5 (.int .u8)) .bool))))))) (.sl 130 A9)) (.pair (.sl 79 (.pair .str (.pair (.rs 5 (.int .u8)) E8))) (.pair (.sl 4 .bool) (.pair (.sl 113 (.pair (.int .i64) (.pair N3 (.rs 5 (.int .u8))))) (.pair (.sl 130 A9) (.sl 3 (.int .i64)))))))]
abbrev B8l:List RK:= []
def B8m(f:A5o):Nat×Fn:=(121,⟨B8k,B8l,fun x=>f x.1⟩)
def D2X:Fn:=(B8m A2A).2
theorem D2Y(f_s_l18Send_W:A29)(f_s_l18Serve_W:A1L)(f_s_l18Sync:A9L)(f_s_l18Tell_W:A28):∀ x,(B9 C8D [B8j f_s_l18Send_W,B6E f_s_l18Serve_W,B8d f_s_l18Sync,B8g f_s_l18Tell_W] D2W 29 [] (Tryz.f121.body.getD .skip) B8k B8l).fn x=B0P f_s_l18Send_W f_s_l18Serve_W f_s_l18Sync f_s_l18Tell_W x.1:=by intro x;kernel_rfl
theorem D2Z:B1 Tryz.prog 121 D2X:=sm MO A5r (tc Tryz.call194 D2V (tc Tryz.call195 D0b (tc Tryz.call196 D2N (tc Tryz.call197 D2R A5)))) Tryz.func121 (by kernel_rfl) (by decide) (D2Y P9 N9 A3L S7)
abbrev B3w:List PK:= [.val true (.pair (.pair (.pair (.pair (.rs 9 .str) (.rs 9 .str)) (.pair (.int .i64) (.pair (.int .i64) (.rs 109 kUp)))) (.rs 130 A9)) (.pair (.rs 79 B2) (.pair (.rs 4 .bool) (.pair (.rs 113 B8) (.pair (.rs 130 A9) (.rs 3 (.int .i64))))))) false]
abbrev B3x:List RK:= [.val true (.pair (.pair (.pair (.pair (.rs 9 .str) (.rs 9 .str)) (.pair (.int .i64) (.pair (.int .i64) (.rs 109 kUp)))) (.sl 130 A9)) (.pair (.sl 79 (.pair .str (.pair (.rs 5 (.int .u8)) E8))) (.pair (.sl 4 .bool) (.pair (.sl 113 (.pair (.int .i64) (.pair N3 (.rs 5 (.int .u8))))) (.pair (.sl 130 A9) (.sl 3 (.int .i64)))))))]
def B3y(f:A2x):Nat×Fn:=(57,⟨B3w,B3x,fun x=>f x.1⟩)
def C6L:Fn:=(B3y A0L).2
theorem C6M(f_s_WorldOk:A9F)(f_s_l18Copy:A9J)(f_s_l20Half_W:A5o):∀ x,(B9 cfg [C57 f_s_WorldOk,A3d f_s_l18Copy,B8m f_s_l20Half_W] (B3 []) 11 [.cell 2 38] (Tryz.f57.body.getD .skip) B3w B3x).fn x=A6l f_s_WorldOk f_s_l18Copy f_s_l20Half_W x.1:=by intro x;kernel_rfl
theorem C6N:B1 Tryz.prog 57 C6L:=sm MO A7 (tc Tryz.call70 D99 (tc Tryz.call109 B1o (tc Tryz.call121 D2Z A5))) Tryz.func57 (by kernel_rfl) (by decide) (C6M Z2 A6G A2A)
def C3J:Nat→Option Jn:=B3 [(4095,⟨[],lt 35 8 [],false⟩)]
abbrev A1p:List PK:= [.val true (.pair (.pair (.pair (.pair (.rs 9 .str) (.rs 9 .str)) (.pair (.int .i64) (.pair (.int .i64) (.rs 248 kUp)))) (.rs 203 A9)) (.pair (.rs 218 B2) (.pair (.rs 4 .bool) (.pair (.rs 221 B8) (.pair (.rs 203 A9) (.rs 3 (.int .i64))))))) false]
abbrev B1p:List RK:= [.val false .bool]
def C3K(f:B12):Nat×Fn:=(12,⟨A1p,B1p,fun x=>f x.1⟩)
def F_w_FnExactRound:Fn:=(C3K A55).2
theorem C3L(f_i_Round:B6V)(f_w_szWorld:A8w)(f_w_toWorld:A90)(f_w_eqWorld:A94)(f_w_markWorld:A5e)(f_w_heldWorld:A5l)(f_s_Round_r99_0:A2x):∀ x,(B9 cfg [D3N f_i_Round,C4L f_w_szWorld,C4c f_w_toWorld,C4t f_w_eqWorld,B8G f_w_markWorld,B8X f_w_heldWorld,B3y f_s_Round_r99_0] C3J 69 [.tmp 2] (Tryz.f12.body.getD .skip) A1p B1p).fn x=A54 f_i_Round f_w_szWorld f_w_toWorld f_w_eqWorld f_w_markWorld f_w_heldWorld f_s_Round_r99_0 x.1:=by intro x;kernel_rfl
theorem C3M:B1 Tryz.prog 12 F_w_FnExactRound:=sm MO A7 (tc Tryz.call47 E4g (tc Tryz.call51 D85 (tc Tryz.call53 D8S (tc Tryz.call54 D8p (tc Tryz.call55 D1x (tc Tryz.call56 D2H (tc Tryz.call57 C6N A5))))))) Tryz.func12 (by kernel_rfl) (by decide) (C3L B0r A64 A68 A6C A23 A25 A0L)
end
end Go.Proofs.YtpdcljonclhhpaaGreat.Ev
