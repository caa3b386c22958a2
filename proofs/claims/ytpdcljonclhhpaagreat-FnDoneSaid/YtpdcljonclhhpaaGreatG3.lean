/- Each function of the program does what its plain function says. -/
import Derived.Test.YtpdcljonclhhpaaGreatG2
set_option linter.unusedVariables false
set_option maxRecDepth 100000
namespace Go.Proofs.YtpdcljonclhhpaaGreat.Ev
noncomputable section
def C6q:Nat->Option Jn:=B4 [(7,⟨[],lt 33 10 (lt 26 6 (lt 11 14 [])),false⟩),(28,⟨[.t 11 false [.bool]],lt 12 13 [],true⟩)]
abbrev B53:List PK:= [.val true (.pair (.pair (.rs 9 .str) (.rs 9 .str)) (.pair (.int .i64) (.pair (.int .i64) (.rs 109 kUp)))) false,.val false .str false,.val false (.int .i64) false]
abbrev B54:List RK:= [.val true (.pair A0C (.pair (.int .i64) (.pair (.int .i64) (.sl 109 (.pair .str (.pair (.int .i64) (.pair (.rs 5 (.int .u8)) .bool))))))),.val false (.int .i64)]
def A4j(f:S1):Nat×Fn:=(162,⟨B53,B54,fun x=>f x.1 x.2.1 x.2.2.1⟩)
def C6r:Fn:=(A4j O6).2
theorem C6s(f_s_l1In:F4)(f_s_l14Copy:M1)(f_s_StoreOk:P5)(f_s_l11Id:U2)(f_s_l14At:A0K)(f_s_l14Left:A0o)(f_s_l14Write_r96_0:H3):∀ x,(C4 A4i [A00 f_s_l1In,K0 f_s_l14Copy,A4H f_s_StoreOk,A6T f_s_l11Id,A92 f_s_l14At,B01 f_s_l14Left,A17 f_s_l14Write_r96_0] C6q 49 [.cell 6 29,.tmp 7] (Tryz.f162.body.getD .skip) B53 B54).fn x=A8k f_s_l1In f_s_l14Copy f_s_StoreOk f_s_l11Id f_s_l14At f_s_l14Left f_s_l14Write_r96_0 x.1 x.2.1 x.2.2.1:=by intro x;kernel_rfl
theorem A93:B1 Tryz.prog 162 C6r:=sm MO J7 (tc Tryz.call120 A0J (tc Tryz.call157 N3 (tc Tryz.call159 A6a (tc Tryz.call160 A91 (tc Tryz.call206 B1N (tc Tryz.call236 B3S (tc Tryz.call237 A2k A7))))))) Tryz.func162 (by kernel_rfl) (by decide) (C6s E6 K6 E7 R8 U3 A0G F5)
def C9I:Nat->Option Jn:=B4 [(7,⟨[],lt 17 14 [],false⟩),(127,⟨[],lt 64 9 (lt 44 19 []),false⟩),(255,⟨[.b 10 [.own 100003000,.own 100003001,.int .i64,.int .i64,.own 100003002],.r 100003000 9 .str,.r 100003001 9 .str,.r 100003002 109 (.pair .str (.pair (.int .i64) (.pair (.rs 5 (.int .u8)) .bool)))],lt 74 26 [.r 92,.r 97,.r 69632,.r 69633,.r 69636,.r 411648,.r 411649,.r 411652,.t 13,.t 14],true⟩),(508,⟨[.t 44 false [.bool]],lt 45 18 [],true⟩),(2042,⟨[.t 13 false [.int .i64],.b 10 [.own 100003000,.own 100003001,.int .i64,.int .i64,.own 100003002],.r 100003000 9 .str,.r 100003001 9 .str,.r 100003002 109 (.pair .str (.pair (.int .i64) (.pair (.rs 5 (.int .u8)) .bool)))],lt 74 26 [.r 92,.r 97,.r 69632,.r 69633,.r 69636,.r 411648,.r 411649,.r 411652,.t 14],false⟩),(65353,⟨[.t 14 false [.int .i64]],lt 82 6 [],true⟩)]
abbrev B7n:List PK:= [.val true (.pair (.pair (.rs 9 .str) (.rs 9 .str)) (.pair (.int .i64) (.pair (.int .i64) (.rs 109 kUp)))) false,.val false .str false,.val false (.int .i64) false,.val false (.rs 5 (.int .u8)) false]
abbrev B7o:List RK:= [.val true (.pair A0C (.pair (.int .i64) (.pair (.int .i64) (.sl 109 (.pair .str (.pair (.int .i64) (.pair (.rs 5 (.int .u8)) .bool))))))),.val false (.int .i64)]
def A5t(f:U8):Nat×Fn:=(163,⟨B7n,B7o,fun x=>f x.1 x.2.1 x.2.2.1 x.2.2.2.1⟩)
def C9J:Fn:=(A5t Q8).2
theorem C9K(f_s_l1In:F4)(f_s_l14Copy:M1)(f_s_StoreOk:P5)(f_s_l11Id:U2)(f_s_l14At:A0K)(f_s_l14Left:A0o)(f_s_l14Write_r96_0:H3):∀ x,(C4 A4i [A00 f_s_l1In,K0 f_s_l14Copy,A4H f_s_StoreOk,A6T f_s_l11Id,A92 f_s_l14At,B01 f_s_l14Left,A17 f_s_l14Write_r96_0] C9I 101 [.cell 8 29,.tmp 9] (Tryz.f163.body.getD .skip) B7n B7o).fn x=B0G f_s_l1In f_s_l14Copy f_s_StoreOk f_s_l11Id f_s_l14At f_s_l14Left f_s_l14Write_r96_0 x.1 x.2.1 x.2.2.1 x.2.2.2.1:=by intro x;kernel_rfl
theorem B0P:B1 Tryz.prog 163 C9J:=sm MO J7 (tc Tryz.call120 A0J (tc Tryz.call157 N3 (tc Tryz.call159 A6a (tc Tryz.call160 A91 (tc Tryz.call206 B1N (tc Tryz.call236 B3S (tc Tryz.call237 A2k A7))))))) Tryz.func163 (by kernel_rfl) (by decide) (C9K E6 K6 E7 R8 U3 A0G F5)
def C6t:Nat->Option Jn:=B4 [(7,⟨[],lt 13 8 [],false⟩)]
abbrev B55:List PK:= [.val true (.pair (.pair (.rs 9 .str) (.rs 9 .str)) (.pair (.int .i64) (.pair (.int .i64) (.rs 109 kUp)))) false,.val false .str false,.val false (.int .i64) false]
abbrev B56:List RK:= [.val true (.pair A0C (.pair (.int .i64) (.pair (.int .i64) (.sl 109 (.pair .str (.pair (.int .i64) (.pair (.rs 5 (.int .u8)) .bool))))))),.val false (.int .i64)]
def A4k(f:S2):Nat×Fn:=(164,⟨B55,B56,fun x=>f x.1 x.2.1 x.2.2.1⟩)
def C6u:Fn:=(A4k O7).2
theorem C6v(f_s_Crc:A5p)(f_s_l14Copy:M1)(f_s_StoreOk:P5)(f_s_l11Id:U2)(f_s_l14At:A0K)(f_s_l14Left:A0o)(f_s_l14Write_r96_0:H3):∀ x,(C4 A4i [C1K f_s_Crc,K0 f_s_l14Copy,A4H f_s_StoreOk,A6T f_s_l11Id,A92 f_s_l14At,B01 f_s_l14Left,A17 f_s_l14Write_r96_0] C6t 62 [.cell 6 29,.tmp 7] (Tryz.f164.body.getD .skip) B55 B56).fn x=A8l f_s_Crc f_s_l14Copy f_s_StoreOk f_s_l11Id f_s_l14At f_s_l14Left f_s_l14Write_r96_0 x.1 x.2.1 x.2.2.1:=by intro x;kernel_rfl
theorem A94:B1 Tryz.prog 164 C6u:=sm MO J7 (tc Tryz.call152 C5A (tc Tryz.call157 N3 (tc Tryz.call159 A6a (tc Tryz.call160 A91 (tc Tryz.call206 B1N (tc Tryz.call236 B3S (tc Tryz.call237 A2k A7))))))) Tryz.func164 (by kernel_rfl) (by decide) (C6v A4b K6 E7 R8 U3 A0G F5)
def C6w:Nat->Option Jn:=B4 [(7,⟨[],lt 26 4 (lt 19 6 (lt 9 9 [])),false⟩),(28,⟨[.t 9 false [.bool]],lt 10 8 [],true⟩)]
abbrev B57:List PK:= [.val true (.pair (.pair (.rs 9 .str) (.rs 9 .str)) (.pair (.int .i64) (.pair (.int .i64) (.rs 109 kUp)))) false,.val false .str false]
abbrev B58:List RK:= [.val true (.pair A0C (.pair (.int .i64) (.pair (.int .i64) (.sl 109 (.pair .str (.pair (.int .i64) (.pair (.rs 5 (.int .u8)) .bool))))))),.val false (.int .i64)]
def A4l(f:S3):Nat×Fn:=(165,⟨B57,B58,fun x=>f x.1 x.2.1⟩)
def C70:Fn:=(A4l O8).2
theorem C71(f_s_l14Copy:M1)(f_s_StoreOk:P5)(f_s_l11Id:U2)(f_s_l14At:A0K)(f_s_l14Left:A0o)(f_s_l14Write_r96_0:H3):∀ x,(C4 A4i [K0 f_s_l14Copy,A4H f_s_StoreOk,A6T f_s_l11Id,A92 f_s_l14At,B01 f_s_l14Left,A17 f_s_l14Write_r96_0] C6w 35 [.cell 4 29,.tmp 5] (Tryz.f165.body.getD .skip) B57 B58).fn x=A8m f_s_l14Copy f_s_StoreOk f_s_l11Id f_s_l14At f_s_l14Left f_s_l14Write_r96_0 x.1 x.2.1:=by intro x;kernel_rfl
theorem A95:B1 Tryz.prog 165 C70:=sm MO J7 (tc Tryz.call157 N3 (tc Tryz.call159 A6a (tc Tryz.call160 A91 (tc Tryz.call206 B1N (tc Tryz.call236 B3S (tc Tryz.call237 A2k A7)))))) Tryz.func165 (by kernel_rfl) (by decide) (C71 K6 E7 R8 U3 A0G F5)
abbrev C2H:List PK:= [.val true (.pair (.rs 9 .str) (.rs 9 .str)) false]
abbrev C2I:List RK:= [.val true A0C]
def B47(f:A3B):Nat×Fn:=(252,⟨C2H,C2I,fun x=>f x.1⟩)
def D4I:Fn:=(B47 A1b).2
theorem D4J:∀ x,(C4 cfg [] (B4 []) 12 [.cell 2 26] (Tryz.f252.body.getD .skip) C2H C2I).fn x=B3t x.1:=by intro x;kernel_rfl
theorem C2J:B1 Tryz.prog 252 D4I:=sm MO B2 A7 Tryz.func252 (by kernel_rfl) (by decide) (D4J)
abbrev C8I:List PK:= [.val true (.pair .str (.pair (.rs 5 (.int .u8)) D8)) false]
abbrev C8J:List RK:= [.val false .bool]
def C0I(f:A6L):Nat×Fn:=(253,⟨C8I,C8J,fun x=>f x.1⟩)
def D9k:Fn:=(C0I A41).2
theorem D9l:∀ x,(C4 cfg [] (B4 []) 11 [.tmp 2] (Tryz.f253.body.getD .skip) C8I C8J).fn x=B96 x.1:=by intro x;kernel_rfl
theorem C8K:B1 Tryz.prog 253 D9k:=sm MO B2 A7 Tryz.func253 (by kernel_rfl) (by decide) (D9l)
abbrev C8L:List PK:= [.val false (.int .i64) false,.val false (.int .i64) false]
abbrev C8M:List RK:= [.val false (.int .i64)]
def C8N(f:B30):Nat×Fn:=(292,⟨C8L,C8M,fun x=>f x.1 x.2.1⟩)
def D9m:Fn:=(C8N A9h).2
theorem D9n:∀ x,(C4 cfg [] (B4 []) 35 [.tmp 4] (Tryz.f292.body.getD .skip) C8L C8M).fn x=B97 x.1 x.2.1:=by intro x;kernel_rfl
theorem D9o:B1 Tryz.prog 292 D9m:=sm MO B2 A7 Tryz.func292 (by kernel_rfl) (by decide) (D9n)
abbrev B59:List PK:= [.val true (.pair .str (.pair (.rs 5 (.int .u8)) D8)) false,.val false (.int .i64) false]
abbrev B5A:List RK:= [.val true (.pair .str (.pair (.rs 5 (.int .u8)) D8))]
def B5B(f:B6L):Nat×Fn:=(293,⟨B59,B5A,fun x=>f x.1 x.2.1⟩)
def C72:Fn:=(B5B B1u).2
theorem C73(f_s_l1In:F4):∀ x,(C4 cfg [A00 f_s_l1In] (B4 []) 26 [.cell 4 79] (Tryz.f293.body.getD .skip) B59 B5A).fn x=C38 f_s_l1In x.1 x.2.1:=by intro x;kernel_rfl
theorem C74:B1 Tryz.prog 293 C72:=sm MO B2 (tc Tryz.call120 A0J A7) Tryz.func293 (by kernel_rfl) (by decide) (C73 E6)
abbrev B3T:List PK:= [.val true (.pair .str (.pair (.rs 5 (.int .u8)) D8)) false,.val true D8 false]
abbrev B3U:List RK:= [.val true (.pair .str (.pair (.rs 5 (.int .u8)) D8))]
def B3V(f:B31):Nat×Fn:=(254,⟨B3T,B3U,fun x=>f x.1 x.2.1⟩)
def C5K:Fn:=(B3V A9i).2
theorem C5L(f_s_l17Next:B30)(f_s_l17Far:B6L):∀ x,(C4 cfg [C8N f_s_l17Next,B5B f_s_l17Far] (B4 []) 20 [.cell 4 79] (Tryz.f254.body.getD .skip) B3T B3U).fn x=B98 f_s_l17Next f_s_l17Far x.1 x.2.1:=by intro x;kernel_rfl
theorem C5M:B1 Tryz.prog 254 C5K:=sm MO B2 (tc Tryz.call292 D9o (tc Tryz.call293 C74 A7)) Tryz.func254 (by kernel_rfl) (by decide) (C5L A9h B1u)
def D4K:Nat->Option Jn:=B4 [(58,⟨[.t 5 false [.own 100000000],.t 6 false [.int .i64],.r 100000000 130 A9],lt 8 20 [.r 7,.r 26,.r 27],false⟩)]
abbrev C2K:List PK:= [.val false (.rs 130 A9) false,.val false (.int .i64) false]
abbrev C2L:List RK:= [.val false (.sl 130 A9)]
def C2M(f:A9K):Nat×Fn:=(255,⟨C2K,C2L,fun x=>f x.1 x.2.1⟩)
def D4L:Fn:=(C2M A54).2
theorem D4M:∀ x,(C4 cfg [] D4K 29 [.tmp 4] (Tryz.f255.body.getD .skip) C2K C2L).fn x=B3u x.1 x.2.1:=by intro x;kernel_rfl
theorem D4N:B1 Tryz.prog 255 D4L:=sm MO B2 A7 Tryz.func255 (by kernel_rfl) (by decide) (D4M)
abbrev C8O:List PK:= [.val true (.pair .str (.pair (.rs 5 (.int .u8)) D8)) false]
abbrev C8P:List RK:= [.val true B3]
def B02(f:A0H):Nat×Fn:=(193,⟨C8O,C8P,fun x=>f x.1⟩)
def D9p:Fn:=(B02 O2).2
theorem D9q:∀ x,(C4 cfg [] (B4 []) 9 [.cell 2 79] (Tryz.f193.body.getD .skip) C8O C8P).fn x=B99 x.1:=by intro x;kernel_rfl
theorem B3W:B1 Tryz.prog 193 D9p:=sm MO B2 A7 Tryz.func193 (by kernel_rfl) (by decide) (D9q)
abbrev D38:List PK:= [.val true (.pair .str (.pair (.rs 5 (.int .u8)) D8)) false]
abbrev D39:List RK:= [.val true B3]
def C3n(f:A65):Nat×Fn:=(256,⟨D38,D39,fun x=>f x.1⟩)
def E2a:Fn:=(C3n A2a).2
theorem E2b(f_s_l17Copy:A0H)(f_s_ClientOk:T3)(f_s_l17Over:A6L):∀ x,(C4 cfg [B02 f_s_l17Copy,A7i f_s_ClientOk,C0I f_s_l17Over] (B4 []) 15 [.cell 2 79] (Tryz.f256.body.getD .skip) D38 D39).fn x=C39 f_s_l17Copy f_s_ClientOk f_s_l17Over x.1:=by intro x;kernel_rfl
theorem D3A:B1 Tryz.prog 256 E2a:=sm MO B2 (tc Tryz.call193 B3W (tc Tryz.call215 B1A (tc Tryz.call253 C8K A7))) Tryz.func256 (by kernel_rfl) (by decide) (E2b O2 G3 A41)
def D7G:Nat->Option Jn:=B4 [(58,⟨[.t 3 false [.int .i64],.t 4 false [.int .i64]],lt 5 27 [.b 5,.r 86021],false⟩)]
abbrev C5N:List PK:= [.val true (.pair (.rs 9 .str) (.rs 9 .str)) false]
abbrev C5O:List RK:= [.val false (.int .i64)]
def C5P(f:B10):Nat×Fn:=(294,⟨C5N,C5O,fun x=>f x.1⟩)
def D7H:Fn:=(C5P A7F).2
theorem D7I(f_s_GetRec:A0T):∀ x,(C4 cfg [B2K f_s_GetRec] D7G 33 [.tmp 2] (Tryz.f294.body.getD .skip) C5N C5O).fn x=B6M f_s_GetRec x.1:=by intro x;kernel_rfl
theorem D7J:B1 Tryz.prog 294 D7H:=sm MO B2 (tc Tryz.call235 B70 A7) Tryz.func294 (by kernel_rfl) (by decide) (D7I M4)
def D7K:Nat->Option Jn:=B4 [(122,⟨[.t 6 false [.int .i64],.b 5 [.own 36864,.own 36865],.r 36864 9 .str,.r 36865 9 .str],lt 13 35 [.x 36,.x 38,.x 45,.x 47],false⟩),(1956,⟨[.t 29 false [.bool]],lt 20 9 [],true⟩)]
abbrev C5Q:List PK:= [.val true (.pair (.rs 9 .str) (.rs 9 .str)) false,.val false (.rs 4 .bool) false]
abbrev C5R:List RK:= [.val true A0C]
def B1B(f:A1Q):Nat×Fn:=(258,⟨C5Q,C5R,fun x=>f x.1 x.2.1⟩)
def D7L:Fn:=(B1B Q9).2
theorem D7M(f_s_l12Copy:A1N)(f_s_DiskOk:A3v):∀ x,(C4 cfg [B00 f_s_l12Copy,B6w f_s_DiskOk] D7K 49 [.cell 4 26] (Tryz.f258.body.getD .skip) C5Q C5R).fn x=B11 f_s_l12Copy f_s_DiskOk x.1 x.2.1:=by intro x;kernel_rfl
theorem B75:B1 Tryz.prog 258 D7L:=sm MO B2 (tc Tryz.call229 B3R (tc Tryz.call231 C3f A7)) Tryz.func258 (by kernel_rfl) (by decide) (D7M A0n A0S)
def B48:Nat->Option Jn:=B4 [(122,⟨[.t 3 false [.own 100000000],.t 4 false [.int .i64],.t 5 false [.int .i64],.r 100000000 194 (.pair (.int .i64) (.pair (.int .i64) (.pair (.int .i64) (.pair .str (.pair (.int .i64) (.rs 5 (.int .u8)))))))],lt 40 6 (lt 9 30 [.b 6,.r 8,.r 42,.r 43,.r 94213,.t 6,.t 7]),false⟩)]
abbrev A5S:List PK:= [.val true (.pair (.rs 9 .str) (.rs 9 .str)) false]
abbrev A5T:List RK:= [.val false (.sl 194 (.pair (.int .i64) (.pair (.int .i64) (.pair (.int .i64) (.pair .str (.pair (.int .i64) (.rs 5 (.int .u8))))))))]
def A5U(f:A2U):Nat×Fn:=(232,⟨A5S,A5T,fun x=>f x.1⟩)
def B49:Fn:=(A5U A0f).2
theorem B4A(f_s_GetRec:A0T):∀ x,(C4 A4i [B2K f_s_GetRec] B48 47 [.tmp 2] (Tryz.f232.body.getD .skip) A5S A5T).fn x=B6J f_s_GetRec x.1:=by intro x;kernel_rfl
theorem B4B:B1 Tryz.prog 232 B49:=sm MO J7 (tc Tryz.call235 B70 A7) Tryz.func232 (by kernel_rfl) (by decide) (B4A M4)
def C1S:Nat->Option Jn:=B4 [(63,⟨[],lt 22 6 [],false⟩)]
abbrev B0e:List PK:= [.val true (.pair (.rs 9 .str) (.rs 9 .str)) false]
abbrev B0f:List RK:= [.val true (.pair A0C (.pair (.int .i64) (.pair (.int .i64) (.sl 109 (.pair .str (.pair (.int .i64) (.pair (.rs 5 (.int .u8)) .bool))))))),.val false .bool]
def A1q(f:M2):Nat×Fn:=(257,⟨B0e,B0f,fun x=>f x.1⟩)
def C1T:Fn:=(A1q C5).2
theorem C1U(f_s_l12Copy:A1N)(f_s_DiskOk:A3v)(f_s_ScanRecs:A2U)(f_s_FoldRecs_r98_0:A01)(f_s_TopEpoch:B10):∀ x,(C4 A4i [B00 f_s_l12Copy,B6w f_s_DiskOk,A5U f_s_ScanRecs,A6B f_s_FoldRecs_r98_0,C5P f_s_TopEpoch] C1S 36 [.cell 2 29,.tmp 3] (Tryz.f257.body.getD .skip) B0e B0f).fn x=U4 f_s_l12Copy f_s_DiskOk f_s_ScanRecs f_s_FoldRecs_r98_0 f_s_TopEpoch x.1:=by intro x;kernel_rfl
theorem A4p:B1 Tryz.prog 257 C1T:=sm MO J7 (tc Tryz.call229 B3R (tc Tryz.call231 C3f (tc Tryz.call232 B4B (tc Tryz.call233 B2Q (tc Tryz.call294 D7J A7))))) Tryz.func257 (by kernel_rfl) (by decide) (C1U A0n A0S A0f R3 A7F)
def D4O:Nat->Option Jn:=B4 [(3,⟨[],lt 8 26 [.x 23],false⟩)]
abbrev C2N:List PK:= [.ptr (.pair (.pair (.pair (.pair (.rs 9 .str) (.rs 9 .str)) (.pair (.int .i64) (.pair (.int .i64) (.rs 109 (.pair .str (.pair (.int .i64) (.pair (.rs 5 (.int .u8)) .bool))))))) (.sl 130 A9)) (.pair (.sl 79 (.pair .str (.pair (.rs 5 (.int .u8)) D8))) (.pair (.sl 4 .bool) (.pair (.sl 113 (.pair (.int .i64) (.pair A06 (.rs 5 (.int .u8))))) (.pair (.sl 130 A9) (.sl 3 (.int .i64))))))),.val false (.int .i64) false]
abbrev C2O:List RK:= [.val false .bool]
def C2P(f:A9L):Nat×Fn:=(194,⟨C2N,C2O,fun x=>f x.1 x.2.1⟩)
def D4P:Fn:=(C2P A1c).2
theorem D4Q(f_s_l1In:F4)(f_s_NextReq:B2r):∀ x,(C4 A4i [A00 f_s_l1In,C88 f_s_NextReq] D4O 67 [.tmp 4] (Tryz.f194.body.getD .skip) C2N C2O).fn x=A9M f_s_l1In f_s_NextReq x.1 x.2.1:=by intro x;kernel_rfl
theorem D4R:B1 Tryz.prog 194 D4P:=sm MO J7 (tc Tryz.call120 A0J (tc Tryz.call251 D9U A7)) Tryz.func194 (by kernel_rfl) (by decide) (D4Q E6 A9g)
abbrev C2Q:List PK:= [.val false .str false,.val false (.rs 5 (.int .u8)) false]
abbrev C2R:List RK:= [.val true B3]
def C2S(f:A55):Nat×Fn:=(138,⟨C2Q,C2R,fun x=>f x.1 x.2.1⟩)
def D4S:Fn:=(C2S A1d).2
theorem D4T(f_s_ClientOk:T3):∀ x,(C4 cfg [A7i f_s_ClientOk] (B4 []) 16 [.cell 4 79] (Tryz.f138.body.getD .skip) C2Q C2R).fn x=B3v f_s_ClientOk x.1 x.2.1:=by intro x;kernel_rfl
theorem D4U:B1 Tryz.prog 138 D4S:=sm MO B2 (tc Tryz.call215 B1A A7) Tryz.func138 (by kernel_rfl) (by decide) (D4T G3)
abbrev D3B:List PK:= [.val true D8 false]
abbrev D3C:List RK:= [.val false .bool]
def C3o(f:A42):Nat×Fn:=(158,⟨D3B,D3C,fun x=>f x.1⟩)
def E2c:Fn:=(C3o R4).2
theorem E2d(f_s_l1In:F4):∀ x,(C4 cfg [A00 f_s_l1In] (B4 []) 11 [.tmp 2] (Tryz.f158.body.getD .skip) D3B D3C).fn x=C3A f_s_l1In x.1:=by intro x;kernel_rfl
theorem D3D:B1 Tryz.prog 158 E2c:=sm MO B2 (tc Tryz.call120 A0J A7) Tryz.func158 (by kernel_rfl) (by decide) (E2d E6)
def D7N:Nat->Option Jn:=B4 [(3,⟨[],lt 3 16 [],false⟩),(26,⟨[.t 3 false [.int .i64]],lt 4 15 [],false⟩)]
abbrev C5S:List PK:= [.val true (.pair (.pair (.pair (.rs 9 .str) (.rs 9 .str)) (.pair (.int .i64) (.pair (.int .i64) (.rs 109 kUp)))) (.rs 130 A9)) false]
abbrev C5T:List RK:= [.val false .bool]
def A7m(f:A08):Nat×Fn:=(90,⟨C5S,C5T,fun x=>f x.1⟩)
def D7O:Fn:=(A7m J5).2
theorem D7P(f_s_RespOk:A42)(f_s_StoreOk:P5):∀ x,(C4 cfg [C3o f_s_RespOk,A4H f_s_StoreOk] D7N 28 [.tmp 2] (Tryz.f90.body.getD .skip) C5S C5T).fn x=A7G f_s_RespOk f_s_StoreOk x.1:=by intro x;kernel_rfl
theorem B1C:B1 Tryz.prog 90 D7O:=sm MO B2 (tc Tryz.call158 D3D (tc Tryz.call159 A6a A7)) Tryz.func90 (by kernel_rfl) (by decide) (D7P R4 E7)
abbrev C8Q:List PK:= [.val false (.int .i64) false]
abbrev C8R:List RK:= [.val false (.int .i64)]
def C0J(f:A6M):Nat×Fn:=(161,⟨C8Q,C8R,fun x=>f x.1⟩)
def D9r:Fn:=(C0J A0p).2
theorem D9s:∀ x,(C4 cfg [] (B4 []) 9 [.tmp 2] (Tryz.f161.body.getD .skip) C8Q C8R).fn x=A9j x.1:=by intro x;kernel_rfl
theorem C8S:B1 Tryz.prog 161 D9r:=sm MO B2 A7 Tryz.func161 (by kernel_rfl) (by decide) (D9s)
def E5S:Nat->Option Jn:=B4 [(3,⟨[],lt 4 10 [],false⟩)]
abbrev D5g:List PK:= [.val true A06 false]
abbrev D5h:List RK:= [.val false .bool]
def C75(f:A8n):Nat×Fn:=(91,⟨D5g,D5h,fun x=>f x.1⟩)
def E5T:Fn:=(C75 A3C).2
theorem E5U(f_s_l1In:F4)(f_s_l11Id:U2)(f_s_l11Most:A6M):∀ x,(C4 cfg [A00 f_s_l1In,A6T f_s_l11Id,C0J f_s_l11Most] E5S 26 [.tmp 2] (Tryz.f91.body.getD .skip) D5g D5h).fn x=C64 f_s_l1In f_s_l11Id f_s_l11Most x.1:=by intro x;kernel_rfl
theorem D5i:B1 Tryz.prog 91 E5T:=sm MO B2 (tc Tryz.call120 A0J (tc Tryz.call160 A91 (tc Tryz.call161 C8S A7))) Tryz.func91 (by kernel_rfl) (by decide) (E5U E6 R8 A0p)
def D3E:Nat->Option Jn:=B4 [(7,⟨[],lt 9 30 [.t 4,.t 5],false⟩),(58,⟨[.t 4 false [.int .i64]],lt 9 30 [.t 5],false⟩),(7462,⟨[.t 5 false [.int .i64]],lt 21 18 [],false⟩)]
abbrev C0K:List PK:= [.val true (.pair (.pair (.pair (.pair (.rs 9 .str) (.rs 9 .str)) (.pair (.int .i64) (.pair (.int .i64) (.rs 109 kUp)))) (.rs 130 A9)) (.pair (.rs 79 B3) (.pair (.rs 4 .bool) (.pair (.rs 113 E5) (.pair (.rs 130 A9) (.rs 3 (.int .i64))))))) false]
abbrev C0L:List RK:= [.val false .bool]
def C0M(f:A7H):Nat×Fn:=(141,⟨C0K,C0L,fun x=>f x.1⟩)
def D3F:Fn:=(C0M L4).2
theorem D3G(f_s_ClientOk:T3):∀ x,(C4 cfg [A7i f_s_ClientOk] D3E 55 [.tmp 2] (Tryz.f141.body.getD .skip) C0K C0L).fn x=A1v f_s_ClientOk x.1:=by intro x;kernel_rfl
theorem D3H:B1 Tryz.prog 141 D3F:=sm MO B2 (tc Tryz.call215 B1A A7) Tryz.func141 (by kernel_rfl) (by decide) (D3G G3)
def E2e:Nat->Option Jn:=B4 [(26,⟨[.t 5 false [.int .i64]],lt 6 26 [],false⟩)]
abbrev D3I:List PK:= [.val true (.pair (.pair (.pair (.pair (.rs 9 .str) (.rs 9 .str)) (.pair (.int .i64) (.pair (.int .i64) (.rs 109 kUp)))) (.rs 130 A9)) (.pair (.rs 79 B3) (.pair (.rs 4 .bool) (.pair (.rs 113 E5) (.pair (.rs 130 A9) (.rs 3 (.int .i64))))))) false,.val false (.rs 130 A9) false]
abbrev D3J:List RK:= [.val false .bool]
def D3K(f:B6O):Nat×Fn:=(142,⟨D3I,D3J,fun x=>f x.1 x.2.1⟩)
def E2f:Fn:=(D3K B1v).2
theorem E2g(f_s_l1In:F4)(f_s_RespOk:A42):∀ x,(C4 cfg [A00 f_s_l1In,C3o f_s_RespOk] E2e 32 [.tmp 4] (Tryz.f142.body.getD .skip) D3I D3J).fn x=C3B f_s_l1In f_s_RespOk x.1 x.2.1:=by intro x;kernel_rfl
theorem E2h:B1 Tryz.prog 142 E2f:=sm MO B2 (tc Tryz.call120 A0J (tc Tryz.call158 D3D A7)) Tryz.func142 (by kernel_rfl) (by decide) (E2g E6 R4)
def D9t:Nat->Option Jn:=B4 [(3,⟨[],lt 4 36 [],false⟩),(58,⟨[.t 3 false [.int .i64]],lt 40 29 [],false⟩)]
abbrev C8T:List PK:= [.val true (.pair (.pair (.pair (.pair (.rs 9 .str) (.rs 9 .str)) (.pair (.int .i64) (.pair (.int .i64) (.rs 109 kUp)))) (.rs 130 A9)) (.pair (.rs 79 B3) (.pair (.rs 4 .bool) (.pair (.rs 113 E5) (.pair (.rs 130 A9) (.rs 3 (.int .i64))))))) false]
abbrev C8U:List RK:= [.val false .bool]
def C0N(f:A6N):Nat×Fn:=(70,⟨C8T,C8U,fun x=>f x.1⟩)
def D9u:Fn:=(C0N O3).2
theorem D9v(f_s_ServerOk:A08)(f_s_ReqOk:A8n)(f_s_l1In:F4)(f_s_l18Clients:A7H)(f_s_l18Who:B6O):∀ x,(C4 cfg [A7m f_s_ServerOk,C75 f_s_ReqOk,A00 f_s_l1In,C0M f_s_l18Clients,D3K f_s_l18Who] D9t 69 [.tmp 2] (Tryz.f70.body.getD .skip) C8T C8U).fn x=A6O f_s_ServerOk f_s_ReqOk f_s_l1In f_s_l18Clients f_s_l18Who x.1:=by intro x;kernel_rfl
theorem C8V:B1 Tryz.prog 70 D9u:=sm MO B2 (tc Tryz.call90 B1C (tc Tryz.call91 D5i (tc Tryz.call120 A0J (tc Tryz.call141 D3H (tc Tryz.call142 E2h A7))))) Tryz.func70 (by kernel_rfl) (by decide) (D9v J5 A3C E6 L4 B1v)
def D9w:Nat->Option Jn:=B4 [(58,⟨[.t 4 false [.int .i64],.b 3 [.own 100000000,.own 100000001],.r 100000000 9 .str,.r 100000001 9 .str],lt 6 19 [.r 17,.r 18,.r 22,.r 23],false⟩),(116,⟨[],lt 6 7 [],false⟩)]
abbrev C8W:List PK:= [.val false (.int .i64) false]
abbrev C8a:List RK:= [.val true A0C]
def C8b(f:B32):Nat×Fn:=(303,⟨C8W,C8a,fun x=>f x.1⟩)
def E00:Fn:=(C8b A9k).2
theorem E01:∀ x,(C4 cfg [] D9w 26 [.cell 2 26] (Tryz.f303.body.getD .skip) C8W C8a).fn x=B9A x.1:=by intro x;kernel_rfl
theorem E02:B1 Tryz.prog 303 E00:=sm MO B2 A7 Tryz.func303 (by kernel_rfl) (by decide) (E01)
abbrev B2T:List PK:= [.val false (.int .i64) false]
abbrev B2U:List RK:= [.val true (.pair A0C (.pair (.int .i64) (.pair (.int .i64) (.sl 109 (.pair .str (.pair (.int .i64) (.pair (.rs 5 (.int .u8)) .bool)))))))]
def A6C(f:A4e):Nat×Fn:=(272,⟨B2T,B2U,fun x=>f x.1⟩)
def C3p:Fn:=(A6C A2b).2
theorem C3q(f_s_DiskNew:B32):∀ x,(C4 A4i [C8b f_s_DiskNew] (B4 []) 6 [.cell 2 29] (Tryz.f272.body.getD .skip) B2T B2U).fn x=B12 f_s_DiskNew x.1:=by intro x;kernel_rfl
theorem B2V:B1 Tryz.prog 272 C3p:=sm MO J7 (tc Tryz.call303 E02 A7) Tryz.func272 (by kernel_rfl) (by decide) (C3q A9k)
abbrev B0g:List PK:= [.val false (.int .i64) false]
abbrev B0h:List RK:= [.val true (.pair (.pair A0C (.pair (.int .i64) (.pair (.int .i64) (.sl 109 (.pair .str (.pair (.int .i64) (.pair (.rs 5 (.int .u8)) .bool))))))) (.sl 130 A9))]
def A4q(f:U5):Nat×Fn:=(216,⟨B0g,B0h,fun x=>f x.1⟩)
def C1V:Fn:=(A4q P2).2
theorem C1W(f_s_StoreNew:A4e):∀ x,(C4 A4i [A6C f_s_StoreNew] (B4 []) 6 [.cell 2 32] (Tryz.f216.body.getD .skip) B0g B0h).fn x=A4n f_s_StoreNew x.1:=by intro x;kernel_rfl
theorem B0i:B1 Tryz.prog 216 C1V:=sm MO J7 (tc Tryz.call272 B2V A7) Tryz.func216 (by kernel_rfl) (by decide) (C1W A2b)
def B4C:Nat->Option Jn:=B4 [(7,⟨[.b 5 [.own 36864,.own 36865,.int .i64,.int .i64,.own 36868,.own 36869,.own 100000000,.own 100000001,.nil,.nil,.own 100000002],.r 36864 9 .str,.r 36865 9 .str,.r 36868 109 (.pair .str (.pair (.int .i64) (.pair (.rs 5 (.int .u8)) .bool))),.r 36869 130 A9,.r 100000000 79 (.pair .str (.pair (.rs 5 (.int .u8)) D8)),.r 100000001 4 .bool,.r 100000002 3 (.int .i64)],lt 10 26 [.r 23,.r 24,.r 28,.r 29,.r 33,.r 34,.r 94209,.t 6],true⟩),(58,⟨[.t 6 false [.int .i64],.b 5 [.own 36864,.own 36865,.int .i64,.int .i64,.own 36868,.own 36869,.own 100000000,.own 100000001,.nil,.nil,.own 100000002],.r 36864 9 .str,.r 36865 9 .str,.r 36868 109 (.pair .str (.pair (.int .i64) (.pair (.rs 5 (.int .u8)) .bool))),.r 36869 130 A9,.r 100000000 79 (.pair .str (.pair (.rs 5 (.int .u8)) D8)),.r 100000001 4 .bool,.r 100000002 3 (.int .i64)],lt 10 26 [.r 23,.r 24,.r 28,.r 29,.r 33,.r 34,.r 94209],false⟩)]
abbrev A5V:List PK:= [.val false (.int .i64) false,.val false (.rs 79 B3) false]
abbrev A5W:List RK:= [.val true (.pair (.pair (.pair A0C (.pair (.int .i64) (.pair (.int .i64) (.sl 109 (.pair .str (.pair (.int .i64) (.pair (.rs 5 (.int .u8)) .bool))))))) (.sl 130 A9)) (.pair (.sl 79 (.pair .str (.pair (.rs 5 (.int .u8)) D8))) (.pair (.sl 4 .bool) (.pair (.sl 113 (.pair (.int .i64) (.pair A06 (.rs 5 (.int .u8))))) (.pair (.sl 130 A9) (.sl 3 (.int .i64)))))))]
def A5a(f:A09):Nat×Fn:=(140,⟨A5V,A5W,fun x=>f x.1 x.2.1⟩)
def B4D:Fn:=(A5a Q3).2
theorem B4E(f_s_WorldOk:A6N)(f_s_l17Copy:A0H)(f_s_ServerNew_r98_0:U5):∀ x,(C4 A4i [C0N f_s_WorldOk,B02 f_s_l17Copy,A4q f_s_ServerNew_r98_0] B4C 41 [.cell 4 38] (Tryz.f140.body.getD .skip) A5V A5W).fn x=A1e f_s_WorldOk f_s_l17Copy f_s_ServerNew_r98_0 x.1 x.2.1:=by intro x;kernel_rfl
theorem B4F:B1 Tryz.prog 140 B4D:=sm MO J7 (tc Tryz.call70 C8V (tc Tryz.call193 B3W (tc Tryz.call216 B0i A7))) Tryz.func140 (by kernel_rfl) (by decide) (B4E O3 O2 P2)
def B5C:Nat->Option Jn:=B4 [(31,⟨[.t 9 false [.int .i64],.b 3 [.ro 9 .str,.ro 9 .str,.int .i64,.int .i64,.ro 109 (.pair .str (.pair (.int .i64) (.pair (.rs 5 (.int .u8)) .bool)))],.b 8 [.int .i64,.int .i64],.b 10 [.own 100000000,.own 100000001,.int .i64,.int .i64,.own 100000002],.r 100000000 9 .str,.r 100000001 9 .str,.r 100000002 109 (.pair .str (.pair (.int .i64) (.pair (.rs 5 (.int .u8)) .bool)))],lt 19 51 (lt 12 3 [.r 1000,.r 1001,.r 1004,.r 114688,.r 114689,.r 114692,.r 167936,.r 167937,.r 167940,.r 237568,.r 237569,.r 237572,.r 274432,.r 274433,.r 274436,.t 0]),false⟩)]
abbrev A6d:List PK:= [.val true (.pair A0C (.pair (.int .i64) (.pair (.int .i64) (.sl 109 (.pair .str (.pair (.int .i64) (.pair (.rs 5 (.int .u8)) .bool))))))) false,.val true A06 false,.val false (.rs 5 (.int .u8)) false]
abbrev A6e:List RK:= [.val true (.pair A0C (.pair (.int .i64) (.pair (.int .i64) (.sl 109 (.pair .str (.pair (.int .i64) (.pair (.rs 5 (.int .u8)) .bool))))))),.val true D8]
def A6f(f:A0M):Nat×Fn:=(92,⟨A6d,A6e,fun x=>f x.1 x.2.1 x.2.2.1⟩)
def B5D:Fn:=(A6f S4).2
theorem B5E(f_s_MakeUp_r98_0:S1)(f_s_PutUp_r98_0:U8)(f_s_DoneUp_r98_0:S2)(f_s_DropUp_r98_0:S3)(f_s_l15Looks:A4d)(f_s_l15Bad:A8j):∀ x,(C4 A4i [A4j f_s_MakeUp_r98_0,A5t f_s_PutUp_r98_0,A4k f_s_DoneUp_r98_0,A4l f_s_DropUp_r98_0,B74 f_s_l15Looks,C3m f_s_l15Bad] B5C 80 [.cell 6 29,.cell 7 126] (Tryz.f92.body.getD .skip) A6d A6e).fn x=A1w f_s_MakeUp_r98_0 f_s_PutUp_r98_0 f_s_DoneUp_r98_0 f_s_DropUp_r98_0 f_s_l15Looks f_s_l15Bad x.1 x.2.1 x.2.2.1:=by intro x;kernel_rfl
theorem B5F:B1 Tryz.prog 92 B5D:=sm MO J7 (tc Tryz.call162 A93 (tc Tryz.call163 B0P (tc Tryz.call164 A94 (tc Tryz.call165 A95 (tc Tryz.call166 C5J (tc Tryz.call167 D37 A7)))))) Tryz.func92 (by kernel_rfl) (by decide) (B5E O6 Q8 O7 O8 A2W A64)
def B03:Nat->Option Jn:=B4 [(31,⟨[.t 9 false [.int .i64],.b 8 [.int .i64,.int .i64],.b 10 [.own 100000000,.own 100000001,.int .i64,.int .i64,.own 100000002],.r 100000000 9 .str,.r 100000001 9 .str,.r 100000002 109 (.pair .str (.pair (.int .i64) (.pair (.rs 5 (.int .u8)) .bool)))],lt 19 51 [.r 114688,.r 114689,.r 114692,.r 167936,.r 167937,.r 167940,.r 237568,.r 237569,.r 237572,.r 274432,.r 274433,.r 274436,.t 13,.t 14],false⟩)]
abbrev A2D:List PK:= [.val true (.pair (.pair (.rs 9 .str) (.rs 9 .str)) (.pair (.int .i64) (.pair (.int .i64) (.rs 109 (.pair .str (.pair (.int .i64) (.pair (.rs 5 (.int .u8)) .bool))))))) false,.val true A06 false,.val false (.rs 5 (.int .u8)) false]
abbrev A2E:List RK:= [.val true (.pair (.pair (.rs 9 .str) (.rs 9 .str)) (.pair (.int .i64) (.pair (.int .i64) (.rs 109 (.pair .str (.pair (.int .i64) (.pair (.rs 5 (.int .u8)) .bool))))))),.val true D8]
def A2F(f:P6):Nat×Fn:=(92,⟨A2D,A2E,fun x=>f x.1 x.2.1 x.2.2.1⟩)
def B04:Fn:=(A2F H5).2
theorem B05(f_s_MakeUp_r98_0:S1)(f_s_PutUp_r98_0:U8)(f_s_DoneUp_r98_0:S2)(f_s_DropUp_r98_0:S3)(f_s_l15Looks:A4d)(f_s_l15Bad:A8j):∀ x,(C4 A4i [A4j f_s_MakeUp_r98_0,A5t f_s_PutUp_r98_0,A4k f_s_DoneUp_r98_0,A4l f_s_DropUp_r98_0,B74 f_s_l15Looks,C3m f_s_l15Bad] B03 80 [.cell 6 29,.cell 7 126] (Tryz.f92.body.getD .skip) A2D A2E).fn x=A0I f_s_MakeUp_r98_0 f_s_PutUp_r98_0 f_s_DoneUp_r98_0 f_s_DropUp_r98_0 f_s_l15Looks f_s_l15Bad x.1 x.2.1 x.2.2.1:=by intro x;kernel_rfl
theorem B06:B1 Tryz.prog 92 B04:=sm MO J7 (tc Tryz.call162 A93 (tc Tryz.call163 B0P (tc Tryz.call164 A94 (tc Tryz.call165 A95 (tc Tryz.call166 C5J (tc Tryz.call167 D37 A7)))))) Tryz.func92 (by kernel_rfl) (by decide) (B05 O6 Q8 O7 O8 A2W A64)
def D3L:Nat->Option Jn:=B4 [(3,⟨[],lt 8 18 [],false⟩)]
abbrev C0O:List PK:= [.ptr (.pair (.pair (.pair (.pair (.rs 9 .str) (.rs 9 .str)) (.pair (.int .i64) (.pair (.int .i64) (.rs 109 (.pair .str (.pair (.int .i64) (.pair (.rs 5 (.int .u8)) .bool))))))) (.sl 130 A9)) (.pair (.sl 79 (.pair .str (.pair (.rs 5 (.int .u8)) D8))) (.pair (.sl 4 .bool) (.pair (.sl 113 (.pair (.int .i64) (.pair A06 (.rs 5 (.int .u8))))) (.pair (.sl 130 A9) (.sl 3 (.int .i64))))))),.val false (.int .i64) false]
abbrev C0P:List RK:= [.val false .bool]
def C0Q(f:A7I):Nat×Fn:=(195,⟨C0O,C0P,fun x=>f x.1 x.2.1⟩)
def D3M:Fn:=(C0Q A10).2
theorem D3N(f_s_l15Does_r94_0_r98_0_r99_0:P6)(f_s_l1In:F4):∀ x,(C4 A4i [A2F f_s_l15Does_r94_0_r98_0_r99_0,A00 f_s_l1In] D3L 85 [.tmp 4] (Tryz.f195.body.getD .skip) C0O C0P).fn x=A7J f_s_l15Does_r94_0_r98_0_r99_0 f_s_l1In x.1 x.2.1:=by intro x;kernel_rfl
theorem D3O:B1 Tryz.prog 195 D3M:=sm MO J7 (tc Tryz.call92 B06 (tc Tryz.call120 A0J A7)) Tryz.func195 (by kernel_rfl) (by decide) (D3N H5 E6)
abbrev C2T:List PK:= [.ptr (.pair (.pair (.pair (.pair (.rs 9 .str) (.rs 9 .str)) (.pair (.int .i64) (.pair (.int .i64) (.rs 109 (.pair .str (.pair (.int .i64) (.pair (.rs 5 (.int .u8)) .bool))))))) (.sl 130 A9)) (.pair (.sl 79 (.pair .str (.pair (.rs 5 (.int .u8)) D8))) (.pair (.sl 4 .bool) (.pair (.sl 113 (.pair (.int .i64) (.pair A06 (.rs 5 (.int .u8))))) (.pair (.sl 130 A9) (.sl 3 (.int .i64)))))))]
abbrev C2U:List RK:= [.val false .bool]
def C2V(f:B2v):Nat×Fn:=(196,⟨C2T,C2U,fun x=>f x.1⟩)
def D4V:Fn:=(C2V A40).2
theorem D4W(f_s_FlushDisk:A3B):∀ x,(C4 A4i [B47 f_s_FlushDisk] (B4 []) 46 [.tmp 2] (Tryz.f196.body.getD .skip) C2T C2U).fn x=B2w f_s_FlushDisk x.1:=by intro x;kernel_rfl
theorem D4a:B1 Tryz.prog 196 D4V:=sm MO J7 (tc Tryz.call252 C2J A7) Tryz.func196 (by kernel_rfl) (by decide) (D4W A1b)
def D4b:Nat->Option Jn:=B4 [(501,⟨[.b 1000 [.ro 9 .str,.ro 9 .str,.int .i64,.int .i64,.ro 109 (.pair .str (.pair (.int .i64) (.pair (.rs 5 (.int .u8)) .bool))),.own 1005,.own 1006,.own 1007,.own 1008,.own 38,.own 1010],.r 38 130 A9,.r 1005 130 A9,.r 1006 79 (.pair .str (.pair (.rs 5 (.int .u8)) D8)),.r 1007 4 .bool,.r 1008 113 (.pair (.int .i64) (.pair A06 (.rs 5 (.int .u8)))),.r 1010 3 (.int .i64)],lt 56 28 [.x 62,.x 78,.x 83],true⟩)]
abbrev C2W:List PK:= [.ptr (.pair (.pair (.pair (.pair (.rs 9 .str) (.rs 9 .str)) (.pair (.int .i64) (.pair (.int .i64) (.rs 109 (.pair .str (.pair (.int .i64) (.pair (.rs 5 (.int .u8)) .bool))))))) (.sl 130 A9)) (.pair (.sl 79 (.pair .str (.pair (.rs 5 (.int .u8)) D8))) (.pair (.sl 4 .bool) (.pair (.sl 113 (.pair (.int .i64) (.pair A06 (.rs 5 (.int .u8))))) (.pair (.sl 130 A9) (.sl 3 (.int .i64))))))),.val false (.int .i64) false]
abbrev C2a:List RK:= [.val false .bool]
def C2b(f:A9N):Nat×Fn:=(197,⟨C2W,C2a,fun x=>f x.1 x.2.1⟩)
def D4c:Fn:=(C2b A1f).2
theorem D4d(f_s_l1In:F4)(f_s_l17Over:A6L)(f_s_l17Hear:B31):∀ x,(C4 A4i [A00 f_s_l1In,C0I f_s_l17Over,B3V f_s_l17Hear] D4b 106 [.tmp 4] (Tryz.f197.body.getD .skip) C2W C2a).fn x=A9O f_s_l1In f_s_l17Over f_s_l17Hear x.1 x.2.1:=by intro x;kernel_rfl
theorem D4e:B1 Tryz.prog 197 D4c:=sm MO J7 (tc Tryz.call120 A0J (tc Tryz.call253 C8K (tc Tryz.call254 C5M A7))) Tryz.func197 (by kernel_rfl) (by decide) (D4d E6 A41 A9i)
def D7Q:Nat->Option Jn:=B4 [(15,⟨[.t 5 false [.own 100000000],.r 100000000 113 (.pair (.int .i64) (.pair A06 (.rs 5 (.int .u8))))],lt 17 29 [.r 16,.r 44,.r 45,.t 6,.x 31,.x 42],true⟩),(122,⟨[.t 5 false [.own 100000000],.t 6 false [.int .i64],.r 100000000 113 (.pair (.int .i64) (.pair A06 (.rs 5 (.int .u8))))],lt 17 29 [.r 16,.r 44,.r 45,.x 31,.x 42],false⟩)]
abbrev C5U:List PK:= [.ptr (.pair (.pair (.pair (.pair (.rs 9 .str) (.rs 9 .str)) (.pair (.int .i64) (.pair (.int .i64) (.rs 109 (.pair .str (.pair (.int .i64) (.pair (.rs 5 (.int .u8)) .bool))))))) (.sl 130 A9)) (.pair (.sl 79 (.pair .str (.pair (.rs 5 (.int .u8)) D8))) (.pair (.sl 4 .bool) (.pair (.sl 113 (.pair (.int .i64) (.pair A06 (.rs 5 (.int .u8))))) (.pair (.sl 130 A9) (.sl 3 (.int .i64))))))),.val false (.int .i64) false]
abbrev C5V:List RK:= [.val false .bool]
def C5W(f:B13):Nat×Fn:=(198,⟨C5U,C5V,fun x=>f x.1 x.2.1⟩)
def D7R:Fn:=(C5W A2c).2
theorem D7S(f_s_l1In:F4)(f_s_l18Others:A9K)(f_s_CutOff:A65):∀ x,(C4 A4i [A00 f_s_l1In,C2M f_s_l18Others,C3n f_s_CutOff] D7Q 90 [.tmp 4] (Tryz.f198.body.getD .skip) C5U C5V).fn x=B14 f_s_l1In f_s_l18Others f_s_CutOff x.1 x.2.1:=by intro x;kernel_rfl
theorem D7T:B1 Tryz.prog 198 D7R:=sm MO J7 (tc Tryz.call120 A0J (tc Tryz.call255 D4N (tc Tryz.call256 D3A A7))) Tryz.func198 (by kernel_rfl) (by decide) (D7S E6 A54 A2a)
def D3P:Nat->Option Jn:=B4 [(1018,⟨[.t 7 false [.int .i64],.b 1000 [.own 73728,.own 73729,.int .i64,.int .i64,.own 73732,.nil,.own 1006,.own 1007,.own 28,.own 32,.own 1010],.r 28 113 (.pair (.int .i64) (.pair A06 (.rs 5 (.int .u8)))),.r 32 130 A9,.r 1006 79 (.pair .str (.pair (.rs 5 (.int .u8)) D8)),.r 1007 4 .bool,.r 1010 3 (.int .i64),.r 73728 9 .str,.r 73729 9 .str,.r 73732 109 (.pair .str (.pair (.int .i64) (.pair (.rs 5 (.int .u8)) .bool)))],lt 35 29 [.r 233473,.x 54,.x 57,.x 63],false⟩)]
abbrev C0R:List PK:= [.ptr (.pair (.pair (.pair (.pair (.rs 9 .str) (.rs 9 .str)) (.pair (.int .i64) (.pair (.int .i64) (.rs 109 (.pair .str (.pair (.int .i64) (.pair (.rs 5 (.int .u8)) .bool))))))) (.sl 130 A9)) (.pair (.sl 79 (.pair .str (.pair (.rs 5 (.int .u8)) D8))) (.pair (.sl 4 .bool) (.pair (.sl 113 (.pair (.int .i64) (.pair A06 (.rs 5 (.int .u8))))) (.pair (.sl 130 A9) (.sl 3 (.int .i64))))))),.val false (.rs 4 .bool) false]
abbrev C0S:List RK:= [.val false .bool]
def C0T(f:A7K):Nat×Fn:=(199,⟨C0R,C0S,fun x=>f x.1 x.2.1⟩)
def D3Q:Fn:=(C0T A11).2
theorem D3R(f_s_CutOff:A65)(f_s_OpenStore_r98_0:M2)(f_s_FallDisk:A1Q):∀ x,(C4 A4i [C3n f_s_CutOff,A1q f_s_OpenStore_r98_0,B1B f_s_FallDisk] D3P 64 [.tmp 4] (Tryz.f199.body.getD .skip) C0R C0S).fn x=A7L f_s_CutOff f_s_OpenStore_r98_0 f_s_FallDisk x.1 x.2.1:=by intro x;kernel_rfl
theorem D3S:B1 Tryz.prog 199 D3Q:=sm MO J7 (tc Tryz.call256 D3A (tc Tryz.call257 A4p (tc Tryz.call258 B75 A7))) Tryz.func199 (by kernel_rfl) (by decide) (D3R A2a C5 Q9)
abbrev C8c:List PK:= [.ptr (.pair (.pair (.pair (.pair (.rs 9 .str) (.rs 9 .str)) (.pair (.int .i64) (.pair (.int .i64) (.rs 109 (.pair .str (.pair (.int .i64) (.pair (.rs 5 (.int .u8)) .bool))))))) (.sl 130 A9)) (.pair (.sl 79 (.pair .str (.pair (.rs 5 (.int .u8)) D8))) (.pair (.sl 4 .bool) (.pair (.sl 113 (.pair (.int .i64) (.pair A06 (.rs 5 (.int .u8))))) (.pair (.sl 130 A9) (.sl 3 (.int .i64))))))),.val true (.pair (.int .i64) (.pair (.int .i64) (.rs 4 .bool))) false]
abbrev C8d:List RK:= [.val false .bool]
def C0U(f:A44):Nat×Fn:=(111,⟨C8c,C8d,fun x=>f x.1 x.2.1⟩)
def E03:Fn:=(C0U A0q).2
theorem E04(f_s_l18Send_W:A9L)(f_s_l18Serve_W:A7I)(f_s_l18Sync:B2v)(f_s_l18Tell_W:A9N)(f_s_l18Cut_W:B13)(f_s_l18Crash_W:A7K):∀ x,(C4 A4i [C2P f_s_l18Send_W,C0Q f_s_l18Serve_W,C2V f_s_l18Sync,C2b f_s_l18Tell_W,C5W f_s_l18Cut_W,C0T f_s_l18Crash_W] (B4 []) 41 [.tmp 4] (Tryz.f111.body.getD .skip) C8c C8d).fn x=B33 f_s_l18Send_W f_s_l18Serve_W f_s_l18Sync f_s_l18Tell_W f_s_l18Cut_W f_s_l18Crash_W x.1 x.2.1:=by intro x;kernel_rfl
theorem C8e:B1 Tryz.prog 111 E03:=sm MO J7 (tc Tryz.call194 D4R (tc Tryz.call195 D3O (tc Tryz.call196 D4a (tc Tryz.call197 D4e (tc Tryz.call198 D7T (tc Tryz.call199 D3S A7)))))) Tryz.func111 (by kernel_rfl) (by decide) (E04 A1c A10 A40 A1f A2c A11)
abbrev C8f:List PK:= [.val true (.pair (.pair (.pair (.rs 9 .str) (.rs 9 .str)) (.pair (.int .i64) (.pair (.int .i64) (.rs 109 kUp)))) (.rs 130 A9)) false]
abbrev C8g:List RK:= [.val true A6s]
def C0V(f:U9):Nat×Fn:=(89,⟨C8f,C8g,fun x=>f x.1⟩)
def E05:Fn:=(C0V S5).2
theorem E06(f_s_l14Copy:M1):∀ x,(C4 cfg [C8D f_s_l14Copy] (B4 []) 11 [.cell 2 32] (Tryz.f89.body.getD .skip) C8f C8g).fn x=B34 f_s_l14Copy x.1:=by intro x;kernel_rfl
theorem C8h:B1 Tryz.prog 89 E05:=sm MO B2 (tc Tryz.call157 D9c A7) Tryz.func89 (by kernel_rfl) (by decide) (E06 K6)
abbrev B0j:List PK:= [.val true (.pair (.pair (.rs 9 .str) (.rs 9 .str)) (.pair (.int .i64) (.pair (.int .i64) (.rs 109 kUp)))) false]
abbrev B0k:List RK:= [.val true (.pair A0C (.pair (.int .i64) (.pair (.int .i64) (.sl 109 (.pair .str (.pair (.int .i64) (.pair (.rs 5 (.int .u8)) .bool)))))))]
def A4r(f:A3E):Nat×Fn:=(273,⟨B0j,B0k,fun x=>f x.1⟩)
def C1a:Fn:=(A4r A1g).2
theorem C1b(f_s_l14Copy:M1)(f_s_StoreOk:P5)(f_s_FlushDisk:A3B):∀ x,(C4 A4i [K0 f_s_l14Copy,A4H f_s_StoreOk,B47 f_s_FlushDisk] (B4 []) 13 [.cell 2 29] (Tryz.f273.body.getD .skip) B0j B0k).fn x=A9P f_s_l14Copy f_s_StoreOk f_s_FlushDisk x.1:=by intro x;kernel_rfl
theorem B0l:B1 Tryz.prog 273 C1a:=sm MO J7 (tc Tryz.call157 N3 (tc Tryz.call159 A6a (tc Tryz.call252 C2J A7))) Tryz.func273 (by kernel_rfl) (by decide) (C1b K6 E7 A1b)
abbrev A6g:List PK:= [.val true (.pair (.pair (.pair (.rs 9 .str) (.rs 9 .str)) (.pair (.int .i64) (.pair (.int .i64) (.rs 109 kUp)))) (.rs 130 A9)) false]
abbrev A6h:List RK:= [.val true (.pair (.pair A0C (.pair (.int .i64) (.pair (.int .i64) (.sl 109 (.pair .str (.pair (.int .i64) (.pair (.rs 5 (.int .u8)) .bool))))))) (.sl 130 A9))]
def A0O(f:U9):Nat×Fn:=(89,⟨A6g,A6h,fun x=>f x.1⟩)
def B5G:Fn:=(A0O S5).2
theorem B5H(f_s_l14Copy:M1):∀ x,(C4 A4i [K0 f_s_l14Copy] (B4 []) 11 [.cell 2 32] (Tryz.f89.body.getD .skip) A6g A6h).fn x=B34 f_s_l14Copy x.1:=by intro x;kernel_rfl
theorem A2A:B1 Tryz.prog 89 B5G:=sm MO J7 (tc Tryz.call157 N3 A7) Tryz.func89 (by kernel_rfl) (by decide) (B5H K6)
abbrev B3a:List PK:= [.val true (.pair (.pair (.pair (.rs 9 .str) (.rs 9 .str)) (.pair (.int .i64) (.pair (.int .i64) (.rs 109 kUp)))) (.rs 130 A9)) false]
abbrev B3b:List RK:= [.val true (.pair (.pair A0C (.pair (.int .i64) (.pair (.int .i64) (.sl 109 (.pair .str (.pair (.int .i64) (.pair (.rs 5 (.int .u8)) .bool))))))) (.sl 130 A9)),.val false (.sl 130 A9)]
def B3c(f:A1R):Nat×Fn:=(217,⟨B3a,B3b,fun x=>f x.1⟩)
def C5a:Fn:=(B3c A0N).2
theorem C5b(f_s_l15Copy:U9)(f_s_ServerOk:A08)(f_s_SyncStore:A3E):∀ x,(C4 A4i [A0O f_s_l15Copy,A7m f_s_ServerOk,A4r f_s_SyncStore] (B4 []) 23 [.cell 2 32,.tmp 3] (Tryz.f217.body.getD .skip) B3a B3b).fn x=A7M f_s_l15Copy f_s_ServerOk f_s_SyncStore x.1:=by intro x;kernel_rfl
theorem C5c:B1 Tryz.prog 217 C5a:=sm MO J7 (tc Tryz.call89 A2A (tc Tryz.call90 B1C (tc Tryz.call273 B0l A7))) Tryz.func217 (by kernel_rfl) (by decide) (C5b S5 J5 A1g)
abbrev A3R:List PK:= [.val true (.pair (.pair A0C (.pair (.int .i64) (.pair (.int .i64) (.sl 109 (.pair .str (.pair (.int .i64) (.pair (.rs 5 (.int .u8)) .bool))))))) (.sl 130 A9)) true,.val false (.rs 4 .bool) false]
abbrev A3S:List RK:= [.val true (.pair (.pair A0C (.pair (.int .i64) (.pair (.int .i64) (.sl 109 (.pair .str (.pair (.int .i64) (.pair (.rs 5 (.int .u8)) .bool))))))) (.sl 130 A9)),.val false .bool]
def A3T(f:M8):Nat×Fn:=(218,⟨A3R,A3S,fun x=>f x.1 x.2.1⟩)
def B1D:Fn:=(A3T I9).2
theorem B1E(f_s_l15Copy:U9)(f_s_ServerOk:A08)(f_s_OpenStore_r98_0:M2)(f_s_FallDisk:A1Q):∀ x,(C4 A4i [C0V f_s_l15Copy,A7m f_s_ServerOk,A1q f_s_OpenStore_r98_0,B1B f_s_FallDisk] (B4 []) 28 [.cell 4 32,.tmp 5] (Tryz.f218.body.getD .skip) A3R A3S).fn x=A0g f_s_l15Copy f_s_ServerOk f_s_OpenStore_r98_0 f_s_FallDisk x.1 x.2.1:=by intro x;kernel_rfl
theorem B1F:B1 Tryz.prog 218 B1D:=sm MO J7 (tc Tryz.call89 C8h (tc Tryz.call90 B1C (tc Tryz.call257 A4p (tc Tryz.call258 B75 A7)))) Tryz.func218 (by kernel_rfl) (by decide) (B1E S5 J5 C5 Q9)
def C9L:Nat->Option Jn:=B4 [(7,⟨[],lt 15 14 [],false⟩)]
abbrev B7p:List PK:= [.val true (.pair (.pair (.pair (.rs 9 .str) (.rs 9 .str)) (.pair (.int .i64) (.pair (.int .i64) (.rs 109 kUp)))) (.rs 130 A9)) false,.val false (.int .i64) false,.val true A06 false,.val false (.rs 5 (.int .u8)) false]
abbrev B7q:List RK:= [.val true (.pair (.pair A0C (.pair (.int .i64) (.pair (.int .i64) (.sl 109 (.pair .str (.pair (.int .i64) (.pair (.rs 5 (.int .u8)) .bool))))))) (.sl 130 A9)),.val false .bool]
def B7r(f:A2r):Nat×Fn:=(26,⟨B7p,B7q,fun x=>f x.1 x.2.1 x.2.2.1 x.2.2.2.1⟩)
def C9M:Fn:=(B7r A1G).2
theorem C9N(f_s_l15Copy:U9)(f_s_ServerOk:A08)(f_s_ReqOk:A8n)(f_s_l15Does_r94_0_r98_0:A0M):∀ x,(C4 A4i [A0O f_s_l15Copy,A7m f_s_ServerOk,C75 f_s_ReqOk,A6f f_s_l15Does_r94_0_r98_0] C9L 49 [.cell 8 32,.tmp 9] (Tryz.f26.body.getD .skip) B7p B7q).fn x=B0H f_s_l15Copy f_s_ServerOk f_s_ReqOk f_s_l15Does_r94_0_r98_0 x.1 x.2.1 x.2.2.1 x.2.2.2.1:=by intro x;kernel_rfl
theorem C9O:B1 Tryz.prog 26 C9M:=sm MO J7 (tc Tryz.call89 A2A (tc Tryz.call90 B1C (tc Tryz.call91 D5i (tc Tryz.call92 B5F A7)))) Tryz.func26 (by kernel_rfl) (by decide) (C9N S5 J5 A3C S4)
def E07:Nat->Option Jn:=B4 [(7,⟨[.b 3 [.own 40960,.own 40961,.int .i64,.int .i64,.own 40964,.own 40965,.own 100000000,.own 13,.nil,.own 17,.own 21],.r 13 4 .bool,.r 17 130 A9,.r 21 3 (.int .i64),.r 40960 9 .str,.r 40961 9 .str,.r 40964 109 kUp,.r 40965 130 A9,.r 100000000 79 B3],lt 23 18 [.r 38,.r 39,.r 155649,.t 4],true⟩),(58,⟨[.t 4 false [.int .i64],.b 3 [.own 40960,.own 40961,.int .i64,.int .i64,.own 40964,.own 40965,.own 100000000,.own 13,.nil,.own 17,.own 21],.r 13 4 .bool,.r 17 130 A9,.r 21 3 (.int .i64),.r 40960 9 .str,.r 40961 9 .str,.r 40964 109 kUp,.r 40965 130 A9,.r 100000000 79 B3],lt 23 18 [.r 38,.r 39,.r 155649],false⟩),(122,⟨[.t 5 false [.int .i64],.b 3 [.own 40960,.own 40961,.int .i64,.int .i64,.own 40964,.own 40965,.own 100000000,.own 13,.own 100002001,.own 17,.own 21],.r 13 4 .bool,.r 17 130 A9,.r 21 3 (.int .i64),.r 40960 9 .str,.r 40961 9 .str,.r 40964 109 kUp,.r 40965 130 A9,.r 100000000 79 B3,.r 100002001 113 E5],lt 41 23 [.b 6,.r 53,.r 56,.r 61,.r 62,.t 6],false⟩)]
abbrev C8i:List PK:= [.val true (.pair (.pair (.pair (.pair (.rs 9 .str) (.rs 9 .str)) (.pair (.int .i64) (.pair (.int .i64) (.rs 109 kUp)))) (.rs 130 A9)) (.pair (.rs 79 B3) (.pair (.rs 4 .bool) (.pair (.rs 113 E5) (.pair (.rs 130 A9) (.rs 3 (.int .i64))))))) false]
abbrev C8j:List RK:= [.val true A6t]
def C8k(f:A45):Nat×Fn:=(109,⟨C8i,C8j,fun x=>f x.1⟩)
def E08:Fn:=(C8k A2C).2
theorem E09(f_s_l15Copy:U9)(f_s_l17Copy:A0H):∀ x,(C4 cfg [C0V f_s_l15Copy,B02 f_s_l17Copy] E07 65 [.cell 2 38] (Tryz.f109.body.getD .skip) C8i C8j).fn x=B35 f_s_l15Copy f_s_l17Copy x.1:=by intro x;kernel_rfl
theorem E0A:B1 Tryz.prog 109 E08:=sm MO B2 (tc Tryz.call89 C8h (tc Tryz.call193 B3W A7)) Tryz.func109 (by kernel_rfl) (by decide) (E09 S5 O2)
def B5I:Nat->Option Jn:=B4 [(7,⟨[.b 3 [.own 40960,.own 40961,.int .i64,.int .i64,.own 40964,.own 40965,.own 100000000,.own 13,.nil,.own 17,.own 21],.r 13 4 .bool,.r 17 130 A9,.r 21 3 (.int .i64),.r 40960 9 .str,.r 40961 9 .str,.r 40964 109 (.pair .str (.pair (.int .i64) (.pair (.rs 5 (.int .u8)) .bool))),.r 40965 130 A9,.r 100000000 79 (.pair .str (.pair (.rs 5 (.int .u8)) D8))],lt 23 18 [.r 38,.r 39,.r 155649,.t 4],true⟩),(58,⟨[.t 4 false [.int .i64],.b 3 [.own 40960,.own 40961,.int .i64,.int .i64,.own 40964,.own 40965,.own 100000000,.own 13,.nil,.own 17,.own 21],.r 13 4 .bool,.r 17 130 A9,.r 21 3 (.int .i64),.r 40960 9 .str,.r 40961 9 .str,.r 40964 109 (.pair .str (.pair (.int .i64) (.pair (.rs 5 (.int .u8)) .bool))),.r 40965 130 A9,.r 100000000 79 (.pair .str (.pair (.rs 5 (.int .u8)) D8))],lt 23 18 [.r 38,.r 39,.r 155649],false⟩),(122,⟨[.t 5 false [.int .i64],.b 3 [.own 40960,.own 40961,.int .i64,.int .i64,.own 40964,.own 40965,.own 100000000,.own 13,.own 100002001,.own 17,.own 21],.r 13 4 .bool,.r 17 130 A9,.r 21 3 (.int .i64),.r 40960 9 .str,.r 40961 9 .str,.r 40964 109 (.pair .str (.pair (.int .i64) (.pair (.rs 5 (.int .u8)) .bool))),.r 40965 130 A9,.r 100000000 79 (.pair .str (.pair (.rs 5 (.int .u8)) D8)),.r 100002001 113 (.pair (.int .i64) (.pair A06 (.rs 5 (.int .u8))))],lt 41 23 [.b 6,.r 53,.r 56,.r 61,.r 62,.t 6],false⟩)]
abbrev A6i:List PK:= [.val true (.pair (.pair (.pair (.pair (.rs 9 .str) (.rs 9 .str)) (.pair (.int .i64) (.pair (.int .i64) (.rs 109 kUp)))) (.rs 130 A9)) (.pair (.rs 79 B3) (.pair (.rs 4 .bool) (.pair (.rs 113 E5) (.pair (.rs 130 A9) (.rs 3 (.int .i64))))))) false]
abbrev A6j:List RK:= [.val true (.pair (.pair (.pair A0C (.pair (.int .i64) (.pair (.int .i64) (.sl 109 (.pair .str (.pair (.int .i64) (.pair (.rs 5 (.int .u8)) .bool))))))) (.sl 130 A9)) (.pair (.sl 79 (.pair .str (.pair (.rs 5 (.int .u8)) D8))) (.pair (.sl 4 .bool) (.pair (.sl 113 (.pair (.int .i64) (.pair A06 (.rs 5 (.int .u8))))) (.pair (.sl 130 A9) (.sl 3 (.int .i64)))))))]
def A6k(f:A45):Nat×Fn:=(109,⟨A6i,A6j,fun x=>f x.1⟩)
def B5J:Fn:=(A6k A2C).2
theorem B5K(f_s_l15Copy:U9)(f_s_l17Copy:A0H):∀ x,(C4 A4i [A0O f_s_l15Copy,B02 f_s_l17Copy] B5I 65 [.cell 2 38] (Tryz.f109.body.getD .skip) A6i A6j).fn x=B35 f_s_l15Copy f_s_l17Copy x.1:=by intro x;kernel_rfl
theorem B5L:B1 Tryz.prog 109 B5J:=sm MO J7 (tc Tryz.call89 A2A (tc Tryz.call193 B3W A7)) Tryz.func109 (by kernel_rfl) (by decide) (B5K S5 O2)
end
end Go.Proofs.YtpdcljonclhhpaaGreat.Ev
