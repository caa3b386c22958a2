/- Each function of the program does what its plain function says. -/
import Derived.Test.YtpdcljonclhhpaaGreatG1
set_option linter.unusedVariables false
set_option maxRecDepth 100000
namespace Go.Proofs.YtpdcljonclhhpaaGreat.Ev
noncomputable section
def C2O:Nat→Option Jn:=B4 [(7,⟨[],lt 9 30 [.t 4,.t 5],false⟩),(58,⟨[.t 4 false [.int .i64]],lt 9 30 [.t 5],false⟩),(7462,⟨[.t 5 false [.int .i64]],lt 21 18 [],false⟩)]
abbrev B2g:List PK:= [.val true (.pair (.pair (.pair (.pair (.rs 9 .str) (.rs 9 .str)) (.pair (.int .i64) (.pair (.int .i64) (.rs 109 kUp)))) (.rs 130 B0)) (.pair (.rs 79 A9) (.pair (.rs 4 .bool) (.pair (.rs 113 H0) (.pair (.rs 130 B0) (.rs 3 (.int .i64))))))) false]
abbrev B2h:List RK:= [.val false .bool]
def B2i(f:A3L):Nat×Fn:=(141,⟨B2g,B2h,fun x=>f x.1⟩)
def C2P:Fn:=(B2i A1F).2
theorem C2Q(f_s_ClientOk:O6):∀ x,(C5 cfg [A3d f_s_ClientOk] C2O 55 [.tmp 2] (Tryz.f141.body.getD .skip) B2g B2h).fn x=A6i f_s_ClientOk x.1:=by intro x;kernel_rfl
theorem C2R:B3 Tryz.prog 141 C2P:=sm MO B6 (tc Tryz.call215 A69 A6) Tryz.func141 (by kernel_rfl) (by decide) (C2Q G1)
def D0W:Nat→Option Jn:=B4 [(26,⟨[.t 5 false [.int .i64]],lt 6 26 [],false⟩)]
abbrev C2S:List PK:= [.val true (.pair (.pair (.pair (.pair (.rs 9 .str) (.rs 9 .str)) (.pair (.int .i64) (.pair (.int .i64) (.rs 109 kUp)))) (.rs 130 B0)) (.pair (.rs 79 A9) (.pair (.rs 4 .bool) (.pair (.rs 113 H0) (.pair (.rs 130 B0) (.rs 3 (.int .i64))))))) false,.val false (.rs 130 B0) false]
abbrev C2T:List RK:= [.val false .bool]
def C2U(f:B00):Nat×Fn:=(142,⟨C2S,C2T,fun x=>f x.1 x.2.1⟩)
def D0X:Fn:=(C2U A6j).2
theorem D0Y(f_s_l1In:D7)(f_s_RespOk:A1C):∀ x,(C5 cfg [R0 f_s_l1In,B55 f_s_RespOk] D0W 32 [.tmp 4] (Tryz.f142.body.getD .skip) C2S C2T).fn x=B4g f_s_l1In f_s_RespOk x.1 x.2.1:=by intro x;kernel_rfl
theorem D0Z:B3 Tryz.prog 142 D0X:=sm MO B6 (tc Tryz.call120 S6 (tc Tryz.call158 C23 A6)) Tryz.func142 (by kernel_rfl) (by decide) (D0Y D8 R1)
def C7g:Nat→Option Jn:=B4 [(3,⟨[],lt 4 36 [],false⟩),(58,⟨[.t 3 false [.int .i64]],lt 40 29 [],false⟩)]
abbrev B8a:List PK:= [.val true (.pair (.pair (.pair (.pair (.rs 9 .str) (.rs 9 .str)) (.pair (.int .i64) (.pair (.int .i64) (.rs 109 kUp)))) (.rs 130 B0)) (.pair (.rs 79 A9) (.pair (.rs 4 .bool) (.pair (.rs 113 H0) (.pair (.rs 130 B0) (.rs 3 (.int .i64))))))) false]
abbrev B8b:List RK:= [.val false .bool]
def B2j(f:A2n):Nat×Fn:=(70,⟨B8a,B8b,fun x=>f x.1⟩)
def C7h:Fn:=(B2j X4).2
theorem C7i(f_s_ServerOk:R7)(f_s_ReqOk:A4J)(f_s_l1In:D7)(f_s_l18Clients:A3L)(f_s_l18Who:B00):∀ x,(C5 cfg [A3c f_s_ServerOk,B7O f_s_ReqOk,R0 f_s_l1In,B2i f_s_l18Clients,C2U f_s_l18Who] C7g 69 [.tmp 2] (Tryz.f70.body.getD .skip) B8a B8b).fn x=B1u f_s_ServerOk f_s_ReqOk f_s_l1In f_s_l18Clients f_s_l18Who x.1:=by intro x;kernel_rfl
theorem B8c:B3 Tryz.prog 70 C7h:=sm MO B6 (tc Tryz.call90 A68 (tc Tryz.call91 C4a (tc Tryz.call120 S6 (tc Tryz.call141 C2R (tc Tryz.call142 D0Z A6))))) Tryz.func70 (by kernel_rfl) (by decide) (C7i J3 A2m D8 A1F A6j)
abbrev C7j:List PK:= [.val true (.pair (.pair (.rs 9 .str) (.rs 9 .str)) (.pair (.int .i64) (.pair (.int .i64) (.rs 109 kUp)))) false,.val false .str false]
abbrev C7k:List RK:= [.val true kUp,.val false .bool]
def A5G(f:O7):Nat×Fn:=(113,⟨C7j,C7k,fun x=>f x.1 x.2.1⟩)
def D5I:Fn:=(A5G I1).2
theorem D5J(f_s_l14At:S8):∀ x,(C5 cfg [A4X f_s_l14At] (B4 []) 26 [.cell 4 109,.tmp 5] (Tryz.f113.body.getD .skip) C7j C7k).fn x=B1v f_s_l14At x.1 x.2.1:=by intro x;kernel_rfl
theorem A74:B3 Tryz.prog 113 D5I:=sm MO B6 (tc Tryz.call206 A6L A6) Tryz.func113 (by kernel_rfl) (by decide) (D5J P5)
def C3F:Nat→Option Jn:=B4 [(58,⟨[.t 5 false [.int .i64]],lt 11 15 [],false⟩)]
abbrev B3v:List PK:= [.val false (.rs 5 (.int .u8)) false,.val false (.rs 5 (.int .u8)) false]
abbrev B3w:List RK:= [.val false .bool]
def B3x(f:A1s):Nat×Fn:=(143,⟨B3v,B3w,fun x=>f x.1 x.2.1⟩)
def C3G:Fn:=(B3x A0m).2
theorem C3H:∀ x,(C5 cfg [] C3F 26 [.tmp 4] (Tryz.f143.body.getD .skip) B3v B3w).fn x=A85 x.1 x.2.1:=by intro x;kernel_rfl
theorem C3I:B3 Tryz.prog 143 C3G:=sm MO B6 A6 Tryz.func143 (by kernel_rfl) (by decide) (C3H)
def D0a:Nat→Option Jn:=B4 [(26,⟨[.t 3 false [.int .i64]],lt 4 47 [.b 4,.r 98306],false⟩)]
abbrev C2V:List PK:= [.val true (.pair (.pair (.pair (.pair (.rs 9 .str) (.rs 9 .str)) (.pair (.int .i64) (.pair (.int .i64) (.rs 109 kUp)))) (.rs 130 B0)) (.pair (.rs 79 A9) (.pair (.rs 4 .bool) (.pair (.rs 113 H0) (.pair (.rs 130 B0) (.rs 3 (.int .i64))))))) false]
abbrev C2W:List RK:= [.val false .bool]
def C2X(f:B01):Nat×Fn:=(71,⟨C2V,C2W,fun x=>f x.1⟩)
def D0b:Fn:=(C2X A6k).2
theorem D0c(f_s_UpAt:O7)(f_s_l19Begins:A1s):∀ x,(C5 cfg [A5G f_s_UpAt,B3x f_s_l19Begins] D0a 51 [.tmp 2] (Tryz.f71.body.getD .skip) C2V C2W).fn x=C0q f_s_UpAt f_s_l19Begins x.1:=by intro x;kernel_rfl
theorem D0d:B3 Tryz.prog 71 D0b:=sm MO B6 (tc Tryz.call113 A74 (tc Tryz.call143 C3I A6)) Tryz.func71 (by kernel_rfl) (by decide) (D0c I1 A0m)
def C7l:Nat→Option Jn:=B4 [(26,⟨[.t 3 false [.int .i64]],lt 4 50 [.b 4,.r 126978],false⟩),(52,⟨[],lt 6 12 [],false⟩)]
abbrev B8d:List PK:= [.val true (.pair (.pair (.pair (.pair (.rs 9 .str) (.rs 9 .str)) (.pair (.int .i64) (.pair (.int .i64) (.rs 109 kUp)))) (.rs 130 B0)) (.pair (.rs 79 A9) (.pair (.rs 4 .bool) (.pair (.rs 113 H0) (.pair (.rs 130 B0) (.rs 3 (.int .i64))))))) false]
abbrev B8e:List RK:= [.val false .bool]
def B8f(f:A7T):Nat×Fn:=(72,⟨B8d,B8e,fun x=>f x.1⟩)
def C7m:Fn:=(B8f A2o).2
theorem C7n(f_s_UpAt:O7):∀ x,(C5 cfg [A5G f_s_UpAt] C7l 54 [.tmp 2] (Tryz.f72.body.getD .skip) B8d B8e).fn x=B83 f_s_UpAt x.1:=by intro x;kernel_rfl
theorem C7o:B3 Tryz.prog 72 C7m:=sm MO B6 (tc Tryz.call113 A74 A6) Tryz.func72 (by kernel_rfl) (by decide) (C7n I1)
def D5K:Nat→Option Jn:=B4 [(26,⟨[.t 3 false [.int .i64]],lt 4 51 [.b 4,.r 98306],false⟩)]
abbrev C7p:List PK:= [.val true (.pair (.pair (.pair (.pair (.rs 9 .str) (.rs 9 .str)) (.pair (.int .i64) (.pair (.int .i64) (.rs 109 kUp)))) (.rs 130 B0)) (.pair (.rs 79 A9) (.pair (.rs 4 .bool) (.pair (.rs 113 H0) (.pair (.rs 130 B0) (.rs 3 (.int .i64))))))) false]
abbrev C7q:List RK:= [.val false .bool]
def C7r(f:B5h):Nat×Fn:=(73,⟨C7p,C7q,fun x=>f x.1⟩)
def D5L:Fn:=(C7r B1w).2
theorem D5M(f_s_UpAt:O7):∀ x,(C5 cfg [A5G f_s_UpAt] D5K 55 [.tmp 2] (Tryz.f73.body.getD .skip) C7p C7q).fn x=C6R f_s_UpAt x.1:=by intro x;kernel_rfl
theorem D5N:B3 Tryz.prog 73 D5L:=sm MO B6 (tc Tryz.call113 A74 A6) Tryz.func73 (by kernel_rfl) (by decide) (D5M I1)
def C3J:Nat→Option Jn:=B4 [(26,⟨[.t 3 false [.int .i64]],lt 4 14 [],false⟩)]
abbrev B3y:List PK:= [.val true (.pair (.pair (.pair (.pair (.rs 9 .str) (.rs 9 .str)) (.pair (.int .i64) (.pair (.int .i64) (.rs 109 kUp)))) (.rs 130 B0)) (.pair (.rs 79 A9) (.pair (.rs 4 .bool) (.pair (.rs 113 H0) (.pair (.rs 130 B0) (.rs 3 (.int .i64))))))) false]
abbrev B3z:List RK:= [.val false .bool]
def B40(f:A4j):Nat×Fn:=(74,⟨B3y,B3z,fun x=>f x.1⟩)
def C3K:Fn:=(B40 A0n).2
theorem C3L:∀ x,(C5 cfg [] C3J 18 [.tmp 2] (Tryz.f74.body.getD .skip) B3y B3z).fn x=B3j x.1:=by intro x;kernel_rfl
theorem C3M:B3 Tryz.prog 74 C3K:=sm MO B6 A6 Tryz.func74 (by kernel_rfl) (by decide) (C3L)
abbrev C7s:List PK:= [.val true (.pair (.pair (.pair (.pair (.rs 9 .str) (.rs 9 .str)) (.pair (.int .i64) (.pair (.int .i64) (.rs 109 kUp)))) (.rs 130 B0)) (.pair (.rs 79 A9) (.pair (.rs 4 .bool) (.pair (.rs 113 H0) (.pair (.rs 130 B0) (.rs 3 (.int .i64))))))) false]
abbrev C7t:List RK:= [.val false (.int .i64)]
def C7u(f:B5i):Nat×Fn:=(18,⟨C7s,C7t,fun x=>f x.1⟩)
def D5O:Fn:=(C7u B5j).2
theorem D5P(f_s_WorldOk:A2n)(f_s_Begins:B01)(f_s_NotLost:A7T)(f_s_Ends:B5h)(f_s_NoneFails:A4j):∀ x,(C5 cfg [B2j f_s_WorldOk,C2X f_s_Begins,B8f f_s_NotLost,C7r f_s_Ends,B40 f_s_NoneFails] (B4 []) 23 [.tmp 2] (Tryz.f18.body.getD .skip) C7s C7t).fn x=C0r f_s_WorldOk f_s_Begins f_s_NotLost f_s_Ends f_s_NoneFails x.1:=by intro x;kernel_rfl
theorem D5Q:B3 Tryz.prog 18 D5O:=sm MO B6 (tc Tryz.call70 B8c (tc Tryz.call71 D0d (tc Tryz.call72 C7o (tc Tryz.call73 D5N (tc Tryz.call74 C3M A6))))) Tryz.func18 (by kernel_rfl) (by decide) (D5P X4 A6k A2o B1w A0n)
def C7v:Nat→Option Jn:=B4 [(128503,⟨[.t 7 false [.int .i64]],lt 40 8 [],true⟩)]
abbrev B8g:List PK:= [.val true (.pair .str (.pair (.rs 5 (.int .u8)) E7)) false]
abbrev B8h:List RK:= [.val true W6,.val false (.sl 5 (.int .u8)),.val false .bool]
def B8i(f:A7V):Nat×Fn:=(251,⟨B8g,B8h,fun x=>f x.1⟩)
def C7w:Fn:=(B8i A53).2
theorem C7x(f_s_Crc:A2H)(f_s_ClientOk:O6):∀ x,(C5 cfg [B3M f_s_Crc,A3d f_s_ClientOk] C7v 65 [.cell 2 43,.tmp 3,.tmp 4] (Tryz.f251.body.getD .skip) B8g B8h).fn x=B1y f_s_Crc f_s_ClientOk x.1:=by intro x;kernel_rfl
theorem C7y:B3 Tryz.prog 251 C7w:=sm MO B6 (tc Tryz.call152 B6J (tc Tryz.call215 A69 A6)) Tryz.func251 (by kernel_rfl) (by decide) (C7x A1Z G1)
abbrev B8j:List PK:= [.val true (.pair (.rs 9 .str) (.rs 9 .str)) false]
abbrev B8k:List RK:= [.val true V5]
def A5H(f:X5):Nat×Fn:=(229,⟨B8j,B8k,fun x=>f x.1⟩)
def C7z:Fn:=(A5H U8).2
theorem C80:∀ x,(C5 cfg [] (B4 []) 12 [.cell 2 26] (Tryz.f229.body.getD .skip) B8j B8k).fn x=B1z x.1:=by intro x;kernel_rfl
theorem A7q:B3 Tryz.prog 229 C7z:=sm MO B6 A6 Tryz.func229 (by kernel_rfl) (by decide) (C80)
abbrev B8l:List PK:= [.val true (.pair (.pair (.rs 9 .str) (.rs 9 .str)) (.pair (.int .i64) (.pair (.int .i64) (.rs 109 kUp)))) false]
abbrev B8m:List RK:= [.val true C91]
def B8n(f:I9):Nat×Fn:=(157,⟨B8l,B8m,fun x=>f x.1⟩)
def C81:Fn:=(B8n H7).2
theorem C82(f_s_l12Copy:X5)(f_s_l14CopyUps:M2):∀ x,(C5 cfg [A5H f_s_l12Copy,A6x f_s_l14CopyUps] (B4 []) 14 [.cell 2 29] (Tryz.f157.body.getD .skip) B8l B8m).fn x=A7W f_s_l12Copy f_s_l14CopyUps x.1:=by intro x;kernel_rfl
theorem C83:B3 Tryz.prog 157 C81:=sm MO B6 (tc Tryz.call229 A7q (tc Tryz.call230 B2b A6)) Tryz.func157 (by kernel_rfl) (by decide) (C82 U8 K6)
abbrev B8o:List PK:= [.val true (.pair (.pair (.rs 9 .str) (.rs 9 .str)) (.pair (.int .i64) (.pair (.int .i64) (.rs 109 kUp)))) false]
abbrev B8p:List RK:= [.val false (.int .i64)]
def A5I(f:U9):Nat×Fn:=(236,⟨B8o,B8p,fun x=>f x.1⟩)
def C84:Fn:=(A5I S3).2
theorem C85:∀ x,(C5 cfg [] (B4 []) 10 [.tmp 2] (Tryz.f236.body.getD .skip) B8o B8p).fn x=B20 x.1:=by intro x;kernel_rfl
theorem A7r:B3 Tryz.prog 236 C84:=sm MO B6 A6 Tryz.func236 (by kernel_rfl) (by decide) (C85)
abbrev A75:List PK:= [.ptr (.pair V5 (.pair (.int .i64) (.pair (.int .i64) (.sl 109 (.pair .str (.pair (.int .i64) (.pair (.rs 5 (.int .u8)) .bool))))))),.val true (.pair (.int .i64) (.pair (.int .i64) (.pair (.int .i64) (.pair .str (.pair (.int .i64) (.rs 5 (.int .u8))))))) false]
abbrev A76:List RK:= []
def V9(f:F4):Nat×Fn:=(237,⟨A75,A76,fun x=>f x.1 x.2.1⟩)
def B5B:Fn:=(V9 D9).2
theorem B5C(f_s_l14One_r93_0_r94_0:H8)(f_s_l13Put:A4H):∀ x,(C5 cfg [A0V f_s_l14One_r93_0_r94_0,B57 f_s_l13Put] (B4 []) 46 [] (Tryz.f237.body.getD .skip) A75 A76).fn x=A2U f_s_l14One_r93_0_r94_0 f_s_l13Put x.1 x.2.1:=by intro x;kernel_rfl
theorem A0W:B3 Tryz.prog 237 B5B:=sm MO B6 (tc Tryz.call281 A3b (tc Tryz.call284 C2E A6)) Tryz.func237 (by kernel_rfl) (by decide) (B5C G0 A2R)
abbrev B6R:List PK:= [.val true (.pair (.pair (.rs 9 .str) (.rs 9 .str)) (.pair (.int .i64) (.pair (.int .i64) (.rs 109 kUp)))) false,.val true W6 false]
abbrev B6S:List RK:= [.val true E7]
def B0X(f:A1b):Nat×Fn:=(166,⟨B6R,B6S,fun x=>f x.1 x.2.1⟩)
def C5m:Fn:=(B0X A0L).2
theorem C5n(f_s_UpAt:O7):∀ x,(C5 cfg [A5G f_s_UpAt] (B4 []) 35 [.cell 4 126] (Tryz.f166.body.getD .skip) B6R B6S).fn x=B03 f_s_UpAt x.1 x.2.1:=by intro x;kernel_rfl
theorem B6T:B3 Tryz.prog 166 C5m:=sm MO B6 (tc Tryz.call113 A74 A6) Tryz.func166 (by kernel_rfl) (by decide) (C5n I1)
def D0e:Nat→Option Jn:=B4 [(235,⟨[.t 19 false [.bool]],[.t 20,.t 21],true⟩)]
abbrev C2Y:List PK:= [.val true (.pair (.pair (.rs 9 .str) (.rs 9 .str)) (.pair (.int .i64) (.pair (.int .i64) (.rs 109 kUp)))) false,.val false .str false,.val false (.int .i64) false]
abbrev C2Z:List RK:= [.val true E7]
def B5D(f:A4K):Nat×Fn:=(167,⟨C2Y,C2Z,fun x=>f x.1 x.2.1 x.2.2.1⟩)
def D0f:Fn:=(B5D A2V).2
theorem D0g(f_s_UpAt:O7):∀ x,(C5 cfg [A5G f_s_UpAt] D0e 33 [.cell 6 126] (Tryz.f167.body.getD .skip) C2Y C2Z).fn x=B4j f_s_UpAt x.1 x.2.1 x.2.2.1:=by intro x;kernel_rfl
theorem C2a:B3 Tryz.prog 167 D0f:=sm MO B6 (tc Tryz.call113 A74 A6) Tryz.func167 (by kernel_rfl) (by decide) (D0g I1)
abbrev A2x:List PK:= [.val true (.pair (.pair (.rs 9 .str) (.rs 9 .str)) (.pair (.int .i64) (.pair (.int .i64) (.rs 109 kUp)))) false]
abbrev A2y:List RK:= [.val true (.pair V5 (.pair (.int .i64) (.pair (.int .i64) (.sl 109 (.pair .str (.pair (.int .i64) (.pair (.rs 5 (.int .u8)) .bool)))))))]
def H4(f:I9):Nat×Fn:=(157,⟨A2x,A2y,fun x=>f x.1⟩)
def A8t:Fn:=(H4 H7).2
theorem A8u(f_s_l12Copy:X5)(f_s_l14CopyUps:M2):∀ x,(C5 A1l [A5H f_s_l12Copy,V8 f_s_l14CopyUps] (B4 []) 14 [.cell 2 29] (Tryz.f157.body.getD .skip) A2x A2y).fn x=A7W f_s_l12Copy f_s_l14CopyUps x.1:=by intro x;kernel_rfl
theorem K0:B3 Tryz.prog 157 A8t:=sm MO H6 (tc Tryz.call229 A7q (tc Tryz.call230 A1R A6)) Tryz.func157 (by kernel_rfl) (by decide) (A8u U8 K6)
def B7P:Nat→Option Jn:=B4 [(7,⟨[],lt 33 10 (lt 26 6 (lt 11 14 [])),false⟩),(28,⟨[.t 11 false [.bool]],lt 12 13 [],true⟩)]
abbrev A8v:List PK:= [.val true (.pair (.pair (.rs 9 .str) (.rs 9 .str)) (.pair (.int .i64) (.pair (.int .i64) (.rs 109 kUp)))) false,.val false .str false,.val false (.int .i64) false]
abbrev A8w:List RK:= [.val true (.pair V5 (.pair (.int .i64) (.pair (.int .i64) (.sl 109 (.pair .str (.pair (.int .i64) (.pair (.rs 5 (.int .u8)) .bool))))))),.val false (.int .i64)]
def A1f(f:N7):Nat×Fn:=(162,⟨A8v,A8w,fun x=>f x.1 x.2.1 x.2.2.1⟩)
def B7Q:Fn:=(A1f K9).2
theorem B7R(f_s_l1In:D7)(f_s_l14Copy:I9)(f_s_StoreOk:L6)(f_s_l11Id:P4)(f_s_l14At:S8)(f_s_l14Left:U9)(f_s_l14Write_r96_0:F4):∀ x,(C5 A1l [R0 f_s_l1In,H4 f_s_l14Copy,A1S f_s_StoreOk,A2s f_s_l11Id,A4X f_s_l14At,A5I f_s_l14Left,V9 f_s_l14Write_r96_0] B7P 49 [.cell 6 29,.tmp 7] (Tryz.f162.body.getD .skip) A8v A8w).fn x=A4L f_s_l1In f_s_l14Copy f_s_StoreOk f_s_l11Id f_s_l14At f_s_l14Left f_s_l14Write_r96_0 x.1 x.2.1 x.2.2.1:=by intro x;kernel_rfl
theorem A4Y:B3 Tryz.prog 162 B7Q:=sm MO H6 (tc Tryz.call120 S6 (tc Tryz.call157 K0 (tc Tryz.call159 A2w (tc Tryz.call160 A4W (tc Tryz.call206 A6L (tc Tryz.call236 A7r (tc Tryz.call237 A0W A6))))))) Tryz.func162 (by kernel_rfl) (by decide) (B7R D8 H7 D3 N4 P5 S3 D9)
def B9I:Nat→Option Jn:=B4 [(7,⟨[],lt 17 14 [],false⟩),(127,⟨[],lt 64 9 (lt 44 19 []),false⟩),(255,⟨[.b 10 [.own 100003000,.own 100003001,.int .i64,.int .i64,.own 100003002],.r 100003000 9 .str,.r 100003001 9 .str,.r 100003002 109 (.pair .str (.pair (.int .i64) (.pair (.rs 5 (.int .u8)) .bool)))],lt 74 26 [.r 92,.r 97,.r 69632,.r 69633,.r 69636,.r 411648,.r 411649,.r 411652,.t 13,.t 14],true⟩),(508,⟨[.t 44 false [.bool]],lt 45 18 [],true⟩),(2042,⟨[.t 13 false [.int .i64],.b 10 [.own 100003000,.own 100003001,.int .i64,.int .i64,.own 100003002],.r 100003000 9 .str,.r 100003001 9 .str,.r 100003002 109 (.pair .str (.pair (.int .i64) (.pair (.rs 5 (.int .u8)) .bool)))],lt 74 26 [.r 92,.r 97,.r 69632,.r 69633,.r 69636,.r 411648,.r 411649,.r 411652,.t 14],false⟩),(65353,⟨[.t 14 false [.int .i64]],lt 82 6 [],true⟩)]
abbrev B0u:List PK:= [.val true (.pair (.pair (.rs 9 .str) (.rs 9 .str)) (.pair (.int .i64) (.pair (.int .i64) (.rs 109 kUp)))) false,.val false .str false,.val false (.int .i64) false,.val false (.rs 5 (.int .u8)) false]
abbrev B0v:List RK:= [.val true (.pair V5 (.pair (.int .i64) (.pair (.int .i64) (.sl 109 (.pair .str (.pair (.int .i64) (.pair (.rs 5 (.int .u8)) .bool))))))),.val false (.int .i64)]
def A2M(f:P9):Nat×Fn:=(163,⟨B0u,B0v,fun x=>f x.1 x.2.1 x.2.2.1 x.2.2.2.1⟩)
def B9J:Fn:=(A2M M6).2
theorem B9K(f_s_l1In:D7)(f_s_l14Copy:I9)(f_s_StoreOk:L6)(f_s_l11Id:P4)(f_s_l14At:S8)(f_s_l14Left:U9)(f_s_l14Write_r96_0:F4):∀ x,(C5 A1l [R0 f_s_l1In,H4 f_s_l14Copy,A1S f_s_StoreOk,A2s f_s_l11Id,A4X f_s_l14At,A5I f_s_l14Left,V9 f_s_l14Write_r96_0] B9I 101 [.cell 8 29,.tmp 9] (Tryz.f163.body.getD .skip) B0u B0v).fn x=A5Q f_s_l1In f_s_l14Copy f_s_StoreOk f_s_l11Id f_s_l14At f_s_l14Left f_s_l14Write_r96_0 x.1 x.2.1 x.2.2.1 x.2.2.2.1:=by intro x;kernel_rfl
theorem A5X:B3 Tryz.prog 163 B9J:=sm MO H6 (tc Tryz.call120 S6 (tc Tryz.call157 K0 (tc Tryz.call159 A2w (tc Tryz.call160 A4W (tc Tryz.call206 A6L (tc Tryz.call236 A7r (tc Tryz.call237 A0W A6))))))) Tryz.func163 (by kernel_rfl) (by decide) (B9K D8 H7 D3 N4 P5 S3 D9)
def B7S:Nat→Option Jn:=B4 [(7,⟨[],lt 13 8 [],false⟩)]
abbrev A8x:List PK:= [.val true (.pair (.pair (.rs 9 .str) (.rs 9 .str)) (.pair (.int .i64) (.pair (.int .i64) (.rs 109 kUp)))) false,.val false .str false,.val false (.int .i64) false]
abbrev A8y:List RK:= [.val true (.pair V5 (.pair (.int .i64) (.pair (.int .i64) (.sl 109 (.pair .str (.pair (.int .i64) (.pair (.rs 5 (.int .u8)) .bool))))))),.val false (.int .i64)]
def A1g(f:N8):Nat×Fn:=(164,⟨A8x,A8y,fun x=>f x.1 x.2.1 x.2.2.1⟩)
def B7T:Fn:=(A1g L0).2
theorem B7U(f_s_Crc:A2H)(f_s_l14Copy:I9)(f_s_StoreOk:L6)(f_s_l11Id:P4)(f_s_l14At:S8)(f_s_l14Left:U9)(f_s_l14Write_r96_0:F4):∀ x,(C5 A1l [B3M f_s_Crc,H4 f_s_l14Copy,A1S f_s_StoreOk,A2s f_s_l11Id,A4X f_s_l14At,A5I f_s_l14Left,V9 f_s_l14Write_r96_0] B7S 62 [.cell 6 29,.tmp 7] (Tryz.f164.body.getD .skip) A8x A8y).fn x=A4M f_s_Crc f_s_l14Copy f_s_StoreOk f_s_l11Id f_s_l14At f_s_l14Left f_s_l14Write_r96_0 x.1 x.2.1 x.2.2.1:=by intro x;kernel_rfl
theorem A4Z:B3 Tryz.prog 164 B7T:=sm MO H6 (tc Tryz.call152 B6J (tc Tryz.call157 K0 (tc Tryz.call159 A2w (tc Tryz.call160 A4W (tc Tryz.call206 A6L (tc Tryz.call236 A7r (tc Tryz.call237 A0W A6))))))) Tryz.func164 (by kernel_rfl) (by decide) (B7U A1Z H7 D3 N4 P5 S3 D9)
def B7V:Nat→Option Jn:=B4 [(7,⟨[],lt 26 4 (lt 19 6 (lt 9 9 [])),false⟩),(28,⟨[.t 9 false [.bool]],lt 10 8 [],true⟩)]
abbrev A8z:List PK:= [.val true (.pair (.pair (.rs 9 .str) (.rs 9 .str)) (.pair (.int .i64) (.pair (.int .i64) (.rs 109 kUp)))) false,.val false .str false]
abbrev A90:List RK:= [.val true (.pair V5 (.pair (.int .i64) (.pair (.int .i64) (.sl 109 (.pair .str (.pair (.int .i64) (.pair (.rs 5 (.int .u8)) .bool))))))),.val false (.int .i64)]
def A1h(f:N9):Nat×Fn:=(165,⟨A8z,A90,fun x=>f x.1 x.2.1⟩)
def B7W:Fn:=(A1h L1).2
theorem B7X(f_s_l14Copy:I9)(f_s_StoreOk:L6)(f_s_l11Id:P4)(f_s_l14At:S8)(f_s_l14Left:U9)(f_s_l14Write_r96_0:F4):∀ x,(C5 A1l [H4 f_s_l14Copy,A1S f_s_StoreOk,A2s f_s_l11Id,A4X f_s_l14At,A5I f_s_l14Left,V9 f_s_l14Write_r96_0] B7V 35 [.cell 4 29,.tmp 5] (Tryz.f165.body.getD .skip) A8z A90).fn x=A4N f_s_l14Copy f_s_StoreOk f_s_l11Id f_s_l14At f_s_l14Left f_s_l14Write_r96_0 x.1 x.2.1:=by intro x;kernel_rfl
theorem A4a:B3 Tryz.prog 165 B7W:=sm MO H6 (tc Tryz.call157 K0 (tc Tryz.call159 A2w (tc Tryz.call160 A4W (tc Tryz.call206 A6L (tc Tryz.call236 A7r (tc Tryz.call237 A0W A6)))))) Tryz.func165 (by kernel_rfl) (by decide) (B7X H7 D3 N4 P5 S3 D9)
abbrev B41:List PK:= [.val true (.pair (.rs 9 .str) (.rs 9 .str)) false]
abbrev B42:List RK:= [.val true V5]
def A8I(f:A0o):Nat×Fn:=(252,⟨B41,B42,fun x=>f x.1⟩)
def C3N:Fn:=(A8I Y2).2
theorem C3O:∀ x,(C5 cfg [] (B4 []) 12 [.cell 2 26] (Tryz.f252.body.getD .skip) B41 B42).fn x=A86 x.1:=by intro x;kernel_rfl
theorem B43:B3 Tryz.prog 252 C3N:=sm MO B6 A6 Tryz.func252 (by kernel_rfl) (by decide) (C3O)
abbrev B8q:List PK:= [.val true (.pair .str (.pair (.rs 5 (.int .u8)) E7)) false]
abbrev B8r:List RK:= [.val false .bool]
def B2k(f:A2p):Nat×Fn:=(253,⟨B8q,B8r,fun x=>f x.1⟩)
def C86:Fn:=(B2k A1H).2
theorem C87:∀ x,(C5 cfg [] (B4 []) 11 [.tmp 2] (Tryz.f253.body.getD .skip) B8q B8r).fn x=B22 x.1:=by intro x;kernel_rfl
theorem B8s:B3 Tryz.prog 253 C86:=sm MO B6 A6 Tryz.func253 (by kernel_rfl) (by decide) (C87)
abbrev B8t:List PK:= [.val false (.int .i64) false,.val false (.int .i64) false]
abbrev B8u:List RK:= [.val false (.int .i64)]
def B8v(f:A7Y):Nat×Fn:=(292,⟨B8t,B8u,fun x=>f x.1 x.2.1⟩)
def C88:Fn:=(B8v A55).2
theorem C89:∀ x,(C5 cfg [] (B4 []) 35 [.tmp 4] (Tryz.f292.body.getD .skip) B8t B8u).fn x=B23 x.1 x.2.1:=by intro x;kernel_rfl
theorem C8A:B3 Tryz.prog 292 C88:=sm MO B6 A6 Tryz.func292 (by kernel_rfl) (by decide) (C89)
abbrev A91:List PK:= [.val true (.pair .str (.pair (.rs 5 (.int .u8)) E7)) false,.val false (.int .i64) false]
abbrev A92:List RK:= [.val true (.pair .str (.pair (.rs 5 (.int .u8)) E7))]
def A93(f:B04):Nat×Fn:=(293,⟨A91,A92,fun x=>f x.1 x.2.1⟩)
def B7Y:Fn:=(A93 A6l).2
theorem B7Z(f_s_l1In:D7):∀ x,(C5 cfg [R0 f_s_l1In] (B4 []) 26 [.cell 4 79] (Tryz.f293.body.getD .skip) A91 A92).fn x=B4k f_s_l1In x.1 x.2.1:=by intro x;kernel_rfl
theorem B7a:B3 Tryz.prog 293 B7Y:=sm MO B6 (tc Tryz.call120 S6 A6) Tryz.func293 (by kernel_rfl) (by decide) (B7Z D8)
abbrev A7s:List PK:= [.val true (.pair .str (.pair (.rs 5 (.int .u8)) E7)) false,.val true E7 false]
abbrev A7t:List RK:= [.val true (.pair .str (.pair (.rs 5 (.int .u8)) E7))]
def A7u(f:A7Z):Nat×Fn:=(254,⟨A7s,A7t,fun x=>f x.1 x.2.1⟩)
def B6U:Fn:=(A7u A56).2
theorem B6V(f_s_l17Next:A7Y)(f_s_l17Far:B04):∀ x,(C5 cfg [B8v f_s_l17Next,A93 f_s_l17Far] (B4 []) 20 [.cell 4 79] (Tryz.f254.body.getD .skip) A7s A7t).fn x=B24 f_s_l17Next f_s_l17Far x.1 x.2.1:=by intro x;kernel_rfl
theorem B6W:B3 Tryz.prog 254 B6U:=sm MO B6 (tc Tryz.call292 C8A (tc Tryz.call293 B7a A6)) Tryz.func254 (by kernel_rfl) (by decide) (B6V A55 A6l)
def C3P:Nat→Option Jn:=B4 [(58,⟨[.t 5 false [.own 100000000],.t 6 false [.int .i64],.r 100000000 130 B0],lt 8 20 [.r 7,.r 26,.r 27],false⟩)]
abbrev B44:List PK:= [.val false (.rs 130 B0) false,.val false (.int .i64) false]
abbrev B45:List RK:= [.val false (.sl 130 B0)]
def B46(f:A4k):Nat×Fn:=(255,⟨B44,B45,fun x=>f x.1 x.2.1⟩)
def C3Q:Fn:=(B46 A1u).2
theorem C3R:∀ x,(C5 cfg [] C3P 29 [.tmp 4] (Tryz.f255.body.getD .skip) B44 B45).fn x=A87 x.1 x.2.1:=by intro x;kernel_rfl
theorem C3S:B3 Tryz.prog 255 C3Q:=sm MO B6 A6 Tryz.func255 (by kernel_rfl) (by decide) (C3R)
abbrev B8w:List PK:= [.val true (.pair .str (.pair (.rs 5 (.int .u8)) E7)) false]
abbrev B8x:List RK:= [.val true A9]
def A7v(f:V0):Nat×Fn:=(193,⟨B8w,B8x,fun x=>f x.1⟩)
def C8B:Fn:=(A7v L7).2
theorem C8C:∀ x,(C5 cfg [] (B4 []) 9 [.cell 2 79] (Tryz.f193.body.getD .skip) B8w B8x).fn x=B25 x.1:=by intro x;kernel_rfl
theorem B2l:B3 Tryz.prog 193 C8B:=sm MO B6 A6 Tryz.func193 (by kernel_rfl) (by decide) (C8C)
abbrev C2b:List PK:= [.val true (.pair .str (.pair (.rs 5 (.int .u8)) E7)) false]
abbrev C2c:List RK:= [.val true A9]
def B5E(f:A2W):Nat×Fn:=(256,⟨C2b,C2c,fun x=>f x.1⟩)
def D0h:Fn:=(B5E A1I).2
theorem D0i(f_s_l17Copy:V0)(f_s_ClientOk:O6)(f_s_l17Over:A2p):∀ x,(C5 cfg [A7v f_s_l17Copy,A3d f_s_ClientOk,B2k f_s_l17Over] (B4 []) 15 [.cell 2 79] (Tryz.f256.body.getD .skip) C2b C2c).fn x=B4l f_s_l17Copy f_s_ClientOk f_s_l17Over x.1:=by intro x;kernel_rfl
theorem C2d:B3 Tryz.prog 256 D0h:=sm MO B6 (tc Tryz.call193 B2l (tc Tryz.call215 A69 (tc Tryz.call253 B8s A6))) Tryz.func256 (by kernel_rfl) (by decide) (D0i L7 G1 A1H)
def C5o:Nat→Option Jn:=B4 [(58,⟨[.t 3 false [.int .i64],.t 4 false [.int .i64]],lt 5 27 [.b 5,.r 86021],false⟩)]
abbrev B6X:List PK:= [.val true (.pair (.rs 9 .str) (.rs 9 .str)) false]
abbrev B6Y:List RK:= [.val false (.int .i64)]
def B6Z(f:A63):Nat×Fn:=(294,⟨B6X,B6Y,fun x=>f x.1⟩)
def C5p:Fn:=(B6Z A3N).2
theorem C5q(f_s_GetRec:T7):∀ x,(C5 cfg [A6w f_s_GetRec] C5o 33 [.tmp 2] (Tryz.f294.body.getD .skip) B6X B6Y).fn x=B05 f_s_GetRec x.1:=by intro x;kernel_rfl
theorem C5r:B3 Tryz.prog 294 C5p:=sm MO B6 (tc Tryz.call235 B0T A6) Tryz.func294 (by kernel_rfl) (by decide) (C5q J1)
def C5s:Nat→Option Jn:=B4 [(122,⟨[.t 6 false [.int .i64],.b 5 [.own 36864,.own 36865],.r 36864 9 .str,.r 36865 9 .str],lt 13 35 [.x 36,.x 38,.x 45,.x 47],false⟩),(1956,⟨[.t 29 false [.bool]],lt 20 9 [],true⟩)]
abbrev B6a:List PK:= [.val true (.pair (.rs 9 .str) (.rs 9 .str)) false,.val false (.rs 4 .bool) false]
abbrev B6b:List RK:= [.val true V5]
def A6A(f:X6):Nat×Fn:=(258,⟨B6a,B6b,fun x=>f x.1 x.2.1⟩)
def C5t:Fn:=(A6A R8).2
theorem C5u(f_s_l12Copy:X5)(f_s_DiskOk:A1D):∀ x,(C5 cfg [A5H f_s_l12Copy,B0S f_s_DiskOk] C5s 49 [.cell 4 26] (Tryz.f258.body.getD .skip) B6a B6b).fn x=B06 f_s_l12Copy f_s_DiskOk x.1 x.2.1:=by intro x;kernel_rfl
theorem B0Y:B3 Tryz.prog 258 C5t:=sm MO B6 (tc Tryz.call229 A7q (tc Tryz.call231 B56 A6)) Tryz.func258 (by kernel_rfl) (by decide) (C5u U8 T6)
def A8J:Nat→Option Jn:=B4 [(122,⟨[.t 3 false [.own 100000000],.t 4 false [.int .i64],.t 5 false [.int .i64],.r 100000000 194 (.pair (.int .i64) (.pair (.int .i64) (.pair (.int .i64) (.pair .str (.pair (.int .i64) (.rs 5 (.int .u8)))))))],lt 40 6 (lt 9 30 [.b 6,.r 8,.r 42,.r 43,.r 94213,.t 6,.t 7]),false⟩)]
abbrev A25:List PK:= [.val true (.pair (.rs 9 .str) (.rs 9 .str)) false]
abbrev A26:List RK:= [.val false (.sl 194 (.pair (.int .i64) (.pair (.int .i64) (.pair (.int .i64) (.pair .str (.pair (.int .i64) (.rs 5 (.int .u8))))))))]
def A27(f:A0J):Nat×Fn:=(232,⟨A25,A26,fun x=>f x.1⟩)
def A8K:Fn:=(A27 U1).2
theorem A8L(f_s_GetRec:T7):∀ x,(C5 A1l [A6w f_s_GetRec] A8J 47 [.tmp 2] (Tryz.f232.body.getD .skip) A25 A26).fn x=A9x f_s_GetRec x.1:=by intro x;kernel_rfl
theorem A8M:B3 Tryz.prog 232 A8K:=sm MO H6 (tc Tryz.call235 B0T A6) Tryz.func232 (by kernel_rfl) (by decide) (A8L J1)
def B3U:Nat→Option Jn:=B4 [(63,⟨[],lt 22 6 [],false⟩)]
abbrev A5j:List PK:= [.val true (.pair (.rs 9 .str) (.rs 9 .str)) false]
abbrev A5k:List RK:= [.val true (.pair V5 (.pair (.int .i64) (.pair (.int .i64) (.sl 109 (.pair .str (.pair (.int .i64) (.pair (.rs 5 (.int .u8)) .bool))))))),.val false .bool]
def Z3(f:J0):Nat×Fn:=(257,⟨A5j,A5k,fun x=>f x.1⟩)
def B3V:Fn:=(Z3 E5).2
theorem B3W(f_s_l12Copy:X5)(f_s_DiskOk:A1D)(f_s_ScanRecs:A0J)(f_s_FoldRecs_r98_0:R2)(f_s_TopEpoch:A63):∀ x,(C5 A1l [A5H f_s_l12Copy,B0S f_s_DiskOk,A27 f_s_ScanRecs,A2c f_s_FoldRecs_r98_0,B6Z f_s_TopEpoch] B3U 36 [.cell 2 29,.tmp 3] (Tryz.f257.body.getD .skip) A5j A5k).fn x=A1j f_s_l12Copy f_s_DiskOk f_s_ScanRecs f_s_FoldRecs_r98_0 f_s_TopEpoch x.1:=by intro x;kernel_rfl
theorem A1m:B3 Tryz.prog 257 B3V:=sm MO H6 (tc Tryz.call229 A7q (tc Tryz.call231 B56 (tc Tryz.call232 A8M (tc Tryz.call233 A73 (tc Tryz.call294 C5r A6))))) Tryz.func257 (by kernel_rfl) (by decide) (B3W U8 T6 U1 N0 A3N)
def C3T:Nat→Option Jn:=B4 [(3,⟨[],lt 8 26 [.x 23],false⟩)]
abbrev B47:List PK:= [.ptr (.pair (.pair (.pair (.pair (.rs 9 .str) (.rs 9 .str)) (.pair (.int .i64) (.pair (.int .i64) (.rs 109 (.pair .str (.pair (.int .i64) (.pair (.rs 5 (.int .u8)) .bool))))))) (.sl 130 B0)) (.pair (.sl 79 (.pair .str (.pair (.rs 5 (.int .u8)) E7))) (.pair (.sl 4 .bool) (.pair (.sl 113 (.pair (.int .i64) (.pair W6 (.rs 5 (.int .u8))))) (.pair (.sl 130 B0) (.sl 3 (.int .i64))))))),.val false (.int .i64) false]
abbrev B48:List RK:= [.val false .bool]
def B49(f:A4l):Nat×Fn:=(194,⟨B47,B48,fun x=>f x.1 x.2.1⟩)
def C3U:Fn:=(B49 A1v).2
theorem C3V(f_s_l1In:D7)(f_s_NextReq:A7V):∀ x,(C5 A1l [R0 f_s_l1In,B8i f_s_NextReq] C3T 67 [.tmp 4] (Tryz.f194.body.getD .skip) B47 B48).fn x=A88 f_s_l1In f_s_NextReq x.1 x.2.1:=by intro x;kernel_rfl
theorem C3W:B3 Tryz.prog 194 C3U:=sm MO H6 (tc Tryz.call120 S6 (tc Tryz.call251 C7y A6)) Tryz.func194 (by kernel_rfl) (by decide) (C3V D8 A53)
abbrev B4A:List PK:= [.val false .str false,.val false (.rs 5 (.int .u8)) false]
abbrev B4B:List RK:= [.val true A9]
def B4C(f:A1w):Nat×Fn:=(138,⟨B4A,B4B,fun x=>f x.1 x.2.1⟩)
def C3X:Fn:=(B4C Y3).2
theorem C3Y(f_s_ClientOk:O6):∀ x,(C5 cfg [A3d f_s_ClientOk] (B4 []) 16 [.cell 4 79] (Tryz.f138.body.getD .skip) B4A B4B).fn x=A89 f_s_ClientOk x.1 x.2.1:=by intro x;kernel_rfl
theorem C3Z:B3 Tryz.prog 138 C3X:=sm MO B6 (tc Tryz.call215 A69 A6) Tryz.func138 (by kernel_rfl) (by decide) (C3Y G1)
def C8D:Nat→Option Jn:=B4 [(58,⟨[.t 4 false [.int .i64],.b 3 [.own 100000000,.own 100000001],.r 100000000 9 .str,.r 100000001 9 .str],lt 6 19 [.r 17,.r 18,.r 22,.r 23],false⟩),(116,⟨[],lt 6 7 [],false⟩)]
abbrev B8y:List PK:= [.val false (.int .i64) false]
abbrev B8z:List RK:= [.val true V5]
def B90(f:A7a):Nat×Fn:=(303,⟨B8y,B8z,fun x=>f x.1⟩)
def C8E:Fn:=(B90 A57).2
theorem C8F:∀ x,(C5 cfg [] C8D 26 [.cell 2 26] (Tryz.f303.body.getD .skip) B8y B8z).fn x=B26 x.1:=by intro x;kernel_rfl
theorem C8G:B3 Tryz.prog 303 C8E:=sm MO B6 A6 Tryz.func303 (by kernel_rfl) (by decide) (C8F)
abbrev A77:List PK:= [.val false (.int .i64) false]
abbrev A78:List RK:= [.val true (.pair V5 (.pair (.int .i64) (.pair (.int .i64) (.sl 109 (.pair .str (.pair (.int .i64) (.pair (.rs 5 (.int .u8)) .bool)))))))]
def A2d(f:A1c):Nat×Fn:=(272,⟨A77,A78,fun x=>f x.1⟩)
def B5F:Fn:=(A2d A0M).2
theorem B5G(f_s_DiskNew:A7a):∀ x,(C5 A1l [B90 f_s_DiskNew] (B4 []) 6 [.cell 2 29] (Tryz.f272.body.getD .skip) A77 A78).fn x=A64 f_s_DiskNew x.1:=by intro x;kernel_rfl
theorem A79:B3 Tryz.prog 272 B5F:=sm MO H6 (tc Tryz.call303 C8G A6) Tryz.func272 (by kernel_rfl) (by decide) (B5G A57)
abbrev A5l:List PK:= [.val false (.int .i64) false]
abbrev A5m:List RK:= [.val true (.pair (.pair V5 (.pair (.int .i64) (.pair (.int .i64) (.sl 109 (.pair .str (.pair (.int .i64) (.pair (.rs 5 (.int .u8)) .bool))))))) (.sl 130 B0))]
def A1n(f:P6):Nat×Fn:=(216,⟨A5l,A5m,fun x=>f x.1⟩)
def B3X:Fn:=(A1n L5).2
theorem B3Y(f_s_StoreNew:A1c):∀ x,(C5 A1l [A2d f_s_StoreNew] (B4 []) 6 [.cell 2 32] (Tryz.f216.body.getD .skip) A5l A5m).fn x=A1k f_s_StoreNew x.1:=by intro x;kernel_rfl
theorem A5n:B3 Tryz.prog 216 B3X:=sm MO H6 (tc Tryz.call272 A79 A6) Tryz.func216 (by kernel_rfl) (by decide) (B3Y A0M)
def A8N:Nat→Option Jn:=B4 [(7,⟨[.b 5 [.own 36864,.own 36865,.int .i64,.int .i64,.own 36868,.own 36869,.own 100000000,.own 100000001,.nil,.nil,.own 100000002],.r 36864 9 .str,.r 36865 9 .str,.r 36868 109 (.pair .str (.pair (.int .i64) (.pair (.rs 5 (.int .u8)) .bool))),.r 36869 130 B0,.r 100000000 79 (.pair .str (.pair (.rs 5 (.int .u8)) E7)),.r 100000001 4 .bool,.r 100000002 3 (.int .i64)],lt 10 26 [.r 23,.r 24,.r 28,.r 29,.r 33,.r 34,.r 94209,.t 6],true⟩),(58,⟨[.t 6 false [.int .i64],.b 5 [.own 36864,.own 36865,.int .i64,.int .i64,.own 36868,.own 36869,.own 100000000,.own 100000001,.nil,.nil,.own 100000002],.r 36864 9 .str,.r 36865 9 .str,.r 36868 109 (.pair .str (.pair (.int .i64) (.pair (.rs 5 (.int .u8)) .bool))),.r 36869 130 B0,.r 100000000 79 (.pair .str (.pair (.rs 5 (.int .u8)) E7)),.r 100000001 4 .bool,.r 100000002 3 (.int .i64)],lt 10 26 [.r 23,.r 24,.r 28,.r 29,.r 33,.r 34,.r 94209],false⟩)]
abbrev A28:List PK:= [.val false (.int .i64) false,.val false (.rs 79 A9) false]
abbrev A29:List RK:= [.val true (.pair (.pair (.pair V5 (.pair (.int .i64) (.pair (.int .i64) (.sl 109 (.pair .str (.pair (.int .i64) (.pair (.rs 5 (.int .u8)) .bool))))))) (.sl 130 B0)) (.pair (.sl 79 (.pair .str (.pair (.rs 5 (.int .u8)) E7))) (.pair (.sl 4 .bool) (.pair (.sl 113 (.pair (.int .i64) (.pair W6 (.rs 5 (.int .u8))))) (.pair (.sl 130 B0) (.sl 3 (.int .i64)))))))]
def A2A(f:R9):Nat×Fn:=(140,⟨A28,A29,fun x=>f x.1 x.2.1⟩)
def A8O:Fn:=(A2A M4).2
theorem A8P(f_s_WorldOk:A2n)(f_s_l17Copy:V0)(f_s_ServerNew_r98_0:P6):∀ x,(C5 A1l [B2j f_s_WorldOk,A7v f_s_l17Copy,A1n f_s_ServerNew_r98_0] A8N 41 [.cell 4 38] (Tryz.f140.body.getD .skip) A28 A29).fn x=Y4 f_s_WorldOk f_s_l17Copy f_s_ServerNew_r98_0 x.1 x.2.1:=by intro x;kernel_rfl
theorem A8Q:B3 Tryz.prog 140 A8O:=sm MO H6 (tc Tryz.call70 B8c (tc Tryz.call193 B2l (tc Tryz.call216 A5n A6))) Tryz.func140 (by kernel_rfl) (by decide) (A8P X4 L7 L5)
def A94:Nat→Option Jn:=B4 [(31,⟨[.t 9 false [.int .i64],.b 3 [.ro 9 .str,.ro 9 .str,.int .i64,.int .i64,.ro 109 (.pair .str (.pair (.int .i64) (.pair (.rs 5 (.int .u8)) .bool)))],.b 8 [.int .i64,.int .i64],.b 10 [.own 100000000,.own 100000001,.int .i64,.int .i64,.own 100000002],.r 100000000 9 .str,.r 100000001 9 .str,.r 100000002 109 (.pair .str (.pair (.int .i64) (.pair (.rs 5 (.int .u8)) .bool)))],lt 19 51 (lt 12 3 [.r 1000,.r 1001,.r 1004,.r 114688,.r 114689,.r 114692,.r 167936,.r 167937,.r 167940,.r 237568,.r 237569,.r 237572,.r 274432,.r 274433,.r 274436,.t 0]),false⟩)]
abbrev A2z:List PK:= [.val true (.pair V5 (.pair (.int .i64) (.pair (.int .i64) (.sl 109 (.pair .str (.pair (.int .i64) (.pair (.rs 5 (.int .u8)) .bool))))))) false,.val true W6 false,.val false (.rs 5 (.int .u8)) false]
abbrev A30:List RK:= [.val true (.pair V5 (.pair (.int .i64) (.pair (.int .i64) (.sl 109 (.pair .str (.pair (.int .i64) (.pair (.rs 5 (.int .u8)) .bool))))))),.val true E7]
def A31(f:T0):Nat×Fn:=(92,⟨A2z,A30,fun x=>f x.1 x.2.1 x.2.2.1⟩)
def A95:Fn:=(A31 O0).2
theorem A96(f_s_MakeUp_r98_0:N7)(f_s_PutUp_r98_0:P9)(f_s_DoneUp_r98_0:N8)(f_s_DropUp_r98_0:N9)(f_s_l15Looks:A1b)(f_s_l15Bad:A4K):∀ x,(C5 A1l [A1f f_s_MakeUp_r98_0,A2M f_s_PutUp_r98_0,A1g f_s_DoneUp_r98_0,A1h f_s_DropUp_r98_0,B0X f_s_l15Looks,B5D f_s_l15Bad] A94 80 [.cell 6 29,.cell 7 126] (Tryz.f92.body.getD .skip) A2z A30).fn x=Z6 f_s_MakeUp_r98_0 f_s_PutUp_r98_0 f_s_DoneUp_r98_0 f_s_DropUp_r98_0 f_s_l15Looks f_s_l15Bad x.1 x.2.1 x.2.2.1:=by intro x;kernel_rfl
theorem A97:B3 Tryz.prog 92 A95:=sm MO H6 (tc Tryz.call162 A4Y (tc Tryz.call163 A5X (tc Tryz.call164 A4Z (tc Tryz.call165 A4a (tc Tryz.call166 B6T (tc Tryz.call167 C2a A6)))))) Tryz.func92 (by kernel_rfl) (by decide) (A96 K9 M6 L0 L1 A0L A2V)
def A5J:Nat→Option Jn:=B4 [(31,⟨[.t 9 false [.int .i64],.b 8 [.int .i64,.int .i64],.b 10 [.own 100000000,.own 100000001,.int .i64,.int .i64,.own 100000002],.r 100000000 9 .str,.r 100000001 9 .str,.r 100000002 109 (.pair .str (.pair (.int .i64) (.pair (.rs 5 (.int .u8)) .bool)))],lt 19 51 [.r 114688,.r 114689,.r 114692,.r 167936,.r 167937,.r 167940,.r 237568,.r 237569,.r 237572,.r 274432,.r 274433,.r 274436,.t 13,.t 14],false⟩)]
abbrev A06:List PK:= [.val true (.pair (.pair (.rs 9 .str) (.rs 9 .str)) (.pair (.int .i64) (.pair (.int .i64) (.rs 109 (.pair .str (.pair (.int .i64) (.pair (.rs 5 (.int .u8)) .bool))))))) false,.val true W6 false,.val false (.rs 5 (.int .u8)) false]
abbrev A07:List RK:= [.val true (.pair (.pair (.rs 9 .str) (.rs 9 .str)) (.pair (.int .i64) (.pair (.int .i64) (.rs 109 (.pair .str (.pair (.int .i64) (.pair (.rs 5 (.int .u8)) .bool))))))),.val true E7]
def A08(f:L8):Nat×Fn:=(92,⟨A06,A07,fun x=>f x.1 x.2.1 x.2.2.1⟩)
def A5K:Fn:=(A08 F5).2
theorem A5L(f_s_MakeUp_r98_0:N7)(f_s_PutUp_r98_0:P9)(f_s_DoneUp_r98_0:N8)(f_s_DropUp_r98_0:N9)(f_s_l15Looks:A1b)(f_s_l15Bad:A4K):∀ x,(C5 A1l [A1f f_s_MakeUp_r98_0,A2M f_s_PutUp_r98_0,A1g f_s_DoneUp_r98_0,A1h f_s_DropUp_r98_0,B0X f_s_l15Looks,B5D f_s_l15Bad] A5J 80 [.cell 6 29,.cell 7 126] (Tryz.f92.body.getD .skip) A06 A07).fn x=S4 f_s_MakeUp_r98_0 f_s_PutUp_r98_0 f_s_DoneUp_r98_0 f_s_DropUp_r98_0 f_s_l15Looks f_s_l15Bad x.1 x.2.1 x.2.2.1:=by intro x;kernel_rfl
theorem A5M:B3 Tryz.prog 92 A5K:=sm MO H6 (tc Tryz.call162 A4Y (tc Tryz.call163 A5X (tc Tryz.call164 A4Z (tc Tryz.call165 A4a (tc Tryz.call166 B6T (tc Tryz.call167 C2a A6)))))) Tryz.func92 (by kernel_rfl) (by decide) (A5L K9 M6 L0 L1 A0L A2V)
def C2e:Nat→Option Jn:=B4 [(3,⟨[],lt 8 18 [],false⟩)]
abbrev B2m:List PK:= [.ptr (.pair (.pair (.pair (.pair (.rs 9 .str) (.rs 9 .str)) (.pair (.int .i64) (.pair (.int .i64) (.rs 109 (.pair .str (.pair (.int .i64) (.pair (.rs 5 (.int .u8)) .bool))))))) (.sl 130 B0)) (.pair (.sl 79 (.pair .str (.pair (.rs 5 (.int .u8)) E7))) (.pair (.sl 4 .bool) (.pair (.sl 113 (.pair (.int .i64) (.pair W6 (.rs 5 (.int .u8))))) (.pair (.sl 130 B0) (.sl 3 (.int .i64))))))),.val false (.int .i64) false]
abbrev B2n:List RK:= [.val false .bool]
def B2o(f:A3P):Nat×Fn:=(195,⟨B2m,B2n,fun x=>f x.1 x.2.1⟩)
def C2f:Fn:=(B2o A1J).2
theorem C2g(f_s_l15Does_r94_0_r98_0_r99_0:L8)(f_s_l1In:D7):∀ x,(C5 A1l [A08 f_s_l15Does_r94_0_r98_0_r99_0,R0 f_s_l1In] C2e 85 [.tmp 4] (Tryz.f195.body.getD .skip) B2m B2n).fn x=A6m f_s_l15Does_r94_0_r98_0_r99_0 f_s_l1In x.1 x.2.1:=by intro x;kernel_rfl
theorem C2h:B3 Tryz.prog 195 C2f:=sm MO H6 (tc Tryz.call92 A5M (tc Tryz.call120 S6 A6)) Tryz.func195 (by kernel_rfl) (by decide) (C2g F5 D8)
abbrev B4D:List PK:= [.ptr (.pair (.pair (.pair (.pair (.rs 9 .str) (.rs 9 .str)) (.pair (.int .i64) (.pair (.int .i64) (.rs 109 (.pair .str (.pair (.int .i64) (.pair (.rs 5 (.int .u8)) .bool))))))) (.sl 130 B0)) (.pair (.sl 79 (.pair .str (.pair (.rs 5 (.int .u8)) E7))) (.pair (.sl 4 .bool) (.pair (.sl 113 (.pair (.int .i64) (.pair W6 (.rs 5 (.int .u8))))) (.pair (.sl 130 B0) (.sl 3 (.int .i64)))))))]
abbrev B4E:List RK:= [.val false .bool]
def B4F(f:A7X):Nat×Fn:=(196,⟨B4D,B4E,fun x=>f x.1⟩)
def C3a:Fn:=(B4F A54).2
theorem C3b(f_s_FlushDisk:A0o):∀ x,(C5 A1l [A8I f_s_FlushDisk] (B4 []) 46 [.tmp 2] (Tryz.f196.body.getD .skip) B4D B4E).fn x=B21 f_s_FlushDisk x.1:=by intro x;kernel_rfl
theorem C3c:B3 Tryz.prog 196 C3a:=sm MO H6 (tc Tryz.call252 B43 A6) Tryz.func196 (by kernel_rfl) (by decide) (C3b Y2)
def C3d:Nat→Option Jn:=B4 [(501,⟨[.b 1000 [.ro 9 .str,.ro 9 .str,.int .i64,.int .i64,.ro 109 (.pair .str (.pair (.int .i64) (.pair (.rs 5 (.int .u8)) .bool))),.own 1005,.own 1006,.own 1007,.own 1008,.own 38,.own 1010],.r 38 130 B0,.r 1005 130 B0,.r 1006 79 (.pair .str (.pair (.rs 5 (.int .u8)) E7)),.r 1007 4 .bool,.r 1008 113 (.pair (.int .i64) (.pair W6 (.rs 5 (.int .u8)))),.r 1010 3 (.int .i64)],lt 56 28 [.x 62,.x 78,.x 83],true⟩)]
abbrev B4G:List PK:= [.ptr (.pair (.pair (.pair (.pair (.rs 9 .str) (.rs 9 .str)) (.pair (.int .i64) (.pair (.int .i64) (.rs 109 (.pair .str (.pair (.int .i64) (.pair (.rs 5 (.int .u8)) .bool))))))) (.sl 130 B0)) (.pair (.sl 79 (.pair .str (.pair (.rs 5 (.int .u8)) E7))) (.pair (.sl 4 .bool) (.pair (.sl 113 (.pair (.int .i64) (.pair W6 (.rs 5 (.int .u8))))) (.pair (.sl 130 B0) (.sl 3 (.int .i64))))))),.val false (.int .i64) false]
abbrev B4H:List RK:= [.val false .bool]
def B4I(f:A4m):Nat×Fn:=(197,⟨B4G,B4H,fun x=>f x.1 x.2.1⟩)
def C3e:Fn:=(B4I A1y).2
theorem C3f(f_s_l1In:D7)(f_s_l17Over:A2p)(f_s_l17Hear:A7Z):∀ x,(C5 A1l [R0 f_s_l1In,B2k f_s_l17Over,A7u f_s_l17Hear] C3d 106 [.tmp 4] (Tryz.f197.body.getD .skip) B4G B4H).fn x=A8A f_s_l1In f_s_l17Over f_s_l17Hear x.1 x.2.1:=by intro x;kernel_rfl
theorem C3g:B3 Tryz.prog 197 C3e:=sm MO H6 (tc Tryz.call120 S6 (tc Tryz.call253 B8s (tc Tryz.call254 B6W A6))) Tryz.func197 (by kernel_rfl) (by decide) (C3f D8 A1H A56)
def C5v:Nat→Option Jn:=B4 [(15,⟨[.t 5 false [.own 100000000],.r 100000000 113 (.pair (.int .i64) (.pair W6 (.rs 5 (.int .u8))))],lt 17 29 [.r 16,.r 44,.r 45,.t 6,.x 31,.x 42],true⟩),(122,⟨[.t 5 false [.own 100000000],.t 6 false [.int .i64],.r 100000000 113 (.pair (.int .i64) (.pair W6 (.rs 5 (.int .u8))))],lt 17 29 [.r 16,.r 44,.r 45,.x 31,.x 42],false⟩)]
abbrev B6c:List PK:= [.ptr (.pair (.pair (.pair (.pair (.rs 9 .str) (.rs 9 .str)) (.pair (.int .i64) (.pair (.int .i64) (.rs 109 (.pair .str (.pair (.int .i64) (.pair (.rs 5 (.int .u8)) .bool))))))) (.sl 130 B0)) (.pair (.sl 79 (.pair .str (.pair (.rs 5 (.int .u8)) E7))) (.pair (.sl 4 .bool) (.pair (.sl 113 (.pair (.int .i64) (.pair W6 (.rs 5 (.int .u8))))) (.pair (.sl 130 B0) (.sl 3 (.int .i64))))))),.val false (.int .i64) false]
abbrev B6d:List RK:= [.val false .bool]
def B6e(f:A65):Nat×Fn:=(198,⟨B6c,B6d,fun x=>f x.1 x.2.1⟩)
def C5w:Fn:=(B6e A3Q).2
theorem C5x(f_s_l1In:D7)(f_s_l18Others:A4k)(f_s_CutOff:A2W):∀ x,(C5 A1l [R0 f_s_l1In,B46 f_s_l18Others,B5E f_s_CutOff] C5v 90 [.tmp 4] (Tryz.f198.body.getD .skip) B6c B6d).fn x=B07 f_s_l1In f_s_l18Others f_s_CutOff x.1 x.2.1:=by intro x;kernel_rfl
theorem C5y:B3 Tryz.prog 198 C5w:=sm MO H6 (tc Tryz.call120 S6 (tc Tryz.call255 C3S (tc Tryz.call256 C2d A6))) Tryz.func198 (by kernel_rfl) (by decide) (C5x D8 A1u A1I)
def C2i:Nat→Option Jn:=B4 [(1018,⟨[.t 7 false [.int .i64],.b 1000 [.own 73728,.own 73729,.int .i64,.int .i64,.own 73732,.nil,.own 1006,.own 1007,.own 28,.own 32,.own 1010],.r 28 113 (.pair (.int .i64) (.pair W6 (.rs 5 (.int .u8)))),.r 32 130 B0,.r 1006 79 (.pair .str (.pair (.rs 5 (.int .u8)) E7)),.r 1007 4 .bool,.r 1010 3 (.int .i64),.r 73728 9 .str,.r 73729 9 .str,.r 73732 109 (.pair .str (.pair (.int .i64) (.pair (.rs 5 (.int .u8)) .bool)))],lt 35 29 [.r 233473,.x 54,.x 57,.x 63],false⟩)]
abbrev B2p:List PK:= [.ptr (.pair (.pair (.pair (.pair (.rs 9 .str) (.rs 9 .str)) (.pair (.int .i64) (.pair (.int .i64) (.rs 109 (.pair .str (.pair (.int .i64) (.pair (.rs 5 (.int .u8)) .bool))))))) (.sl 130 B0)) (.pair (.sl 79 (.pair .str (.pair (.rs 5 (.int .u8)) E7))) (.pair (.sl 4 .bool) (.pair (.sl 113 (.pair (.int .i64) (.pair W6 (.rs 5 (.int .u8))))) (.pair (.sl 130 B0) (.sl 3 (.int .i64))))))),.val false (.rs 4 .bool) false]
abbrev B2q:List RK:= [.val false .bool]
def B2r(f:A3R):Nat×Fn:=(199,⟨B2p,B2q,fun x=>f x.1 x.2.1⟩)
def C2j:Fn:=(B2r A1L).2
theorem C2k(f_s_CutOff:A2W)(f_s_OpenStore_r98_0:J0)(f_s_FallDisk:X6):∀ x,(C5 A1l [B5E f_s_CutOff,Z3 f_s_OpenStore_r98_0,A6A f_s_FallDisk] C2i 64 [.tmp 4] (Tryz.f199.body.getD .skip) B2p B2q).fn x=A6n f_s_CutOff f_s_OpenStore_r98_0 f_s_FallDisk x.1 x.2.1:=by intro x;kernel_rfl
theorem C2l:B3 Tryz.prog 199 C2j:=sm MO H6 (tc Tryz.call256 C2d (tc Tryz.call257 A1m (tc Tryz.call258 B0Y A6))) Tryz.func199 (by kernel_rfl) (by decide) (C2k A1I E5 R8)
abbrev B91:List PK:= [.ptr (.pair (.pair (.pair (.pair (.rs 9 .str) (.rs 9 .str)) (.pair (.int .i64) (.pair (.int .i64) (.rs 109 (.pair .str (.pair (.int .i64) (.pair (.rs 5 (.int .u8)) .bool))))))) (.sl 130 B0)) (.pair (.sl 79 (.pair .str (.pair (.rs 5 (.int .u8)) E7))) (.pair (.sl 4 .bool) (.pair (.sl 113 (.pair (.int .i64) (.pair W6 (.rs 5 (.int .u8))))) (.pair (.sl 130 B0) (.sl 3 (.int .i64))))))),.val true (.pair (.int .i64) (.pair (.int .i64) (.rs 4 .bool))) false]
abbrev B92:List RK:= [.val false .bool]
def B93(f:A58):Nat×Fn:=(111,⟨B91,B92,fun x=>f x.1 x.2.1⟩)
def C8H:Fn:=(B93 A2q).2
theorem C8I(f_s_l18Send_W:A4l)(f_s_l18Serve_W:A3P)(f_s_l18Sync:A7X)(f_s_l18Tell_W:A4m)(f_s_l18Cut_W:A65)(f_s_l18Crash_W:A3R):∀ x,(C5 A1l [B49 f_s_l18Send_W,B2o f_s_l18Serve_W,B4F f_s_l18Sync,B4I f_s_l18Tell_W,B6e f_s_l18Cut_W,B2r f_s_l18Crash_W] (B4 []) 41 [.tmp 4] (Tryz.f111.body.getD .skip) B91 B92).fn x=B27 f_s_l18Send_W f_s_l18Serve_W f_s_l18Sync f_s_l18Tell_W f_s_l18Cut_W f_s_l18Crash_W x.1 x.2.1:=by intro x;kernel_rfl
theorem C8J:B3 Tryz.prog 111 C8H:=sm MO H6 (tc Tryz.call194 C3W (tc Tryz.call195 C2h (tc Tryz.call196 C3c (tc Tryz.call197 C3g (tc Tryz.call198 C5y (tc Tryz.call199 C2l A6)))))) Tryz.func111 (by kernel_rfl) (by decide) (C8I A1v A1J A54 A1y A3Q A1L)
abbrev C2m:List PK:= [.val false (.rs 5 (.int .u8)) false,.val false (.int .i64) false]
abbrev C2n:List RK:= [.val false (.int .i64)]
def C2o(f:B08):Nat×Fn:=(69,⟨C2m,C2n,fun x=>f x.1 x.2.1⟩)
def D0j:Fn:=(C2o A6o).2
theorem D0k:∀ x,(C5 cfg [] (B4 []) 15 [.tmp 4] (Tryz.f69.body.getD .skip) C2m C2n).fn x=B4m x.1 x.2.1:=by intro x;kernel_rfl
theorem D0l:B3 Tryz.prog 69 D0j:=sm MO B6 A6 Tryz.func69 (by kernel_rfl) (by decide) (D0k)
end
end Go.Proofs.YtpdcljonclhhpaaGreat.Ev
