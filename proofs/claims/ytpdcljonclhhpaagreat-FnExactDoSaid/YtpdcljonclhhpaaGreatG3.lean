/- Each function of the program does what its plain function says. -/
import Derived.Test.YtpdcljonclhhpaaGreatG2
set_option maxRecDepth 100000
namespace Go.Proofs.YtpdcljonclhhpaaGreat.Ev
def D9E:Nat→Option Jn:=B3 [(128503,⟨[.t 7 false [.int .i64]],lt 40 8 [],true⟩)]
abbrev C5F:List PK:= [.val true (.pair .str (.pair (.rs 5 (.int .u8)) E9)) false]
abbrev C5G:List RK:= [.val true L5,.val false (.sl 5 (.int .u8)),.val false .bool]
noncomputable def C5H(f:A9n):Nat×Fn:=(251,⟨C5F,C5G,fun x=>f x.1⟩)
noncomputable def D9F:Fn:=(C5H A6d).2
theorem D9G(f_s_Crc:A9d)(f_s_ClientOk:S5):∀ x,(B6 cfg [C7f f_s_Crc,A82 f_s_ClientOk] D9E 65 [.cell 2 43,.tmp 3,.tmp 4] (Tryz.f251.body.getD .skip) C5F C5G).fn x=B5L f_s_Crc f_s_ClientOk x.1:=by intro x;kernel_rfl
theorem D9H:B0 Tryz.prog 251 D9F:=sm MO A6 (tc Tryz.call152 D6A (tc Tryz.call215 B43 A5)) Tryz.func251 (by kernel_rfl) (by decide) (D9G A7h H3)
abbrev C5I:List PK:= [.val true (.pair (.pair (.rs 9 .str) (.rs 9 .str)) (.pair (.int .i64) (.pair (.int .i64) (.rs 109 kUp)))) false]
abbrev C5J:List RK:= [.val false (.int .i64)]
noncomputable def A75(f:T0):Nat×Fn:=(236,⟨C5I,C5J,fun x=>f x.1⟩)
noncomputable def D9I:Fn:=(A75 Q8).2
theorem D9J:∀ x,(B6 cfg [] (B3 []) 10 [.tmp 2] (Tryz.f236.body.getD .skip) C5I C5J).fn x=B5M x.1:=by intro x;kernel_rfl
theorem B0S:B0 Tryz.prog 236 D9I:=sm MO A6 A5 Tryz.func236 (by kernel_rfl) (by decide) (D9J)
abbrev B0T:List PK:= [.ptr (.pair A0M (.pair (.int .i64) (.pair (.int .i64) (.rs 109 kUp)))),.val true (.pair (.int .i64) (.pair (.int .i64) (.pair (.int .i64) (.pair .str (.pair (.int .i64) (.rs 5 (.int .u8))))))) false]
abbrev B0U:List RK:= []
noncomputable def X3(f:G8):Nat×Fn:=(237,⟨B0T,B0U,fun x=>f x.1 x.2.1⟩)
noncomputable def C28:Fn:=(X3 F3).2
theorem C29(f_s_l14One_r99_0:P8)(f_s_l13Put:A5U):∀ x,(B6 cfg [A5i f_s_l14One_r99_0,C0d f_s_l13Put] (B3 []) 46 [] (Tryz.f237.body.getD .skip) B0T B0U).fn x=A4L f_s_l14One_r99_0 f_s_l13Put x.1 x.2.1:=by intro x;kernel_rfl
theorem A0u:B0 Tryz.prog 237 C28:=sm MO A6 (tc Tryz.call281 B2G (tc Tryz.call284 D0J A5)) Tryz.func237 (by kernel_rfl) (by decide) (C29 N2 A3I)
abbrev D9K:List PK:= [.val true (.pair (.pair (.rs 9 .str) (.rs 9 .str)) (.pair (.int .i64) (.pair (.int .i64) (.rs 109 kUp)))) false,.val false .str false]
abbrev D9L:List RK:= [.val true kUp,.val false .bool]
noncomputable def D0a(f:B1j):Nat×Fn:=(113,⟨D9K,D9L,fun x=>f x.1 x.2.1⟩)
noncomputable def E8V:Fn:=(D0a A8d).2
theorem E8W(f_s_l14At:R1):∀ x,(B6 cfg [A5h f_s_l14At] (B3 []) 26 [.cell 4 109,.tmp 5] (Tryz.f113.body.getD .skip) D9K D9L).fn x=C8O f_s_l14At x.1 x.2.1:=by intro x;kernel_rfl
theorem D9M:B0 Tryz.prog 113 E8V:=sm MO A6 (tc Tryz.call206 A8A A5) Tryz.func113 (by kernel_rfl) (by decide) (E8W O2)
abbrev C2A:List PK:= [.val true (.pair (.pair (.rs 9 .str) (.rs 9 .str)) (.pair (.int .i64) (.pair (.int .i64) (.rs 109 kUp)))) false,.val true L5 false]
abbrev C2B:List RK:= [.val true E9]
noncomputable def C2C(f:A7j):Nat×Fn:=(166,⟨C2A,C2B,fun x=>f x.1 x.2.1⟩)
noncomputable def D6K:Fn:=(C2C A4M).2
theorem D6L(f_s_UpAt:B1j):∀ x,(B6 cfg [D0a f_s_UpAt] (B3 []) 35 [.cell 4 126] (Tryz.f166.body.getD .skip) C2A C2B).fn x=B3D f_s_UpAt x.1 x.2.1:=by intro x;kernel_rfl
theorem D6M:B0 Tryz.prog 166 D6K:=sm MO A6 (tc Tryz.call113 D9M A5) Tryz.func166 (by kernel_rfl) (by decide) (D6L A8d)
def E2y:Nat→Option Jn:=B3 [(235,⟨[.t 19 false [.bool]],[.t 20,.t 21],true⟩)]
abbrev D0b:List PK:= [.val true (.pair (.pair (.rs 9 .str) (.rs 9 .str)) (.pair (.int .i64) (.pair (.int .i64) (.rs 109 kUp)))) false,.val false .str false,.val false (.int .i64) false]
abbrev D0c:List RK:= [.val true E9]
noncomputable def D0d(f:B3E):Nat×Fn:=(167,⟨D0b,D0c,fun x=>f x.1 x.2.1 x.2.2.1⟩)
noncomputable def E2z:Fn:=(D0d A8e).2
theorem E30(f_s_UpAt:B1j):∀ x,(B6 cfg [D0a f_s_UpAt] E2y 33 [.cell 6 126] (Tryz.f167.body.getD .skip) D0b D0c).fn x=C04 f_s_UpAt x.1 x.2.1 x.2.2.1:=by intro x;kernel_rfl
theorem E31:B0 Tryz.prog 167 E2z:=sm MO A6 (tc Tryz.call113 D9M A5) Tryz.func167 (by kernel_rfl) (by decide) (E30 A8d)
def C44:Nat→Option Jn:=B3 [(7,⟨[],lt 33 10 (lt 26 6 (lt 11 14 [])),false⟩),(28,⟨[.t 11 false [.bool]],lt 12 13 [],true⟩)]
abbrev B2H:List PK:= [.val true (.pair (.pair (.rs 9 .str) (.rs 9 .str)) (.pair (.int .i64) (.pair (.int .i64) (.rs 109 kUp)))) false,.val false .str false,.val false (.int .i64) false]
abbrev B2I:List RK:= [.val true (.pair A0M (.pair (.int .i64) (.pair (.int .i64) (.rs 109 kUp)))),.val false (.int .i64)]
noncomputable def B2J(f:A1y):Nat×Fn:=(162,⟨B2H,B2I,fun x=>f x.1 x.2.1 x.2.2.1⟩)
noncomputable def C45:Fn:=(B2J Z3).2
theorem C46(f_s_l1In:E5)(f_s_l14Copy:N3)(f_s_StoreOk:O6)(f_s_l11Id:O1)(f_s_l14At:R1)(f_s_l14Left:T0)(f_s_l14Write_r0_4:G8):∀ x,(B6 cfg [P7 f_s_l1In,A74 f_s_l14Copy,A3n f_s_StoreOk,A3j f_s_l11Id,A5h f_s_l14At,A75 f_s_l14Left,X3 f_s_l14Write_r0_4] C44 49 [.cell 6 29,.tmp 7] (Tryz.f162.body.getD .skip) B2H B2I).fn x=A5Y f_s_l1In f_s_l14Copy f_s_StoreOk f_s_l11Id f_s_l14At f_s_l14Left f_s_l14Write_r0_4 x.1 x.2.1 x.2.2.1:=by intro x;kernel_rfl
theorem C47:B0 Tryz.prog 162 C45:=sm MO A6 (tc Tryz.call120 R0 (tc Tryz.call157 B0R (tc Tryz.call159 A72 (tc Tryz.call160 A5g (tc Tryz.call206 A8A (tc Tryz.call236 B0S (tc Tryz.call237 A0u A5))))))) Tryz.func162 (by kernel_rfl) (by decide) (C46 E3 L3 G0 N0 O2 Q8 F3)
def C73:Nat→Option Jn:=B3 [(7,⟨[],lt 17 14 [],false⟩),(127,⟨[],lt 64 9 (lt 44 19 []),false⟩),(255,⟨[.b 10 [.own 100003000,.own 100003001,.int .i64,.int .i64,.ro 109 kUp],.r 100003000 9 .str,.r 100003001 9 .str],lt 74 26 [.r 92,.r 97,.r 69632,.r 69633,.r 69636,.r 411648,.r 411649,.t 13,.t 14,.t 16],true⟩),(508,⟨[.t 44 false [.bool]],lt 45 18 [],true⟩),(2042,⟨[.t 13 false [.int .i64],.b 10 [.own 100003000,.own 100003001,.int .i64,.int .i64,.ro 109 kUp],.r 100003000 9 .str,.r 100003001 9 .str],lt 74 26 [.r 92,.r 97,.r 69632,.r 69633,.r 69636,.r 411648,.r 411649,.t 14,.t 16],false⟩),(65353,⟨[.t 14 false [.int .i64]],lt 82 6 [],true⟩)]
abbrev B4T:List PK:= [.val true (.pair (.pair (.rs 9 .str) (.rs 9 .str)) (.pair (.int .i64) (.pair (.int .i64) (.rs 109 kUp)))) false,.val false .str false,.val false (.int .i64) false,.val false (.rs 5 (.int .u8)) false]
abbrev B4U:List RK:= [.val true (.pair A0M (.pair (.int .i64) (.pair (.int .i64) (.rs 109 kUp)))),.val false (.int .i64)]
noncomputable def B4V(f:A2v):Nat×Fn:=(163,⟨B4T,B4U,fun x=>f x.1 x.2.1 x.2.2.1 x.2.2.2.1⟩)
noncomputable def C74:Fn:=(B4V A0T).2
theorem C75(f_s_l1In:E5)(f_s_l14Copy:N3)(f_s_StoreOk:O6)(f_s_l11Id:O1)(f_s_l14At:R1)(f_s_l14Left:T0)(f_s_l14Write_r0_4:G8):∀ x,(B6 cfg [P7 f_s_l1In,A74 f_s_l14Copy,A3n f_s_StoreOk,A3j f_s_l11Id,A5h f_s_l14At,A75 f_s_l14Left,X3 f_s_l14Write_r0_4] C73 101 [.cell 8 29,.tmp 9] (Tryz.f163.body.getD .skip) B4T B4U).fn x=A7F f_s_l1In f_s_l14Copy f_s_StoreOk f_s_l11Id f_s_l14At f_s_l14Left f_s_l14Write_r0_4 x.1 x.2.1 x.2.2.1 x.2.2.2.1:=by intro x;kernel_rfl
theorem C76:B0 Tryz.prog 163 C74:=sm MO A6 (tc Tryz.call120 R0 (tc Tryz.call157 B0R (tc Tryz.call159 A72 (tc Tryz.call160 A5g (tc Tryz.call206 A8A (tc Tryz.call236 B0S (tc Tryz.call237 A0u A5))))))) Tryz.func163 (by kernel_rfl) (by decide) (C75 E3 L3 G0 N0 O2 Q8 F3)
def C48:Nat→Option Jn:=B3 [(7,⟨[],lt 13 8 [],false⟩)]
abbrev B2K:List PK:= [.val true (.pair (.pair (.rs 9 .str) (.rs 9 .str)) (.pair (.int .i64) (.pair (.int .i64) (.rs 109 kUp)))) false,.val false .str false,.val false (.int .i64) false]
abbrev B2L:List RK:= [.val true (.pair A0M (.pair (.int .i64) (.pair (.int .i64) (.rs 109 kUp)))),.val false (.int .i64)]
noncomputable def B2M(f:A1z):Nat×Fn:=(164,⟨B2K,B2L,fun x=>f x.1 x.2.1 x.2.2.1⟩)
noncomputable def C49:Fn:=(B2M Z4).2
theorem C4A(f_s_Crc:A9d)(f_s_l14Copy:N3)(f_s_StoreOk:O6)(f_s_l11Id:O1)(f_s_l14At:R1)(f_s_l14Left:T0)(f_s_l14Write_r0_4:G8):∀ x,(B6 cfg [C7f f_s_Crc,A74 f_s_l14Copy,A3n f_s_StoreOk,A3j f_s_l11Id,A5h f_s_l14At,A75 f_s_l14Left,X3 f_s_l14Write_r0_4] C48 62 [.cell 6 29,.tmp 7] (Tryz.f164.body.getD .skip) B2K B2L).fn x=A5Z f_s_Crc f_s_l14Copy f_s_StoreOk f_s_l11Id f_s_l14At f_s_l14Left f_s_l14Write_r0_4 x.1 x.2.1 x.2.2.1:=by intro x;kernel_rfl
theorem C4B:B0 Tryz.prog 164 C49:=sm MO A6 (tc Tryz.call152 D6A (tc Tryz.call157 B0R (tc Tryz.call159 A72 (tc Tryz.call160 A5g (tc Tryz.call206 A8A (tc Tryz.call236 B0S (tc Tryz.call237 A0u A5))))))) Tryz.func164 (by kernel_rfl) (by decide) (C4A A7h L3 G0 N0 O2 Q8 F3)
def C4C:Nat→Option Jn:=B3 [(7,⟨[],lt 26 4 (lt 19 6 (lt 9 9 [])),false⟩),(28,⟨[.t 9 false [.bool]],lt 10 8 [],true⟩)]
abbrev B2N:List PK:= [.val true (.pair (.pair (.rs 9 .str) (.rs 9 .str)) (.pair (.int .i64) (.pair (.int .i64) (.rs 109 kUp)))) false,.val false .str false]
abbrev B2O:List RK:= [.val true (.pair A0M (.pair (.int .i64) (.pair (.int .i64) (.rs 109 kUp)))),.val false (.int .i64)]
noncomputable def B2P(f:A20):Nat×Fn:=(165,⟨B2N,B2O,fun x=>f x.1 x.2.1⟩)
noncomputable def C4D:Fn:=(B2P Z5).2
theorem C4E(f_s_l14Copy:N3)(f_s_StoreOk:O6)(f_s_l11Id:O1)(f_s_l14At:R1)(f_s_l14Left:T0)(f_s_l14Write_r0_4:G8):∀ x,(B6 cfg [A74 f_s_l14Copy,A3n f_s_StoreOk,A3j f_s_l11Id,A5h f_s_l14At,A75 f_s_l14Left,X3 f_s_l14Write_r0_4] C4C 35 [.cell 4 29,.tmp 5] (Tryz.f165.body.getD .skip) B2N B2O).fn x=A5a f_s_l14Copy f_s_StoreOk f_s_l11Id f_s_l14At f_s_l14Left f_s_l14Write_r0_4 x.1 x.2.1:=by intro x;kernel_rfl
theorem C4F:B0 Tryz.prog 165 C4D:=sm MO A6 (tc Tryz.call157 B0R (tc Tryz.call159 A72 (tc Tryz.call160 A5g (tc Tryz.call206 A8A (tc Tryz.call236 B0S (tc Tryz.call237 A0u A5)))))) Tryz.func165 (by kernel_rfl) (by decide) (C4E L3 G0 N0 O2 Q8 F3)
abbrev B8S:List PK:= [.val true (.pair (.rs 9 .str) (.rs 9 .str)) false]
abbrev B8T:List RK:= [.val true A0M]
noncomputable def B8U(f:A5v):Nat×Fn:=(252,⟨B8S,B8T,fun x=>f x.1⟩)
noncomputable def D28:Fn:=(B8U A2C).2
theorem D29:∀ x,(B6 cfg [] (B3 []) 12 [.cell 2 26] (Tryz.f252.body.getD .skip) B8S B8T).fn x=B0q x.1:=by intro x;kernel_rfl
theorem D2A:B0 Tryz.prog 252 D28:=sm MO A6 A5 Tryz.func252 (by kernel_rfl) (by decide) (D29)
abbrev C5K:List PK:= [.val true (.pair .str (.pair (.rs 5 (.int .u8)) E9)) false]
abbrev C5L:List RK:= [.val false .bool]
noncomputable def B6g(f:A3Z):Nat×Fn:=(253,⟨C5K,C5L,fun x=>f x.1⟩)
noncomputable def D9N:Fn:=(B6g A1L).2
theorem D9O:∀ x,(B6 cfg [] (B3 []) 11 [.tmp 2] (Tryz.f253.body.getD .skip) C5K C5L).fn x=B5O x.1:=by intro x;kernel_rfl
theorem C5M:B0 Tryz.prog 253 D9N:=sm MO A6 A5 Tryz.func253 (by kernel_rfl) (by decide) (D9O)
abbrev C5N:List PK:= [.val false (.int .i64) false,.val false (.int .i64) false]
abbrev C5O:List RK:= [.val false (.int .i64)]
noncomputable def C5P(f:A9p):Nat×Fn:=(292,⟨C5N,C5O,fun x=>f x.1 x.2.1⟩)
noncomputable def D9P:Fn:=(C5P A6f).2
theorem D9Q:∀ x,(B6 cfg [] (B3 []) 35 [.tmp 4] (Tryz.f292.body.getD .skip) C5N C5O).fn x=B5P x.1 x.2.1:=by intro x;kernel_rfl
theorem D9R:B0 Tryz.prog 292 D9P:=sm MO A6 A5 Tryz.func292 (by kernel_rfl) (by decide) (D9Q)
abbrev B2Q:List PK:= [.val true (.pair .str (.pair (.rs 5 (.int .u8)) E9)) false,.val false (.int .i64) false]
abbrev B2R:List RK:= [.val true (.pair .str (.pair (.rs 5 (.int .u8)) E9))]
noncomputable def B2S(f:B3F):Nat×Fn:=(293,⟨B2Q,B2R,fun x=>f x.1 x.2.1⟩)
noncomputable def C4G:Fn:=(B2S A8f).2
theorem C4H(f_s_l1In:E5):∀ x,(B6 cfg [P7 f_s_l1In] (B3 []) 26 [.cell 4 79] (Tryz.f293.body.getD .skip) B2Q B2R).fn x=C05 f_s_l1In x.1 x.2.1:=by intro x;kernel_rfl
theorem C4I:B0 Tryz.prog 293 C4G:=sm MO A6 (tc Tryz.call120 R0 A5) Tryz.func293 (by kernel_rfl) (by decide) (C4H E3)
abbrev B0V:List PK:= [.val true (.pair .str (.pair (.rs 5 (.int .u8)) E9)) false,.val true E9 false]
abbrev B0W:List RK:= [.val true (.pair .str (.pair (.rs 5 (.int .u8)) E9))]
noncomputable def B0X(f:A9q):Nat×Fn:=(254,⟨B0V,B0W,fun x=>f x.1 x.2.1⟩)
noncomputable def C2D:Fn:=(B0X A6g).2
theorem C2E(f_s_l17Next:A9p)(f_s_l17Far:B3F):∀ x,(B6 cfg [C5P f_s_l17Next,B2S f_s_l17Far] (B3 []) 20 [.cell 4 79] (Tryz.f254.body.getD .skip) B0V B0W).fn x=B5Q f_s_l17Next f_s_l17Far x.1 x.2.1:=by intro x;kernel_rfl
theorem C2F:B0 Tryz.prog 254 C2D:=sm MO A6 (tc Tryz.call292 D9R (tc Tryz.call293 C4I A5)) Tryz.func254 (by kernel_rfl) (by decide) (C2E A6f A8f)
def D2B:Nat→Option Jn:=B3 [(58,⟨[.t 5 false [.own 100000000],.t 6 false [.int .i64],.r 100000000 130 A9],lt 8 20 [.r 7,.r 26,.r 27],false⟩)]
abbrev B8V:List PK:= [.val false (.rs 130 A9) false,.val false (.int .i64) false]
abbrev B8W:List RK:= [.val false (.sl 130 A9)]
noncomputable def B8X(f:A5w):Nat×Fn:=(255,⟨B8V,B8W,fun x=>f x.1 x.2.1⟩)
noncomputable def D2C:Fn:=(B8X A2D).2
theorem D2D:∀ x,(B6 cfg [] D2B 29 [.tmp 4] (Tryz.f255.body.getD .skip) B8V B8W).fn x=B0r x.1 x.2.1:=by intro x;kernel_rfl
theorem D2E:B0 Tryz.prog 255 D2C:=sm MO A6 A5 Tryz.func255 (by kernel_rfl) (by decide) (D2D)
abbrev D0e:List PK:= [.val true (.pair .str (.pair (.rs 5 (.int .u8)) E9)) false]
abbrev D0f:List RK:= [.val true B1]
noncomputable def C0i(f:A3K):Nat×Fn:=(256,⟨D0e,D0f,fun x=>f x.1⟩)
noncomputable def E32:Fn:=(C0i A1M).2
theorem E33(f_s_l17Copy:A1K)(f_s_ClientOk:S5)(f_s_l17Over:A3Z):∀ x,(B6 cfg [B6f f_s_l17Copy,A82 f_s_ClientOk,B6g f_s_l17Over] (B3 []) 15 [.cell 2 79] (Tryz.f256.body.getD .skip) D0e D0f).fn x=C06 f_s_l17Copy f_s_ClientOk f_s_l17Over x.1:=by intro x;kernel_rfl
theorem D0g:B0 Tryz.prog 256 E32:=sm MO A6 (tc Tryz.call193 C5E (tc Tryz.call215 B43 (tc Tryz.call253 C5M A5))) Tryz.func256 (by kernel_rfl) (by decide) (E33 W9 H3 A1L)
def D6N:Nat→Option Jn:=B3 [(58,⟨[.t 3 false [.int .i64],.t 4 false [.int .i64]],lt 5 27 [.b 5,.r 86021],false⟩)]
abbrev C2G:List PK:= [.val true (.pair (.rs 9 .str) (.rs 9 .str)) false]
abbrev C2H:List RK:= [.val false (.int .i64)]
noncomputable def C2I(f:A7k):Nat×Fn:=(294,⟨C2G,C2H,fun x=>f x.1⟩)
noncomputable def D6O:Fn:=(C2I A4O).2
theorem D6P(f_s_GetRec:U2):∀ x,(B6 cfg [B41 f_s_GetRec] D6N 33 [.tmp 2] (Tryz.f294.body.getD .skip) C2G C2H).fn x=B3G f_s_GetRec x.1:=by intro x;kernel_rfl
theorem D6Q:B0 Tryz.prog 294 D6O:=sm MO A6 (tc Tryz.call235 C0e A5) Tryz.func294 (by kernel_rfl) (by decide) (D6P K5)
def D6R:Nat→Option Jn:=B3 [(122,⟨[.t 6 false [.int .i64],.b 5 [.own 36864,.own 36865],.r 36864 9 .str,.r 36865 9 .str],lt 13 35 [.x 36,.x 38,.x 45,.x 47],false⟩),(1956,⟨[.t 29 false [.bool]],lt 20 9 [],true⟩)]
abbrev C2J:List PK:= [.val true (.pair (.rs 9 .str) (.rs 9 .str)) false,.val false (.rs 4 .bool) false]
abbrev C2K:List RK:= [.val true A0M]
noncomputable def C2L(f:A7l):Nat×Fn:=(258,⟨C2J,C2K,fun x=>f x.1 x.2.1⟩)
noncomputable def D6S:Fn:=(C2L A0J).2
theorem D6T(f_s_l12Copy:W8)(f_s_DiskOk:A1I):∀ x,(B6 cfg [A73 f_s_l12Copy,B40 f_s_DiskOk] D6R 49 [.cell 4 26] (Tryz.f258.body.getD .skip) C2J C2K).fn x=A7m f_s_l12Copy f_s_DiskOk x.1 x.2.1:=by intro x;kernel_rfl
theorem D6U:B0 Tryz.prog 258 D6S:=sm MO A6 (tc Tryz.call229 B0Q (tc Tryz.call231 C0c A5)) Tryz.func258 (by kernel_rfl) (by decide) (D6T S9 R7)
def B7j:Nat→Option Jn:=B3 [(63,⟨[],lt 22 6 [],false⟩)]
abbrev A7V:List PK:= [.val true (.pair (.rs 9 .str) (.rs 9 .str)) false]
abbrev A7W:List RK:= [.val true (.pair A0M (.pair (.int .i64) (.pair (.int .i64) (.rs 109 kUp)))),.val false .bool]
noncomputable def A7X(f:Y7):Nat×Fn:=(257,⟨A7V,A7W,fun x=>f x.1⟩)
noncomputable def B7k:Fn:=(A7X E7).2
theorem B7l(f_s_l12Copy:W8)(f_s_DiskOk:A1I)(f_s_ScanRecs:A1w)(f_s_FoldRecs_r99_0:P9)(f_s_TopEpoch:A7k):∀ x,(B6 cfg [A73 f_s_l12Copy,B40 f_s_DiskOk,B42 f_s_ScanRecs,A3Q f_s_FoldRecs_r99_0,C2I f_s_TopEpoch] B7j 36 [.cell 2 29,.tmp 3] (Tryz.f257.body.getD .skip) A7V A7W).fn x=O3 f_s_l12Copy f_s_DiskOk f_s_ScanRecs f_s_FoldRecs_r99_0 f_s_TopEpoch x.1:=by intro x;kernel_rfl
theorem B7m:B0 Tryz.prog 257 B7k:=sm MO A6 (tc Tryz.call229 B0Q (tc Tryz.call231 C0c (tc Tryz.call232 C22 (tc Tryz.call233 A9L (tc Tryz.call294 D6Q A5))))) Tryz.func257 (by kernel_rfl) (by decide) (B7l S9 R7 W6 M6 A4O)
def D2F:Nat→Option Jn:=B3 [(3,⟨[],lt 8 26 [.x 23],false⟩)]
abbrev B8Y:List PK:= [.ptr (.pair (.pair (.pair (.pair (.rs 9 .str) (.rs 9 .str)) (.pair (.int .i64) (.pair (.int .i64) (.rs 109 (.pair .str (.pair (.int .i64) (.pair (.rs 5 (.int .u8)) .bool))))))) (.sl 130 A9)) (.pair (.sl 79 (.pair .str (.pair (.rs 5 (.int .u8)) E9))) (.pair (.sl 4 .bool) (.pair (.sl 113 (.pair (.int .i64) (.pair L5 (.rs 5 (.int .u8))))) (.pair (.sl 130 A9) (.sl 3 (.int .i64))))))),.val false (.int .i64) false]
abbrev B8Z:List RK:= [.val false .bool]
noncomputable def B8a(f:A5x):Nat×Fn:=(194,⟨B8Y,B8Z,fun x=>f x.1 x.2.1⟩)
noncomputable def D2G:Fn:=(B8a A2E).2
theorem D2H(f_s_l1In:E5)(f_s_NextReq:A9n):∀ x,(B6 C3c [P7 f_s_l1In,C5H f_s_NextReq] D2F 67 [.tmp 4] (Tryz.f194.body.getD .skip) B8Y B8Z).fn x=B0s f_s_l1In f_s_NextReq x.1 x.2.1:=by intro x;kernel_rfl
theorem D2I:B0 Tryz.prog 194 D2G:=sm MO A3C (tc Tryz.call120 R0 (tc Tryz.call251 D9H A5)) Tryz.func194 (by kernel_rfl) (by decide) (D2H E3 A6d)
abbrev A3o:List PK:= [.val true (.pair (.pair (.rs 9 .str) (.rs 9 .str)) (.pair (.int .i64) (.pair (.int .i64) (.rs 109 kUp)))) false]
abbrev A3p:List RK:= [.val true (.pair A0M (.pair (.int .i64) (.pair (.int .i64) (.sl 109 (.pair .str (.pair (.int .i64) (.pair (.rs 5 (.int .u8)) .bool)))))))]
noncomputable def A3q(f:N3):Nat×Fn:=(157,⟨A3o,A3p,fun x=>f x.1⟩)
noncomputable def B2T:Fn:=(A3q L3).2
theorem B2U(f_s_l12Copy:W8)(f_s_l14CopyUps:L8):∀ x,(B6 C3c [A73 f_s_l12Copy,U8 f_s_l14CopyUps] (B3 []) 14 [.cell 2 29] (Tryz.f157.body.getD .skip) A3o A3p).fn x=A9k f_s_l12Copy f_s_l14CopyUps x.1:=by intro x;kernel_rfl
theorem B2V:B0 Tryz.prog 157 B2T:=sm MO A3C (tc Tryz.call229 B0Q (tc Tryz.call230 A1e A5)) Tryz.func157 (by kernel_rfl) (by decide) (B2U S9 K6)
abbrev A3r:List PK:= [.val true (.pair (.pair (.pair (.rs 9 .str) (.rs 9 .str)) (.pair (.int .i64) (.pair (.int .i64) (.rs 109 kUp)))) (.rs 130 A9)) false]
abbrev A3s:List RK:= [.val true (.pair (.pair A0M (.pair (.int .i64) (.pair (.int .i64) (.sl 109 (.pair .str (.pair (.int .i64) (.pair (.rs 5 (.int .u8)) .bool))))))) (.sl 130 A9))]
noncomputable def A3t(f:A9l):Nat×Fn:=(89,⟨A3r,A3s,fun x=>f x.1⟩)
noncomputable def B2W:Fn:=(A3t A6b).2
theorem B2X(f_s_l14Copy:N3):∀ x,(B6 C3c [A3q f_s_l14Copy] (B3 []) 11 [.cell 2 32] (Tryz.f89.body.getD .skip) A3r A3s).fn x=B5I f_s_l14Copy x.1:=by intro x;kernel_rfl
theorem B2Y:B0 Tryz.prog 89 B2W:=sm MO A3C (tc Tryz.call157 B2V A5) Tryz.func89 (by kernel_rfl) (by decide) (B2X L3)
def B2Z:Nat→Option Jn:=B3 [(7,⟨[.b 3 [.own 40960,.own 40961,.int .i64,.int .i64,.own 40964,.own 40965,.own 100000000,.own 13,.nil,.own 17,.own 21],.r 13 4 .bool,.r 17 130 A9,.r 21 3 (.int .i64),.r 40960 9 .str,.r 40961 9 .str,.r 40964 109 (.pair .str (.pair (.int .i64) (.pair (.rs 5 (.int .u8)) .bool))),.r 40965 130 A9,.r 100000000 79 (.pair .str (.pair (.rs 5 (.int .u8)) E9))],lt 23 18 [.r 38,.r 39,.r 155649,.t 4],true⟩),(58,⟨[.t 4 false [.int .i64],.b 3 [.own 40960,.own 40961,.int .i64,.int .i64,.own 40964,.own 40965,.own 100000000,.own 13,.nil,.own 17,.own 21],.r 13 4 .bool,.r 17 130 A9,.r 21 3 (.int .i64),.r 40960 9 .str,.r 40961 9 .str,.r 40964 109 (.pair .str (.pair (.int .i64) (.pair (.rs 5 (.int .u8)) .bool))),.r 40965 130 A9,.r 100000000 79 (.pair .str (.pair (.rs 5 (.int .u8)) E9))],lt 23 18 [.r 38,.r 39,.r 155649],false⟩),(122,⟨[.t 5 false [.int .i64],.b 3 [.own 40960,.own 40961,.int .i64,.int .i64,.own 40964,.own 40965,.own 100000000,.own 13,.own 100002001,.own 17,.own 21],.r 13 4 .bool,.r 17 130 A9,.r 21 3 (.int .i64),.r 40960 9 .str,.r 40961 9 .str,.r 40964 109 (.pair .str (.pair (.int .i64) (.pair (.rs 5 (.int .u8)) .bool))),.r 40965 130 A9,.r 100000000 79 (.pair .str (.pair (.rs 5 (.int .u8)) E9)),.r 100002001 113 (.pair (.int .i64) (.pair L5 (.rs 5 (.int .u8))))],lt 41 23 [.b 6,.r 53,.r 56,.r 61,.r 62,.t 6],false⟩)]
abbrev A3u:List PK:= [.val true (.pair (.pair (.pair (.pair (.rs 9 .str) (.rs 9 .str)) (.pair (.int .i64) (.pair (.int .i64) (.rs 109 kUp)))) (.rs 130 A9)) (.pair (.rs 79 B1) (.pair (.rs 4 .bool) (.pair (.rs 113 B7) (.pair (.rs 130 A9) (.rs 3 (.int .i64))))))) false]
abbrev A3v:List RK:= [.val true (.pair (.pair (.pair A0M (.pair (.int .i64) (.pair (.int .i64) (.sl 109 (.pair .str (.pair (.int .i64) (.pair (.rs 5 (.int .u8)) .bool))))))) (.sl 130 A9)) (.pair (.sl 79 (.pair .str (.pair (.rs 5 (.int .u8)) E9))) (.pair (.sl 4 .bool) (.pair (.sl 113 (.pair (.int .i64) (.pair L5 (.rs 5 (.int .u8))))) (.pair (.sl 130 A9) (.sl 3 (.int .i64)))))))]
noncomputable def A3w(f:A9m):Nat×Fn:=(109,⟨A3u,A3v,fun x=>f x.1⟩)
noncomputable def B2a:Fn:=(A3w A6c).2
theorem B2b(f_s_l15Copy:A9l)(f_s_l17Copy:A1K):∀ x,(B6 C3c [A3t f_s_l15Copy,B6f f_s_l17Copy] B2Z 65 [.cell 2 38] (Tryz.f109.body.getD .skip) A3u A3v).fn x=B5K f_s_l15Copy f_s_l17Copy x.1:=by intro x;kernel_rfl
theorem B2c:B0 Tryz.prog 109 B2a:=sm MO A3C (tc Tryz.call89 B2Y (tc Tryz.call193 C5E A5)) Tryz.func109 (by kernel_rfl) (by decide) (B2b A6b W9)
def D2J:Nat→Option Jn:=B3 [(122,⟨[.t 1 false [.int .i64],.t 5 false [.int .i64]],lt 12 15 [],false⟩)]
abbrev B8b:List PK:= [.val false (.rs 9 .str) false,.val false (.int .i64) false]
abbrev B8c:List RK:= [.val false (.int .i64)]
noncomputable def B8d(f:A5y):Nat×Fn:=(240,⟨B8b,B8c,fun x=>f x.1 x.2.1⟩)
noncomputable def D2K:Fn:=(B8d A2F).2
theorem D2L:∀ x,(B6 cfg [] D2J 28 [.tmp 4] (Tryz.f240.body.getD .skip) B8b B8c).fn x=B0t x.1 x.2.1:=by intro x;kernel_rfl
theorem D2M:B0 Tryz.prog 240 D2K:=sm MO A6 A5 Tryz.func240 (by kernel_rfl) (by decide) (D2L)
abbrev D0h:List PK:= [.val true (.pair (.rs 9 .str) (.rs 9 .str)) false,.val false (.int .i64) false]
abbrev D0i:List RK:= [.val false (.int .i64)]
noncomputable def D0j(f:B3H):Nat×Fn:=(175,⟨D0h,D0i,fun x=>f x.1 x.2.1⟩)
noncomputable def E34:Fn:=(D0j A8g).2
theorem E35(f_w_szStringS:A5y):∀ x,(B6 cfg [B8d f_w_szStringS] (B3 []) 18 [.tmp 4] (Tryz.f175.body.getD .skip) D0h D0i).fn x=C07 f_w_szStringS x.1 x.2.1:=by intro x;kernel_rfl
theorem E36:B0 Tryz.prog 175 E34:=sm MO A6 (tc Tryz.call240 D2M A5) Tryz.func175 (by kernel_rfl) (by decide) (E35 A2F)
abbrev C5Q:List PK:= [.val false (.rs 5 (.int .u8)) false,.val false (.int .i64) false]
abbrev C5R:List RK:= [.val false (.int .i64)]
noncomputable def B0Y(f:A02):Nat×Fn:=(270,⟨C5Q,C5R,fun x=>f x.1 x.2.1⟩)
noncomputable def D9S:Fn:=(B0Y T1).2
theorem D9T:∀ x,(B6 cfg [] (B3 []) 12 [.tmp 4] (Tryz.f270.body.getD .skip) C5Q C5R).fn x=B5R x.1 x.2.1:=by intro x;kernel_rfl
theorem B6h:B0 Tryz.prog 270 D9S:=sm MO A6 A5 Tryz.func270 (by kernel_rfl) (by decide) (D9T)
abbrev D9U:List PK:= [.val true (.pair .str (.pair (.int .i64) (.pair (.rs 5 (.int .u8)) .bool))) false,.val false (.int .i64) false]
abbrev D9V:List RK:= [.val false (.int .i64)]
noncomputable def D9W(f:B5S):Nat×Fn:=(241,⟨D9U,D9V,fun x=>f x.1 x.2.1⟩)
noncomputable def E8X:Fn:=(D9W A8h).2
theorem E8Y(f_w_szByteS:A02):∀ x,(B6 cfg [B0Y f_w_szByteS] (B3 []) 19 [.tmp 4] (Tryz.f241.body.getD .skip) D9U D9V).fn x=C8P f_w_szByteS x.1 x.2.1:=by intro x;kernel_rfl
theorem E8Z:B0 Tryz.prog 241 E8X:=sm MO A6 (tc Tryz.call270 B6h A5) Tryz.func241 (by kernel_rfl) (by decide) (E8Y T1)
def E6D:Nat→Option Jn:=B3 [(122,⟨[.t 1 false [.int .i64],.t 5 false [.int .i64]],lt 12 14 [],false⟩)]
abbrev D4W:List PK:= [.val false (.rs 248 kUp) false,.val false (.int .i64) false]
abbrev D4X:List RK:= [.val false (.int .i64)]
noncomputable def D4Y(f:B7K):Nat×Fn:=(176,⟨D4W,D4X,fun x=>f x.1 x.2.1⟩)
noncomputable def E6E:Fn:=(D4Y B1k).2
theorem E6F(f_w_szUp:B5S):∀ x,(B6 cfg [D9W f_w_szUp] E6D 27 [.tmp 4] (Tryz.f176.body.getD .skip) D4W D4X).fn x=C3H f_w_szUp x.1 x.2.1:=by intro x;kernel_rfl
theorem E6G:B0 Tryz.prog 176 E6E:=sm MO A6 (tc Tryz.call241 E8Z A5) Tryz.func176 (by kernel_rfl) (by decide) (E6F A8h)
abbrev C5S:List PK:= [.val true (.pair (.pair (.rs 9 .str) (.rs 9 .str)) (.pair (.int .i64) (.pair (.int .i64) (.rs 248 kUp)))) false,.val false (.int .i64) false]
abbrev C5T:List RK:= [.val false (.int .i64)]
noncomputable def C5U(f:A9s):Nat×Fn:=(96,⟨C5S,C5T,fun x=>f x.1 x.2.1⟩)
noncomputable def D9X:Fn:=(C5U A6h).2
theorem D9Y(f_w_szDisk:B3H)(f_w_szUpS:B7K):∀ x,(B6 cfg [D0j f_w_szDisk,D4Y f_w_szUpS] (B3 []) 18 [.tmp 4] (Tryz.f96.body.getD .skip) C5S C5T).fn x=B5T f_w_szDisk f_w_szUpS x.1 x.2.1:=by intro x;kernel_rfl
theorem D9Z:B0 Tryz.prog 96 D9X:=sm MO A6 (tc Tryz.call175 E36 (tc Tryz.call176 E6G A5)) Tryz.func96 (by kernel_rfl) (by decide) (D9Y A8g B1k)
abbrev C5V:List PK:= [.val false (.rs 203 A9) false,.val false (.int .i64) false]
abbrev C5W:List RK:= [.val false (.int .i64)]
noncomputable def B6i(f:A3a):Nat×Fn:=(97,⟨C5V,C5W,fun x=>f x.1 x.2.1⟩)
noncomputable def D9a:Fn:=(B6i A1N).2
theorem D9b:∀ x,(B6 cfg [] (B3 []) 12 [.tmp 4] (Tryz.f97.body.getD .skip) C5V C5W).fn x=B5U x.1 x.2.1:=by intro x;kernel_rfl
theorem C5X:B0 Tryz.prog 97 D9a:=sm MO A6 A5 Tryz.func97 (by kernel_rfl) (by decide) (D9b)
abbrev C2M:List PK:= [.val true (.pair (.pair (.pair (.rs 9 .str) (.rs 9 .str)) (.pair (.int .i64) (.pair (.int .i64) (.rs 248 kUp)))) (.rs 203 A9)) false,.val false (.int .i64) false]
abbrev C2N:List RK:= [.val false (.int .i64)]
noncomputable def C2O(f:A7n):Nat×Fn:=(30,⟨C2M,C2N,fun x=>f x.1 x.2.1⟩)
noncomputable def D6V:Fn:=(C2O A4P).2
theorem D6W(f_w_szStore:A9s)(f_w_szHeldS:A3a):∀ x,(B6 cfg [C5U f_w_szStore,B6i f_w_szHeldS] (B3 []) 18 [.tmp 4] (Tryz.f30.body.getD .skip) C2M C2N).fn x=B3I f_w_szStore f_w_szHeldS x.1 x.2.1:=by intro x;kernel_rfl
theorem D6X:B0 Tryz.prog 30 D6V:=sm MO A6 (tc Tryz.call96 D9Z (tc Tryz.call97 C5X A5)) Tryz.func30 (by kernel_rfl) (by decide) (D6W A6h A1N)
abbrev C2P:List PK:= [.val true (.pair .str (.pair (.rs 5 (.int .u8)) E9)) false,.val false (.int .i64) false]
abbrev C2Q:List RK:= [.val false (.int .i64)]
noncomputable def C2R(f:A4Q):Nat×Fn:=(207,⟨C2P,C2Q,fun x=>f x.1 x.2.1⟩)
noncomputable def D6Y:Fn:=(C2R A0K).2
theorem D6Z(f_w_szByteS:A02):∀ x,(B6 cfg [B0Y f_w_szByteS] (B3 []) 19 [.tmp 4] (Tryz.f207.body.getD .skip) C2P C2Q).fn x=B3J f_w_szByteS x.1 x.2.1:=by intro x;kernel_rfl
theorem D6a:B0 Tryz.prog 207 D6Y:=sm MO A6 (tc Tryz.call270 B6h A5) Tryz.func207 (by kernel_rfl) (by decide) (D6Z T1)
def D2N:Nat→Option Jn:=B3 [(122,⟨[.t 1 false [.int .i64],.t 5 false [.int .i64]],lt 12 14 [],false⟩)]
abbrev B8e:List PK:= [.val false (.rs 218 B1) false,.val false (.int .i64) false]
abbrev B8f:List RK:= [.val false (.int .i64)]
noncomputable def B8g(f:A5z):Nat×Fn:=(116,⟨B8e,B8f,fun x=>f x.1 x.2.1⟩)
noncomputable def D2O:Fn:=(B8g A2G).2
theorem D2P(f_w_szClient:A4Q):∀ x,(B6 cfg [C2R f_w_szClient] D2N 27 [.tmp 4] (Tryz.f116.body.getD .skip) B8e B8f).fn x=B0u f_w_szClient x.1 x.2.1:=by intro x;kernel_rfl
theorem D2Q:B0 Tryz.prog 116 D2O:=sm MO A6 (tc Tryz.call207 D6a A5) Tryz.func116 (by kernel_rfl) (by decide) (D2P A0K)
abbrev C5Y:List PK:= [.val false (.rs 4 .bool) false,.val false (.int .i64) false]
abbrev C5Z:List RK:= [.val false (.int .i64)]
noncomputable def B6j(f:A3b):Nat×Fn:=(117,⟨C5Y,C5Z,fun x=>f x.1 x.2.1⟩)
noncomputable def D9c:Fn:=(B6j A1O).2
theorem D9d:∀ x,(B6 cfg [] (B3 []) 12 [.tmp 4] (Tryz.f117.body.getD .skip) C5Y C5Z).fn x=B5V x.1 x.2.1:=by intro x;kernel_rfl
theorem C5a:B0 Tryz.prog 117 D9c:=sm MO A6 A5 Tryz.func117 (by kernel_rfl) (by decide) (D9d)
abbrev D4Z:List PK:= [.val true L5 false,.val false (.int .i64) false]
abbrev D4a:List RK:= [.val false (.int .i64)]
noncomputable def D4b(f:B7L):Nat×Fn:=(31,⟨D4Z,D4a,fun x=>f x.1 x.2.1⟩)
noncomputable def E6H:Fn:=(D4b B1l).2
theorem E6I:∀ x,(B6 cfg [] (B3 []) 13 [.tmp 4] (Tryz.f31.body.getD .skip) D4Z D4a).fn x=C3I x.1 x.2.1:=by intro x;kernel_rfl
theorem E6J:B0 Tryz.prog 31 E6H:=sm MO A6 A5 Tryz.func31 (by kernel_rfl) (by decide) (E6I)
abbrev D0k:List PK:= [.val true (.pair (.int .i64) (.pair L5 (.rs 5 (.int .u8)))) false,.val false (.int .i64) false]
abbrev D0l:List RK:= [.val false (.int .i64)]
noncomputable def D0m(f:A8i):Nat×Fn:=(208,⟨D0k,D0l,fun x=>f x.1 x.2.1⟩)
noncomputable def E37:Fn:=(D0m A3L).2
theorem E38(f_w_szReq:B7L)(f_w_szByteS:A02):∀ x,(B6 cfg [D4b f_w_szReq,B0Y f_w_szByteS] (B3 []) 18 [.tmp 4] (Tryz.f208.body.getD .skip) D0k D0l).fn x=C08 f_w_szReq f_w_szByteS x.1 x.2.1:=by intro x;kernel_rfl
theorem E39:B0 Tryz.prog 208 E37:=sm MO A6 (tc Tryz.call31 E6J (tc Tryz.call270 B6h A5)) Tryz.func208 (by kernel_rfl) (by decide) (E38 B1l T1)
def D9e:Nat→Option Jn:=B3 [(122,⟨[.t 1 false [.int .i64],.t 5 false [.int .i64]],lt 12 14 [],false⟩)]
abbrev C5b:List PK:= [.val false (.rs 221 B7) false,.val false (.int .i64) false]
abbrev C5c:List RK:= [.val false (.int .i64)]
noncomputable def C5d(f:A9t):Nat×Fn:=(118,⟨C5b,C5c,fun x=>f x.1 x.2.1⟩)
noncomputable def D9f:Fn:=(C5d A6i).2
theorem D9g(f_w_szWant:A8i):∀ x,(B6 cfg [D0m f_w_szWant] D9e 27 [.tmp 4] (Tryz.f118.body.getD .skip) C5b C5c).fn x=B5W f_w_szWant x.1 x.2.1:=by intro x;kernel_rfl
theorem D9h:B0 Tryz.prog 118 D9f:=sm MO A6 (tc Tryz.call208 E39 A5) Tryz.func118 (by kernel_rfl) (by decide) (D9g A3L)
abbrev D0n:List PK:= [.val false (.rs 3 (.int .i64)) false,.val false (.int .i64) false]
abbrev D0o:List RK:= [.val false (.int .i64)]
noncomputable def D0p(f:B3K):Nat×Fn:=(119,⟨D0n,D0o,fun x=>f x.1 x.2.1⟩)
noncomputable def E3A:Fn:=(D0p A8j).2
theorem E3B:∀ x,(B6 cfg [] (B3 []) 12 [.tmp 4] (Tryz.f119.body.getD .skip) D0n D0o).fn x=C09 x.1 x.2.1:=by intro x;kernel_rfl
theorem E3C:B0 Tryz.prog 119 E3A:=sm MO A6 A5 Tryz.func119 (by kernel_rfl) (by decide) (E3B)
abbrev C5e:List PK:= [.val true (.pair (.pair (.pair (.pair (.rs 9 .str) (.rs 9 .str)) (.pair (.int .i64) (.pair (.int .i64) (.rs 248 kUp)))) (.rs 203 A9)) (.pair (.rs 218 B1) (.pair (.rs 4 .bool) (.pair (.rs 221 B7) (.pair (.rs 203 A9) (.rs 3 (.int .i64))))))) false,.val false (.int .i64) false]
abbrev C5f:List RK:= [.val false (.int .i64)]
noncomputable def C5g(f:A9u):Nat×Fn:=(51,⟨C5e,C5f,fun x=>f x.1 x.2.1⟩)
noncomputable def D9i:Fn:=(C5g A6j).2
theorem D9j(f_w_szServer:A7n)(f_w_szHeldS:A3a)(f_w_szClientS:A5z)(f_w_szBoolS:A3b)(f_w_szWantS:A9t)(f_w_szIntS:B3K):∀ x,(B6 cfg [C2O f_w_szServer,B6i f_w_szHeldS,B8g f_w_szClientS,B6j f_w_szBoolS,C5d f_w_szWantS,D0p f_w_szIntS] (B3 []) 42 [.tmp 4] (Tryz.f51.body.getD .skip) C5e C5f).fn x=B5X f_w_szServer f_w_szHeldS f_w_szClientS f_w_szBoolS f_w_szWantS f_w_szIntS x.1 x.2.1:=by intro x;kernel_rfl
theorem D9k:B0 Tryz.prog 51 D9i:=sm MO A6 (tc Tryz.call30 D6X (tc Tryz.call97 C5X (tc Tryz.call116 D2Q (tc Tryz.call117 C5a (tc Tryz.call118 D9h (tc Tryz.call119 E3C A5)))))) Tryz.func51 (by kernel_rfl) (by decide) (D9j A4P A1N A2G A1O A6i A8j)
def D2R:Nat→Option Jn:=B3 [(58,⟨[.t 3 false [.own 7],.t 4 false [.int .i64],.r 7 9 .str],lt 8 13 [.x 20],false⟩)]
abbrev B8h:List PK:= [.val false (.rs 9 .str) false]
abbrev B8i:List RK:= [.val false (.sl 9 .str)]
noncomputable def B8j(f:A61):Nat×Fn:=(242,⟨B8h,B8i,fun x=>f x.1⟩)
noncomputable def D2S:Fn:=(B8j A2H).2
theorem D2T:∀ x,(B6 cfg [] D2R 22 [.tmp 2] (Tryz.f242.body.getD .skip) B8h B8i).fn x=B0v x.1:=by intro x;kernel_rfl
theorem D2U:B0 Tryz.prog 242 D2S:=sm MO A6 A5 Tryz.func242 (by kernel_rfl) (by decide) (D2T)
abbrev D0q:List PK:= [.val true (.pair (.rs 9 .str) (.rs 9 .str)) false]
abbrev D0r:List RK:= [.val true A0M]
noncomputable def D0s(f:B3L):Nat×Fn:=(177,⟨D0q,D0r,fun x=>f x.1⟩)
noncomputable def E3D:Fn:=(D0s A8k).2
theorem E3E(f_w_toStringS:A61):∀ x,(B6 cfg [B8j f_w_toStringS] (B3 []) 13 [.cell 2 26] (Tryz.f177.body.getD .skip) D0q D0r).fn x=C0A f_w_toStringS x.1:=by intro x;kernel_rfl
theorem E3F:B0 Tryz.prog 177 E3D:=sm MO A6 (tc Tryz.call242 D2U A5) Tryz.func177 (by kernel_rfl) (by decide) (E3E A2H)
def D9l:Nat→Option Jn:=B3 [(58,⟨[.t 3 false [.own 7],.t 4 false [.int .i64],.r 7 5 (.int .u8)],lt 8 13 [.x 20],false⟩)]
abbrev C5h:List PK:= [.val false (.rs 5 (.int .u8)) false]
abbrev C5i:List RK:= [.val false (.sl 5 (.int .u8))]
noncomputable def B0Z(f:A03):Nat×Fn:=(34,⟨C5h,C5i,fun x=>f x.1⟩)
noncomputable def D9m:Fn:=(B0Z T2).2
theorem D9n:∀ x,(B6 cfg [] D9l 22 [.tmp 2] (Tryz.f34.body.getD .skip) C5h C5i).fn x=B5Y x.1:=by intro x;kernel_rfl
theorem B6k:B0 Tryz.prog 34 D9m:=sm MO A6 A5 Tryz.func34 (by kernel_rfl) (by decide) (D9n)
abbrev D9o:List PK:= [.val true (.pair .str (.pair (.int .i64) (.pair (.rs 5 (.int .u8)) .bool))) false]
abbrev D9p:List RK:= [.val true kUp]
noncomputable def D9q(f:B5Z):Nat×Fn:=(243,⟨D9o,D9p,fun x=>f x.1⟩)
noncomputable def E8a:Fn:=(D9q B5a).2
theorem E8b(f_w_toByteS:A03):∀ x,(B6 cfg [B0Z f_w_toByteS] (B3 []) 18 [.cell 2 109] (Tryz.f243.body.getD .skip) D9o D9p).fn x=C8Q f_w_toByteS x.1:=by intro x;kernel_rfl
theorem E8c:B0 Tryz.prog 243 E8a:=sm MO A6 (tc Tryz.call34 B6k A5) Tryz.func243 (by kernel_rfl) (by decide) (E8b T2)
def E6K:Nat→Option Jn:=B3 [(58,⟨[.t 3 false [.own 7],.t 4 false [.int .i64],.r 7 109 kUp],lt 8 14 [.r 86018,.x 21],false⟩)]
abbrev D4c:List PK:= [.val false (.rs 248 kUp) false]
abbrev D4d:List RK:= [.val false (.sl 109 kUp)]
noncomputable def D4e(f:B7M):Nat×Fn:=(178,⟨D4c,D4d,fun x=>f x.1⟩)
noncomputable def E6L:Fn:=(D4e B1m).2
theorem E6M(f_w_toUp:B5Z):∀ x,(B6 cfg [D9q f_w_toUp] E6K 23 [.tmp 2] (Tryz.f178.body.getD .skip) D4c D4d).fn x=C3J f_w_toUp x.1:=by intro x;kernel_rfl
theorem E6N:B0 Tryz.prog 178 E6L:=sm MO A6 (tc Tryz.call243 E8c A5) Tryz.func178 (by kernel_rfl) (by decide) (E6M B5a)
abbrev C5j:List PK:= [.val true (.pair (.pair (.rs 9 .str) (.rs 9 .str)) (.pair (.int .i64) (.pair (.int .i64) (.rs 248 kUp)))) false]
abbrev C5k:List RK:= [.val true A3z]
noncomputable def C5l(f:A9v):Nat×Fn:=(98,⟨C5j,C5k,fun x=>f x.1⟩)
noncomputable def D9r:Fn:=(C5l A6k).2
theorem D9s(f_w_toDisk:B3L)(f_w_toUpS:B7M):∀ x,(B6 cfg [D0s f_w_toDisk,D4e f_w_toUpS] (B3 []) 19 [.cell 2 29] (Tryz.f98.body.getD .skip) C5j C5k).fn x=B5c f_w_toDisk f_w_toUpS x.1:=by intro x;kernel_rfl
theorem D9t:B0 Tryz.prog 98 D9r:=sm MO A6 (tc Tryz.call177 E3F (tc Tryz.call178 E6N A5)) Tryz.func98 (by kernel_rfl) (by decide) (D9s A8k B1m)
abbrev D0t:List PK:= [.val true E9 false]
abbrev D0u:List RK:= [.val true E9]
noncomputable def D0v(f:B3M):Nat×Fn:=(244,⟨D0t,D0u,fun x=>f x.1⟩)
noncomputable def E3G:Fn:=(D0v A8l).2
theorem E3H:∀ x,(B6 cfg [] (B3 []) 11 [.cell 2 126] (Tryz.f244.body.getD .skip) D0t D0u).fn x=C0B x.1:=by intro x;kernel_rfl
theorem E3I:B0 Tryz.prog 244 E3G:=sm MO A6 A5 Tryz.func244 (by kernel_rfl) (by decide) (E3H)
abbrev D0w:List PK:= [.val true A9 false]
abbrev D0x:List RK:= [.val true A9]
noncomputable def D0y(f:A8m):Nat×Fn:=(179,⟨D0w,D0x,fun x=>f x.1⟩)
noncomputable def E3J:Fn:=(D0y A8n).2
theorem E3K(f_w_toResp:B3M):∀ x,(B6 cfg [D0v f_w_toResp] (B3 []) 12 [.cell 2 130] (Tryz.f179.body.getD .skip) D0w D0x).fn x=C0C f_w_toResp x.1:=by intro x;kernel_rfl
theorem E3L:B0 Tryz.prog 179 E3J:=sm MO A6 (tc Tryz.call244 E3I A5) Tryz.func179 (by kernel_rfl) (by decide) (E3K A8l)
def D9u:Nat→Option Jn:=B3 [(58,⟨[.t 3 false [.own 7],.t 4 false [.int .i64],.r 7 130 A9],lt 8 14 [.x 21],false⟩)]
abbrev C5m:List PK:= [.val false (.rs 203 A9) false]
abbrev C5n:List RK:= [.val false (.sl 130 A9)]
noncomputable def B6l(f:A3c):Nat×Fn:=(99,⟨C5m,C5n,fun x=>f x.1⟩)
noncomputable def D9v:Fn:=(B6l A1P).2
theorem D9w(f_w_toHeld:A8m):∀ x,(B6 cfg [D0y f_w_toHeld] D9u 23 [.tmp 2] (Tryz.f99.body.getD .skip) C5m C5n).fn x=B5d f_w_toHeld x.1:=by intro x;kernel_rfl
theorem C5o:B0 Tryz.prog 99 D9v:=sm MO A6 (tc Tryz.call179 E3L A5) Tryz.func99 (by kernel_rfl) (by decide) (D9w A8n)
abbrev C2S:List PK:= [.val true (.pair (.pair (.pair (.rs 9 .str) (.rs 9 .str)) (.pair (.int .i64) (.pair (.int .i64) (.rs 248 kUp)))) (.rs 203 A9)) false]
abbrev C2T:List RK:= [.val true A1l]
noncomputable def C2U(f:A7o):Nat×Fn:=(32,⟨C2S,C2T,fun x=>f x.1⟩)
noncomputable def D6b:Fn:=(C2U A4R).2
theorem D6c(f_w_toStore:A9v)(f_w_toHeldS:A3c):∀ x,(B6 cfg [C5l f_w_toStore,B6l f_w_toHeldS] (B3 []) 13 [.cell 2 32] (Tryz.f32.body.getD .skip) C2S C2T).fn x=B3N f_w_toStore f_w_toHeldS x.1:=by intro x;kernel_rfl
theorem D6d:B0 Tryz.prog 32 D6b:=sm MO A6 (tc Tryz.call98 D9t (tc Tryz.call99 C5o A5)) Tryz.func32 (by kernel_rfl) (by decide) (D6c A6k A1P)
abbrev C2V:List PK:= [.val true (.pair .str (.pair (.rs 5 (.int .u8)) E9)) false]
abbrev C2W:List RK:= [.val true B1]
noncomputable def C2X(f:A4S):Nat×Fn:=(209,⟨C2V,C2W,fun x=>f x.1⟩)
noncomputable def D6e:Fn:=(C2X A4T).2
theorem D6f(f_w_toByteS:A03):∀ x,(B6 cfg [B0Z f_w_toByteS] (B3 []) 18 [.cell 2 79] (Tryz.f209.body.getD .skip) C2V C2W).fn x=B3O f_w_toByteS x.1:=by intro x;kernel_rfl
theorem D6g:B0 Tryz.prog 209 D6e:=sm MO A6 (tc Tryz.call34 B6k A5) Tryz.func209 (by kernel_rfl) (by decide) (D6f T2)
def D2V:Nat→Option Jn:=B3 [(58,⟨[.t 3 false [.own 7],.t 4 false [.int .i64],.r 7 79 B1],lt 8 14 [.r 86017,.x 21],false⟩)]
abbrev B8k:List PK:= [.val false (.rs 218 B1) false]
abbrev B8l:List RK:= [.val false (.sl 79 B1)]
noncomputable def B8m(f:A63):Nat×Fn:=(122,⟨B8k,B8l,fun x=>f x.1⟩)
noncomputable def D2W:Fn:=(B8m A2I).2
theorem D2X(f_w_toClient:A4S):∀ x,(B6 cfg [C2X f_w_toClient] D2V 23 [.tmp 2] (Tryz.f122.body.getD .skip) B8k B8l).fn x=B0x f_w_toClient x.1:=by intro x;kernel_rfl
theorem D2Y:B0 Tryz.prog 122 D2W:=sm MO A6 (tc Tryz.call209 D6g A5) Tryz.func122 (by kernel_rfl) (by decide) (D2X A4T)
def D9x:Nat→Option Jn:=B3 [(58,⟨[.t 3 false [.own 7],.t 4 false [.int .i64],.r 7 4 .bool],lt 8 13 [.x 20],false⟩)]
abbrev C5p:List PK:= [.val false (.rs 4 .bool) false]
abbrev C5q:List RK:= [.val false (.sl 4 .bool)]
noncomputable def B6m(f:A3d):Nat×Fn:=(123,⟨C5p,C5q,fun x=>f x.1⟩)
noncomputable def D9y:Fn:=(B6m A1Q).2
theorem D9z:∀ x,(B6 cfg [] D9x 22 [.tmp 2] (Tryz.f123.body.getD .skip) C5p C5q).fn x=B5e x.1:=by intro x;kernel_rfl
theorem C5r:B0 Tryz.prog 123 D9y:=sm MO A6 A5 Tryz.func123 (by kernel_rfl) (by decide) (D9z)
abbrev D4f:List PK:= [.val true L5 false]
abbrev D4g:List RK:= [.val true L5]
noncomputable def D4h(f:B7N):Nat×Fn:=(33,⟨D4f,D4g,fun x=>f x.1⟩)
noncomputable def E6O:Fn:=(D4h B1n).2
theorem E6P:∀ x,(B6 cfg [] (B3 []) 14 [.cell 2 43] (Tryz.f33.body.getD .skip) D4f D4g).fn x=C3K x.1:=by intro x;kernel_rfl
theorem E6Q:B0 Tryz.prog 33 E6O:=sm MO A6 A5 Tryz.func33 (by kernel_rfl) (by decide) (E6P)
abbrev D0z:List PK:= [.val true (.pair (.int .i64) (.pair L5 (.rs 5 (.int .u8)))) false]
abbrev D10:List RK:= [.val true B7]
noncomputable def D11(f:A8o):Nat×Fn:=(210,⟨D0z,D10,fun x=>f x.1⟩)
noncomputable def E3M:Fn:=(D11 A8p).2
theorem E3N(f_w_toReq:B7N)(f_w_toByteS:A03):∀ x,(B6 cfg [D4h f_w_toReq,B0Z f_w_toByteS] (B3 []) 16 [.cell 2 113] (Tryz.f210.body.getD .skip) D0z D10).fn x=C0D f_w_toReq f_w_toByteS x.1:=by intro x;kernel_rfl
theorem E3O:B0 Tryz.prog 210 E3M:=sm MO A6 (tc Tryz.call33 E6Q (tc Tryz.call34 B6k A5)) Tryz.func210 (by kernel_rfl) (by decide) (E3N B1n T2)
def E00:Nat→Option Jn:=B3 [(58,⟨[.t 3 false [.own 7],.t 4 false [.int .i64],.r 7 113 B7],lt 8 14 [.r 86020,.x 21],false⟩)]
abbrev C5s:List PK:= [.val false (.rs 221 B7) false]
abbrev C5t:List RK:= [.val false (.sl 113 B7)]
noncomputable def C5u(f:A9w):Nat×Fn:=(124,⟨C5s,C5t,fun x=>f x.1⟩)
noncomputable def E01:Fn:=(C5u A6l).2
theorem E02(f_w_toWant:A8o):∀ x,(B6 cfg [D11 f_w_toWant] E00 23 [.tmp 2] (Tryz.f124.body.getD .skip) C5s C5t).fn x=B5f f_w_toWant x.1:=by intro x;kernel_rfl
theorem E03:B0 Tryz.prog 124 E01:=sm MO A6 (tc Tryz.call210 E3O A5) Tryz.func124 (by kernel_rfl) (by decide) (E02 A8p)
def E3P:Nat→Option Jn:=B3 [(58,⟨[.t 3 false [.own 7],.t 4 false [.int .i64],.r 7 3 (.int .i64)],lt 8 13 [.x 20],false⟩)]
abbrev D12:List PK:= [.val false (.rs 3 (.int .i64)) false]
abbrev D13:List RK:= [.val false (.sl 3 (.int .i64))]
noncomputable def D14(f:B3Q):Nat×Fn:=(125,⟨D12,D13,fun x=>f x.1⟩)
noncomputable def E3Q:Fn:=(D14 A8q).2
theorem E3R:∀ x,(B6 cfg [] E3P 22 [.tmp 2] (Tryz.f125.body.getD .skip) D12 D13).fn x=C0E x.1:=by intro x;kernel_rfl
theorem E3S:B0 Tryz.prog 125 E3Q:=sm MO A6 A5 Tryz.func125 (by kernel_rfl) (by decide) (E3R)
abbrev C5v:List PK:= [.val true (.pair (.pair (.pair (.pair (.rs 9 .str) (.rs 9 .str)) (.pair (.int .i64) (.pair (.int .i64) (.rs 248 kUp)))) (.rs 203 A9)) (.pair (.rs 218 B1) (.pair (.rs 4 .bool) (.pair (.rs 221 B7) (.pair (.rs 203 A9) (.rs 3 (.int .i64))))))) false]
abbrev C5w:List RK:= [.val true A23]
noncomputable def C5x(f:A9x):Nat×Fn:=(53,⟨C5v,C5w,fun x=>f x.1⟩)
noncomputable def E04:Fn:=(C5x A6m).2
theorem E05(f_w_toServer:A7o)(f_w_toHeldS:A3c)(f_w_toClientS:A63)(f_w_toBoolS:A3d)(f_w_toWantS:A9w)(f_w_toIntS:B3Q):∀ x,(B6 cfg [C2U f_w_toServer,B6l f_w_toHeldS,B8m f_w_toClientS,B6m f_w_toBoolS,C5u f_w_toWantS,D14 f_w_toIntS] (B3 []) 29 [.cell 2 38] (Tryz.f53.body.getD .skip) C5v C5w).fn x=B5g f_w_toServer f_w_toHeldS f_w_toClientS f_w_toBoolS f_w_toWantS f_w_toIntS x.1:=by intro x;kernel_rfl
theorem E06:B0 Tryz.prog 53 E04:=sm MO A6 (tc Tryz.call32 D6d (tc Tryz.call99 C5o (tc Tryz.call122 D2Y (tc Tryz.call123 C5r (tc Tryz.call124 E03 (tc Tryz.call125 E3S A5)))))) Tryz.func53 (by kernel_rfl) (by decide) (E05 A4R A1P A2I A1Q A6l A8q)
def D2Z:Nat→Option Jn:=B3 [(58,⟨[.t 5 false [.int .i64]],lt 11 15 [],false⟩)]
abbrev B8n:List PK:= [.val false (.rs 9 .str) false,.val false (.rs 9 .str) false]
abbrev B8o:List RK:= [.val false .bool]
noncomputable def B8p(f:A64):Nat×Fn:=(245,⟨B8n,B8o,fun x=>f x.1 x.2.1⟩)
noncomputable def D2a:Fn:=(B8p A2J).2
theorem D2b:∀ x,(B6 cfg [] D2Z 26 [.tmp 4] (Tryz.f245.body.getD .skip) B8n B8o).fn x=B10 x.1 x.2.1:=by intro x;kernel_rfl
theorem D2c:B0 Tryz.prog 245 D2a:=sm MO A6 A5 Tryz.func245 (by kernel_rfl) (by decide) (D2b)
abbrev D15:List PK:= [.val true (.pair (.rs 9 .str) (.rs 9 .str)) false,.val true (.pair (.rs 9 .str) (.rs 9 .str)) false]
abbrev D16:List RK:= [.val false .bool]
noncomputable def D17(f:B3R):Nat×Fn:=(180,⟨D15,D16,fun x=>f x.1 x.2.1⟩)
noncomputable def E3T:Fn:=(D17 A8r).2
theorem E3U(f_w_eqStringS:A64):∀ x,(B6 cfg [B8p f_w_eqStringS] (B3 []) 17 [.tmp 4] (Tryz.f180.body.getD .skip) D15 D16).fn x=C0F f_w_eqStringS x.1 x.2.1:=by intro x;kernel_rfl
theorem E3V:B0 Tryz.prog 180 E3T:=sm MO A6 (tc Tryz.call245 D2c A5) Tryz.func180 (by kernel_rfl) (by decide) (E3U A2J)
def E07:Nat→Option Jn:=B3 [(58,⟨[.t 5 false [.int .i64]],lt 11 15 [],false⟩)]
abbrev C5y:List PK:= [.val false (.rs 5 (.int .u8)) false,.val false (.rs 5 (.int .u8)) false]
abbrev C5z:List RK:= [.val false .bool]
noncomputable def B0a(f:A04):Nat×Fn:=(36,⟨C5y,C5z,fun x=>f x.1 x.2.1⟩)
noncomputable def E08:Fn:=(B0a T3).2
theorem E09:∀ x,(B6 cfg [] E07 26 [.tmp 4] (Tryz.f36.body.getD .skip) C5y C5z).fn x=B5h x.1 x.2.1:=by intro x;kernel_rfl
theorem B6n:B0 Tryz.prog 36 E08:=sm MO A6 A5 Tryz.func36 (by kernel_rfl) (by decide) (E09)
abbrev E0A:List PK:= [.val true (.pair .str (.pair (.int .i64) (.pair (.rs 5 (.int .u8)) .bool))) false,.val true (.pair .str (.pair (.int .i64) (.pair (.rs 5 (.int .u8)) .bool))) false]
abbrev E0B:List RK:= [.val false .bool]
noncomputable def E0C(f:B5i):Nat×Fn:=(246,⟨E0A,E0B,fun x=>f x.1 x.2.1⟩)
noncomputable def E8d:Fn:=(E0C B5j).2
theorem E8e(f_w_eqByteS:A04):∀ x,(B6 cfg [B0a f_w_eqByteS] (B3 []) 26 [.tmp 4] (Tryz.f246.body.getD .skip) E0A E0B).fn x=C8R f_w_eqByteS x.1 x.2.1:=by intro x;kernel_rfl
theorem E8f:B0 Tryz.prog 246 E8d:=sm MO A6 (tc Tryz.call36 B6n A5) Tryz.func246 (by kernel_rfl) (by decide) (E8e T3)
def E6R:Nat→Option Jn:=B3 [(58,⟨[.t 5 false [.int .i64]],lt 11 16 [],false⟩)]
abbrev D4i:List PK:= [.val false (.rs 109 kUp) false,.val false (.rs 109 kUp) false]
abbrev D4j:List RK:= [.val false .bool]
noncomputable def D4k(f:B7O):Nat×Fn:=(181,⟨D4i,D4j,fun x=>f x.1 x.2.1⟩)
noncomputable def E6S:Fn:=(D4k B1o).2
theorem E6T(f_w_eqUp:B5i):∀ x,(B6 cfg [E0C f_w_eqUp] E6R 27 [.tmp 4] (Tryz.f181.body.getD .skip) D4i D4j).fn x=C3L f_w_eqUp x.1 x.2.1:=by intro x;kernel_rfl
theorem E6U:B0 Tryz.prog 181 E6S:=sm MO A6 (tc Tryz.call246 E8f A5) Tryz.func181 (by kernel_rfl) (by decide) (E6T B5j)
abbrev C60:List PK:= [.val true (.pair (.pair (.rs 9 .str) (.rs 9 .str)) (.pair (.int .i64) (.pair (.int .i64) (.rs 109 kUp)))) false,.val true (.pair (.pair (.rs 9 .str) (.rs 9 .str)) (.pair (.int .i64) (.pair (.int .i64) (.rs 109 kUp)))) false]
abbrev C61:List RK:= [.val false .bool]
noncomputable def C62(f:A9y):Nat×Fn:=(100,⟨C60,C61,fun x=>f x.1 x.2.1⟩)
noncomputable def E0D:Fn:=(C62 A6n).2
theorem E0E(f_w_eqDisk:B3R)(f_w_eqUpS:B7O):∀ x,(B6 cfg [D17 f_w_eqDisk,D4k f_w_eqUpS] (B3 []) 27 [.tmp 4] (Tryz.f100.body.getD .skip) C60 C61).fn x=B5l f_w_eqDisk f_w_eqUpS x.1 x.2.1:=by intro x;kernel_rfl
theorem E0F:B0 Tryz.prog 100 E0D:=sm MO A6 (tc Tryz.call180 E3V (tc Tryz.call181 E6U A5)) Tryz.func100 (by kernel_rfl) (by decide) (E0E A8r B1o)
end Go.Proofs.YtpdcljonclhhpaaGreat.Ev
