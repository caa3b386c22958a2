/- Each function of the program does what its plain function says. -/
import Derived.Test.YtpdcljonclhhpaaGreatG3
set_option linter.unusedVariables false
set_option maxRecDepth 100000
namespace Go.Proofs.YtpdcljonclhhpaaGreat.Ev
noncomputable section
abbrev C6T:List PK:= [.val false (.int .i64) false]
abbrev C6U:List RK:= [.val false (.int .i64)]
def C6V(f:B0E):Nat×Fn:=(161,⟨C6T,C6U,fun x=>f x.1⟩)
def E15:Fn:=(C6V B0F).2
theorem E16:∀ x,(B8 cfg [] (B3 []) 9 [.tmp 2] (Tryz.f161.body.getD .skip) C6T C6U).fn x=B5w x.1:=by intro x;kernel_rfl
theorem E17:B0 Tryz.prog 161 E15:=sm MO A7 A5 Tryz.func161 (by kernel_rfl) (by decide) (E16)
def E7L:Nat→Option Jn:=B3 [(3,⟨[],lt 4 10 [],false⟩)]
abbrev D5L:List PK:= [.val true L5 false]
abbrev D5M:List RK:= [.val false .bool]
def D5N(f:B22):Nat×Fn:=(91,⟨D5L,D5M,fun x=>f x.1⟩)
def E7M:Fn:=(D5N A5k).2
theorem E7N(f_s_l1In:E6)(f_s_l11Id:O3)(f_s_l11Most:B0E):∀ x,(B8 cfg [P9 f_s_l1In,A3r f_s_l11Id,C6V f_s_l11Most] E7L 26 [.tmp 2] (Tryz.f91.body.getD .skip) D5L D5M).fn x=C3n f_s_l1In f_s_l11Id f_s_l11Most x.1:=by intro x;kernel_rfl
theorem E7O:B0 Tryz.prog 91 E7M:=sm MO A7 (tc Tryz.call120 R4 (tc Tryz.call160 A5u (tc Tryz.call161 E17 A5))) Tryz.func91 (by kernel_rfl) (by decide) (E7N E4 N1 B0F)
abbrev C30:List PK:= [.val true (.pair .str (.pair (.rs 5 (.int .u8)) F0)) false]
abbrev C31:List RK:= [.val false .bool]
def A8J(f:S9):Nat×Fn:=(215,⟨C30,C31,fun x=>f x.1⟩)
def D7T:Fn:=(A8J H6).2
theorem D7U(f_s_l1In:E6)(f_s_l11Id:O3):∀ x,(B8 cfg [P9 f_s_l1In,A3r f_s_l11Id] (B3 []) 25 [.tmp 2] (Tryz.f215.body.getD .skip) C30 C31).fn x=B3k f_s_l1In f_s_l11Id x.1:=by intro x;kernel_rfl
theorem B4G:B0 Tryz.prog 215 D7T:=sm MO A7 (tc Tryz.call120 R4 (tc Tryz.call160 A5u A5)) Tryz.func215 (by kernel_rfl) (by decide) (D7U E4 N1)
def D1j:Nat→Option Jn:=B3 [(7,⟨[],lt 9 30 [.t 4,.t 5],false⟩),(58,⟨[.t 4 false [.int .i64]],lt 9 30 [.t 5],false⟩),(7462,⟨[.t 5 false [.int .i64]],lt 21 18 [],false⟩)]
abbrev B7A:List PK:= [.val true (.pair (.pair (.pair (.pair (.rs 9 .str) (.rs 9 .str)) (.pair (.int .i64) (.pair (.int .i64) (.rs 109 kUp)))) (.rs 130 A9)) (.pair (.rs 79 B2) (.pair (.rs 4 .bool) (.pair (.rs 113 B9) (.pair (.rs 130 A9) (.rs 3 (.int .i64))))))) false]
abbrev B7B:List RK:= [.val false .bool]
def B7C(f:A4h):Nat×Fn:=(141,⟨B7A,B7B,fun x=>f x.1⟩)
def D1k:Fn:=(B7C U7).2
theorem D1l(f_s_ClientOk:S9):∀ x,(B8 cfg [A8J f_s_ClientOk] D1j 55 [.tmp 2] (Tryz.f141.body.getD .skip) B7A B7B).fn x=A4i f_s_ClientOk x.1:=by intro x;kernel_rfl
theorem D1m:B0 Tryz.prog 141 D1k:=sm MO A7 (tc Tryz.call215 B4G A5) Tryz.func141 (by kernel_rfl) (by decide) (D1l H6)
def E4Q:Nat→Option Jn:=B3 [(26,⟨[.t 5 false [.int .i64]],lt 6 26 [],false⟩)]
abbrev D1n:List PK:= [.val true (.pair (.pair (.pair (.pair (.rs 9 .str) (.rs 9 .str)) (.pair (.int .i64) (.pair (.int .i64) (.rs 109 kUp)))) (.rs 130 A9)) (.pair (.rs 79 B2) (.pair (.rs 4 .bool) (.pair (.rs 113 B9) (.pair (.rs 130 A9) (.rs 3 (.int .i64))))))) false,.val false (.rs 130 A9) false]
abbrev D1o:List RK:= [.val false .bool]
def D1p(f:B3m):Nat×Fn:=(142,⟨D1n,D1o,fun x=>f x.1 x.2.1⟩)
def E4R:Fn:=(D1p A9E).2
theorem E4S(f_s_l1In:E6)(f_s_RespOk:A1W):∀ x,(B8 cfg [P9 f_s_l1In,C0w f_s_RespOk] E4Q 32 [.tmp 4] (Tryz.f142.body.getD .skip) D1n D1o).fn x=C0b f_s_l1In f_s_RespOk x.1 x.2.1:=by intro x;kernel_rfl
theorem E4T:B0 Tryz.prog 142 E4R:=sm MO A7 (tc Tryz.call120 R4 (tc Tryz.call158 D1O A5)) Tryz.func142 (by kernel_rfl) (by decide) (E4S E4 U5)
def E18:Nat→Option Jn:=B3 [(3,⟨[],lt 4 36 [],false⟩),(58,⟨[.t 3 false [.int .i64]],lt 40 29 [],false⟩)]
abbrev C6W:List PK:= [.val true (.pair (.pair (.pair (.pair (.rs 9 .str) (.rs 9 .str)) (.pair (.int .i64) (.pair (.int .i64) (.rs 109 kUp)))) (.rs 130 A9)) (.pair (.rs 79 B2) (.pair (.rs 4 .bool) (.pair (.rs 113 B9) (.pair (.rs 130 A9) (.rs 3 (.int .i64))))))) false]
abbrev C6X:List RK:= [.val false .bool]
def C6Y(f:B0G):Nat×Fn:=(70,⟨C6W,C6X,fun x=>f x.1⟩)
def E19:Fn:=(C6Y A0A).2
theorem E1A(f_s_ServerOk:A87)(f_s_ReqOk:B22)(f_s_l1In:E6)(f_s_l18Clients:A4h)(f_s_l18Who:B3m):∀ x,(B8 cfg [C2z f_s_ServerOk,D5N f_s_ReqOk,P9 f_s_l1In,B7C f_s_l18Clients,D1p f_s_l18Who] E18 69 [.tmp 2] (Tryz.f70.body.getD .skip) C6W C6X).fn x=B0H f_s_ServerOk f_s_ReqOk f_s_l1In f_s_l18Clients f_s_l18Who x.1:=by intro x;kernel_rfl
theorem E1B:B0 Tryz.prog 70 E19:=sm MO A7 (tc Tryz.call90 D7S (tc Tryz.call91 E7O (tc Tryz.call120 R4 (tc Tryz.call141 D1m (tc Tryz.call142 E4T A5))))) Tryz.func70 (by kernel_rfl) (by decide) (E1A A4g A5k E4 U7 A9E)
abbrev C6Z:List PK:= [.val true (.pair (.rs 9 .str) (.rs 9 .str)) false]
abbrev C6a:List RK:= [.val true A0U]
def A7G(f:X2):Nat×Fn:=(229,⟨C6Z,C6a,fun x=>f x.1⟩)
def E1C:Fn:=(A7G T6).2
theorem E1D:∀ x,(B8 cfg [] (B3 []) 12 [.cell 2 26] (Tryz.f229.body.getD .skip) C6Z C6a).fn x=B5x x.1:=by intro x;kernel_rfl
theorem B0k:B0 Tryz.prog 229 E1C:=sm MO A7 A5 Tryz.func229 (by kernel_rfl) (by decide) (E1D)
abbrev C6b:List PK:= [.val true (.pair (.pair (.rs 9 .str) (.rs 9 .str)) (.pair (.int .i64) (.pair (.int .i64) (.rs 109 kUp)))) false]
abbrev C6c:List RK:= [.val true A47]
def A7H(f:N4):Nat×Fn:=(157,⟨C6b,C6c,fun x=>f x.1⟩)
def E1E:Fn:=(A7H L4).2
theorem E1F(f_s_l12Copy:X2)(f_s_l14CopyUps:M1):∀ x,(B8 cfg [A7G f_s_l12Copy,A9Z f_s_l14CopyUps] (B3 []) 14 [.cell 2 29] (Tryz.f157.body.getD .skip) C6b C6c).fn x=B0I f_s_l12Copy f_s_l14CopyUps x.1:=by intro x;kernel_rfl
theorem B0l:B0 Tryz.prog 157 E1E:=sm MO A7 (tc Tryz.call229 B0k (tc Tryz.call230 B76 A5)) Tryz.func157 (by kernel_rfl) (by decide) (E1F T6 K8)
abbrev C6d:List PK:= [.val true (.pair .str (.pair (.rs 5 (.int .u8)) F0)) false]
abbrev C6e:List RK:= [.val true B2]
def B7D(f:A1Z):Nat×Fn:=(193,⟨C6d,C6e,fun x=>f x.1⟩)
def E1G:Fn:=(B7D X3).2
theorem E1H:∀ x,(B8 cfg [] (B3 []) 9 [.cell 2 79] (Tryz.f193.body.getD .skip) C6d C6e).fn x=B5z x.1:=by intro x;kernel_rfl
theorem C6f:B0 Tryz.prog 193 E1G:=sm MO A7 A5 Tryz.func193 (by kernel_rfl) (by decide) (E1H)
def E1I:Nat→Option Jn:=B3 [(128503,⟨[.t 7 false [.int .i64]],lt 40 8 [],true⟩)]
abbrev C6g:List PK:= [.val true (.pair .str (.pair (.rs 5 (.int .u8)) F0)) false]
abbrev C6h:List RK:= [.val true L5,.val false (.sl 5 (.int .u8)),.val false .bool]
def C6i(f:B0L):Nat×Fn:=(251,⟨C6g,C6h,fun x=>f x.1⟩)
def E1J:Fn:=(C6i A6y).2
theorem E1K(f_s_Crc:B0B)(f_s_ClientOk:S9):∀ x,(B8 cfg [C8C f_s_Crc,A8J f_s_ClientOk] E1I 65 [.cell 2 43,.tmp 3,.tmp 4] (Tryz.f251.body.getD .skip) C6g C6h).fn x=B61 f_s_Crc f_s_ClientOk x.1:=by intro x;kernel_rfl
theorem E1L:B0 Tryz.prog 251 E1J:=sm MO A7 (tc Tryz.call152 D7L (tc Tryz.call215 B4G A5)) Tryz.func251 (by kernel_rfl) (by decide) (E1K A86 H6)
abbrev C6j:List PK:= [.val true (.pair (.pair (.rs 9 .str) (.rs 9 .str)) (.pair (.int .i64) (.pair (.int .i64) (.rs 109 kUp)))) false]
abbrev C6k:List RK:= [.val false (.int .i64)]
def A7I(f:T7):Nat×Fn:=(236,⟨C6j,C6k,fun x=>f x.1⟩)
def E1M:Fn:=(A7I R2).2
theorem E1N:∀ x,(B8 cfg [] (B3 []) 10 [.tmp 2] (Tryz.f236.body.getD .skip) C6j C6k).fn x=B62 x.1:=by intro x;kernel_rfl
theorem B0m:B0 Tryz.prog 236 E1M:=sm MO A7 A5 Tryz.func236 (by kernel_rfl) (by decide) (E1N)
abbrev B0n:List PK:= [.ptr (.pair A0U (.pair (.int .i64) (.pair (.int .i64) (.rs 109 kUp)))),.val true (.pair (.int .i64) (.pair (.int .i64) (.pair (.int .i64) (.pair .str (.pair (.int .i64) (.rs 5 (.int .u8))))))) false]
abbrev B0o:List RK:= []
def X8(f:H0):Nat×Fn:=(237,⟨B0n,B0o,fun x=>f x.1 x.2.1⟩)
def C32:Fn:=(X8 F5).2
theorem C33(f_s_l14One_r99_0:Q0)(f_s_l13Put:A5h):∀ x,(B8 cfg [A5w f_s_l14One_r99_0,C0y f_s_l13Put] (B3 []) 46 [] (Tryz.f237.body.getD .skip) B0n B0o).fn x=A4j f_s_l14One_r99_0 f_s_l13Put x.1 x.2.1:=by intro x;kernel_rfl
theorem A10:B0 Tryz.prog 237 C32:=sm MO A7 (tc Tryz.call281 B2W (tc Tryz.call284 D1Z A5)) Tryz.func237 (by kernel_rfl) (by decide) (C33 N3 A3R)
abbrev E1O:List PK:= [.val true (.pair (.pair (.rs 9 .str) (.rs 9 .str)) (.pair (.int .i64) (.pair (.int .i64) (.rs 109 kUp)))) false,.val false .str false]
abbrev E1P:List RK:= [.val true kUp,.val false .bool]
def D1q(f:B23):Nat×Fn:=(113,⟨E1O,E1P,fun x=>f x.1 x.2.1⟩)
def E9W:Fn:=(D1q A9F).2
theorem E9X(f_s_l14At:R5):∀ x,(B8 cfg [A5v f_s_l14At] (B3 []) 26 [.cell 4 109,.tmp 5] (Tryz.f113.body.getD .skip) E1O E1P).fn x=C8y f_s_l14At x.1 x.2.1:=by intro x;kernel_rfl
theorem E1Q:B0 Tryz.prog 113 E9W:=sm MO A7 (tc Tryz.call206 A8R A5) Tryz.func113 (by kernel_rfl) (by decide) (E9X O4)
abbrev C34:List PK:= [.val true (.pair (.pair (.rs 9 .str) (.rs 9 .str)) (.pair (.int .i64) (.pair (.int .i64) (.rs 109 kUp)))) false,.val true L5 false]
abbrev C35:List RK:= [.val true F0]
def C36(f:A88):Nat×Fn:=(166,⟨C34,C35,fun x=>f x.1 x.2.1⟩)
def D7V:Fn:=(C36 A4k).2
theorem D7W(f_s_UpAt:B23):∀ x,(B8 cfg [D1q f_s_UpAt] (B3 []) 35 [.cell 4 126] (Tryz.f166.body.getD .skip) C34 C35).fn x=B3n f_s_UpAt x.1 x.2.1:=by intro x;kernel_rfl
theorem D7X:B0 Tryz.prog 166 D7V:=sm MO A7 (tc Tryz.call113 E1Q A5) Tryz.func166 (by kernel_rfl) (by decide) (D7W A9F)
def E4U:Nat→Option Jn:=B3 [(235,⟨[.t 19 false [.bool]],[.t 20,.t 21],true⟩)]
abbrev D1r:List PK:= [.val true (.pair (.pair (.rs 9 .str) (.rs 9 .str)) (.pair (.int .i64) (.pair (.int .i64) (.rs 109 kUp)))) false,.val false .str false,.val false (.int .i64) false]
abbrev D1s:List RK:= [.val true F0]
def D1t(f:B3o):Nat×Fn:=(167,⟨D1r,D1s,fun x=>f x.1 x.2.1 x.2.2.1⟩)
def E4V:Fn:=(D1t A9G).2
theorem E4W(f_s_UpAt:B23):∀ x,(B8 cfg [D1q f_s_UpAt] E4U 33 [.cell 6 126] (Tryz.f167.body.getD .skip) D1r D1s).fn x=C0c f_s_UpAt x.1 x.2.1 x.2.2.1:=by intro x;kernel_rfl
theorem E4X:B0 Tryz.prog 167 E4V:=sm MO A7 (tc Tryz.call113 E1Q A5) Tryz.func167 (by kernel_rfl) (by decide) (E4W A9F)
def C4V:Nat→Option Jn:=B3 [(7,⟨[],lt 33 10 (lt 26 6 (lt 11 14 [])),false⟩),(28,⟨[.t 11 false [.bool]],lt 12 13 [],true⟩)]
abbrev B2X:List PK:= [.val true (.pair (.pair (.rs 9 .str) (.rs 9 .str)) (.pair (.int .i64) (.pair (.int .i64) (.rs 109 kUp)))) false,.val false .str false,.val false (.int .i64) false]
abbrev B2Y:List RK:= [.val true (.pair A0U (.pair (.int .i64) (.pair (.int .i64) (.rs 109 kUp)))),.val false (.int .i64)]
def B2Z(f:A24):Nat×Fn:=(162,⟨B2X,B2Y,fun x=>f x.1 x.2.1 x.2.2.1⟩)
def C4W:Fn:=(B2Z Z8).2
theorem C4X(f_s_l1In:E6)(f_s_l14Copy:N4)(f_s_StoreOk:O8)(f_s_l11Id:O3)(f_s_l14At:R5)(f_s_l14Left:T7)(f_s_l14Write_r0_4:H0):∀ x,(B8 cfg [P9 f_s_l1In,A7H f_s_l14Copy,A3v f_s_StoreOk,A3r f_s_l11Id,A5v f_s_l14At,A7I f_s_l14Left,X8 f_s_l14Write_r0_4] C4V 49 [.cell 6 29,.tmp 7] (Tryz.f162.body.getD .skip) B2X B2Y).fn x=A5l f_s_l1In f_s_l14Copy f_s_StoreOk f_s_l11Id f_s_l14At f_s_l14Left f_s_l14Write_r0_4 x.1 x.2.1 x.2.2.1:=by intro x;kernel_rfl
theorem C4Y:B0 Tryz.prog 162 C4W:=sm MO A7 (tc Tryz.call120 R4 (tc Tryz.call157 B0l (tc Tryz.call159 A7F (tc Tryz.call160 A5u (tc Tryz.call206 A8R (tc Tryz.call236 B0m (tc Tryz.call237 A10 A5))))))) Tryz.func162 (by kernel_rfl) (by decide) (C4X E4 L4 G2 N1 O4 R2 F5)
def C7m:Nat→Option Jn:=B3 [(7,⟨[],lt 17 14 [],false⟩),(127,⟨[],lt 64 9 (lt 44 19 []),false⟩),(255,⟨[.b 10 [.own 100003000,.own 100003001,.int .i64,.int .i64,.ro 109 kUp],.r 100003000 9 .str,.r 100003001 9 .str],lt 74 26 [.r 92,.r 97,.r 69632,.r 69633,.r 69636,.r 411648,.r 411649,.t 13,.t 14,.t 16],true⟩),(508,⟨[.t 44 false [.bool]],lt 45 18 [],true⟩),(2042,⟨[.t 13 false [.int .i64],.b 10 [.own 100003000,.own 100003001,.int .i64,.int .i64,.ro 109 kUp],.r 100003000 9 .str,.r 100003001 9 .str],lt 74 26 [.r 92,.r 97,.r 69632,.r 69633,.r 69636,.r 411648,.r 411649,.t 14,.t 16],false⟩),(65353,⟨[.t 14 false [.int .i64]],lt 82 6 [],true⟩)]
abbrev B4t:List PK:= [.val true (.pair (.pair (.rs 9 .str) (.rs 9 .str)) (.pair (.int .i64) (.pair (.int .i64) (.rs 109 kUp)))) false,.val false .str false,.val false (.int .i64) false,.val false (.rs 5 (.int .u8)) false]
abbrev B4u:List RK:= [.val true (.pair A0U (.pair (.int .i64) (.pair (.int .i64) (.rs 109 kUp)))),.val false (.int .i64)]
def B4v(f:A3H):Nat×Fn:=(163,⟨B4t,B4u,fun x=>f x.1 x.2.1 x.2.2.1 x.2.2.2.1⟩)
def C7n:Fn:=(B4v A0b).2
theorem C7o(f_s_l1In:E6)(f_s_l14Copy:N4)(f_s_StoreOk:O8)(f_s_l11Id:O3)(f_s_l14At:R5)(f_s_l14Left:T7)(f_s_l14Write_r0_4:H0):∀ x,(B8 cfg [P9 f_s_l1In,A7H f_s_l14Copy,A3v f_s_StoreOk,A3r f_s_l11Id,A5v f_s_l14At,A7I f_s_l14Left,X8 f_s_l14Write_r0_4] C7m 101 [.cell 8 29,.tmp 9] (Tryz.f163.body.getD .skip) B4t B4u).fn x=A7Y f_s_l1In f_s_l14Copy f_s_StoreOk f_s_l11Id f_s_l14At f_s_l14Left f_s_l14Write_r0_4 x.1 x.2.1 x.2.2.1 x.2.2.2.1:=by intro x;kernel_rfl
theorem C7p:B0 Tryz.prog 163 C7n:=sm MO A7 (tc Tryz.call120 R4 (tc Tryz.call157 B0l (tc Tryz.call159 A7F (tc Tryz.call160 A5u (tc Tryz.call206 A8R (tc Tryz.call236 B0m (tc Tryz.call237 A10 A5))))))) Tryz.func163 (by kernel_rfl) (by decide) (C7o E4 L4 G2 N1 O4 R2 F5)
def C4Z:Nat→Option Jn:=B3 [(7,⟨[],lt 13 8 [],false⟩)]
abbrev B2a:List PK:= [.val true (.pair (.pair (.rs 9 .str) (.rs 9 .str)) (.pair (.int .i64) (.pair (.int .i64) (.rs 109 kUp)))) false,.val false .str false,.val false (.int .i64) false]
abbrev B2b:List RK:= [.val true (.pair A0U (.pair (.int .i64) (.pair (.int .i64) (.rs 109 kUp)))),.val false (.int .i64)]
def B2c(f:A25):Nat×Fn:=(164,⟨B2a,B2b,fun x=>f x.1 x.2.1 x.2.2.1⟩)
def C4a:Fn:=(B2c Z9).2
theorem C4b(f_s_Crc:B0B)(f_s_l14Copy:N4)(f_s_StoreOk:O8)(f_s_l11Id:O3)(f_s_l14At:R5)(f_s_l14Left:T7)(f_s_l14Write_r0_4:H0):∀ x,(B8 cfg [C8C f_s_Crc,A7H f_s_l14Copy,A3v f_s_StoreOk,A3r f_s_l11Id,A5v f_s_l14At,A7I f_s_l14Left,X8 f_s_l14Write_r0_4] C4Z 62 [.cell 6 29,.tmp 7] (Tryz.f164.body.getD .skip) B2a B2b).fn x=A5m f_s_Crc f_s_l14Copy f_s_StoreOk f_s_l11Id f_s_l14At f_s_l14Left f_s_l14Write_r0_4 x.1 x.2.1 x.2.2.1:=by intro x;kernel_rfl
theorem C4c:B0 Tryz.prog 164 C4a:=sm MO A7 (tc Tryz.call152 D7L (tc Tryz.call157 B0l (tc Tryz.call159 A7F (tc Tryz.call160 A5u (tc Tryz.call206 A8R (tc Tryz.call236 B0m (tc Tryz.call237 A10 A5))))))) Tryz.func164 (by kernel_rfl) (by decide) (C4b A86 L4 G2 N1 O4 R2 F5)
def C4d:Nat→Option Jn:=B3 [(7,⟨[],lt 26 4 (lt 19 6 (lt 9 9 [])),false⟩),(28,⟨[.t 9 false [.bool]],lt 10 8 [],true⟩)]
abbrev B2d:List PK:= [.val true (.pair (.pair (.rs 9 .str) (.rs 9 .str)) (.pair (.int .i64) (.pair (.int .i64) (.rs 109 kUp)))) false,.val false .str false]
abbrev B2e:List RK:= [.val true (.pair A0U (.pair (.int .i64) (.pair (.int .i64) (.rs 109 kUp)))),.val false (.int .i64)]
def B2f(f:A26):Nat×Fn:=(165,⟨B2d,B2e,fun x=>f x.1 x.2.1⟩)
def C4e:Fn:=(B2f A00).2
theorem C4f(f_s_l14Copy:N4)(f_s_StoreOk:O8)(f_s_l11Id:O3)(f_s_l14At:R5)(f_s_l14Left:T7)(f_s_l14Write_r0_4:H0):∀ x,(B8 cfg [A7H f_s_l14Copy,A3v f_s_StoreOk,A3r f_s_l11Id,A5v f_s_l14At,A7I f_s_l14Left,X8 f_s_l14Write_r0_4] C4d 35 [.cell 4 29,.tmp 5] (Tryz.f165.body.getD .skip) B2d B2e).fn x=A5n f_s_l14Copy f_s_StoreOk f_s_l11Id f_s_l14At f_s_l14Left f_s_l14Write_r0_4 x.1 x.2.1:=by intro x;kernel_rfl
theorem C4g:B0 Tryz.prog 165 C4e:=sm MO A7 (tc Tryz.call157 B0l (tc Tryz.call159 A7F (tc Tryz.call160 A5u (tc Tryz.call206 A8R (tc Tryz.call236 B0m (tc Tryz.call237 A10 A5)))))) Tryz.func165 (by kernel_rfl) (by decide) (C4f L4 G2 N1 O4 R2 F5)
abbrev B9h:List PK:= [.val true (.pair (.rs 9 .str) (.rs 9 .str)) false]
abbrev B9i:List RK:= [.val true A0U]
def B9j(f:A6U):Nat×Fn:=(252,⟨B9h,B9i,fun x=>f x.1⟩)
def D3q:Fn:=(B9j A2S).2
theorem D3r:∀ x,(B8 cfg [] (B3 []) 12 [.cell 2 26] (Tryz.f252.body.getD .skip) B9h B9i).fn x=B1P x.1:=by intro x;kernel_rfl
theorem D3s:B0 Tryz.prog 252 D3q:=sm MO A7 A5 Tryz.func252 (by kernel_rfl) (by decide) (D3r)
abbrev C6l:List PK:= [.val true (.pair .str (.pair (.rs 5 (.int .u8)) F0)) false]
abbrev C6m:List RK:= [.val false .bool]
def B7E(f:A3n):Nat×Fn:=(253,⟨C6l,C6m,fun x=>f x.1⟩)
def E1R:Fn:=(B7E A1a).2
theorem E1S:∀ x,(B8 cfg [] (B3 []) 11 [.tmp 2] (Tryz.f253.body.getD .skip) C6l C6m).fn x=B64 x.1:=by intro x;kernel_rfl
theorem C6n:B0 Tryz.prog 253 E1R:=sm MO A7 A5 Tryz.func253 (by kernel_rfl) (by decide) (E1S)
abbrev C6o:List PK:= [.val false (.int .i64) false,.val false (.int .i64) false]
abbrev C6p:List RK:= [.val false (.int .i64)]
def C6q(f:B0N):Nat×Fn:=(292,⟨C6o,C6p,fun x=>f x.1 x.2.1⟩)
def E1T:Fn:=(C6q A70).2
theorem E1U:∀ x,(B8 cfg [] (B3 []) 35 [.tmp 4] (Tryz.f292.body.getD .skip) C6o C6p).fn x=B65 x.1 x.2.1:=by intro x;kernel_rfl
theorem E1V:B0 Tryz.prog 292 E1T:=sm MO A7 A5 Tryz.func292 (by kernel_rfl) (by decide) (E1U)
abbrev B2g:List PK:= [.val true (.pair .str (.pair (.rs 5 (.int .u8)) F0)) false,.val false (.int .i64) false]
abbrev B2h:List RK:= [.val true (.pair .str (.pair (.rs 5 (.int .u8)) F0))]
def B2i(f:B3p):Nat×Fn:=(293,⟨B2g,B2h,fun x=>f x.1 x.2.1⟩)
def C4h:Fn:=(B2i A9H).2
theorem C4i(f_s_l1In:E6):∀ x,(B8 cfg [P9 f_s_l1In] (B3 []) 26 [.cell 4 79] (Tryz.f293.body.getD .skip) B2g B2h).fn x=C0d f_s_l1In x.1 x.2.1:=by intro x;kernel_rfl
theorem C4j:B0 Tryz.prog 293 C4h:=sm MO A7 (tc Tryz.call120 R4 A5) Tryz.func293 (by kernel_rfl) (by decide) (C4i E4)
abbrev B0p:List PK:= [.val true (.pair .str (.pair (.rs 5 (.int .u8)) F0)) false,.val true F0 false]
abbrev B0q:List RK:= [.val true (.pair .str (.pair (.rs 5 (.int .u8)) F0))]
def B0r(f:B0O):Nat×Fn:=(254,⟨B0p,B0q,fun x=>f x.1 x.2.1⟩)
def C37:Fn:=(B0r A71).2
theorem C38(f_s_l17Next:B0N)(f_s_l17Far:B3p):∀ x,(B8 cfg [C6q f_s_l17Next,B2i f_s_l17Far] (B3 []) 20 [.cell 4 79] (Tryz.f254.body.getD .skip) B0p B0q).fn x=B66 f_s_l17Next f_s_l17Far x.1 x.2.1:=by intro x;kernel_rfl
theorem C39:B0 Tryz.prog 254 C37:=sm MO A7 (tc Tryz.call292 E1V (tc Tryz.call293 C4j A5)) Tryz.func254 (by kernel_rfl) (by decide) (C38 A70 A9H)
def D3t:Nat→Option Jn:=B3 [(58,⟨[.t 5 false [.own 100000000],.t 6 false [.int .i64],.r 100000000 130 A9],lt 8 20 [.r 7,.r 26,.r 27],false⟩)]
abbrev B9k:List PK:= [.val false (.rs 130 A9) false,.val false (.int .i64) false]
abbrev B9l:List RK:= [.val false (.sl 130 A9)]
def B9m(f:A6V):Nat×Fn:=(255,⟨B9k,B9l,fun x=>f x.1 x.2.1⟩)
def D3u:Fn:=(B9m A2T).2
theorem D3v:∀ x,(B8 cfg [] D3t 29 [.tmp 4] (Tryz.f255.body.getD .skip) B9k B9l).fn x=B1Q x.1 x.2.1:=by intro x;kernel_rfl
theorem D3w:B0 Tryz.prog 255 D3u:=sm MO A7 A5 Tryz.func255 (by kernel_rfl) (by decide) (D3v)
abbrev D1u:List PK:= [.val true (.pair .str (.pair (.rs 5 (.int .u8)) F0)) false]
abbrev D1v:List RK:= [.val true B2]
def C13(f:A3T):Nat×Fn:=(256,⟨D1u,D1v,fun x=>f x.1⟩)
def E4Y:Fn:=(C13 A1b).2
theorem E4Z(f_s_l17Copy:A1Z)(f_s_ClientOk:S9)(f_s_l17Over:A3n):∀ x,(B8 cfg [B7D f_s_l17Copy,A8J f_s_ClientOk,B7E f_s_l17Over] (B3 []) 15 [.cell 2 79] (Tryz.f256.body.getD .skip) D1u D1v).fn x=C0e f_s_l17Copy f_s_ClientOk f_s_l17Over x.1:=by intro x;kernel_rfl
theorem D1w:B0 Tryz.prog 256 E4Y:=sm MO A7 (tc Tryz.call193 C6f (tc Tryz.call215 B4G (tc Tryz.call253 C6n A5))) Tryz.func256 (by kernel_rfl) (by decide) (E4Z X3 H6 A1a)
def D7Y:Nat→Option Jn:=B3 [(58,⟨[.t 3 false [.int .i64],.t 4 false [.int .i64]],lt 5 27 [.b 5,.r 86021],false⟩)]
abbrev C3A:List PK:= [.val true (.pair (.rs 9 .str) (.rs 9 .str)) false]
abbrev C3B:List RK:= [.val false (.int .i64)]
def C3C(f:A89):Nat×Fn:=(294,⟨C3A,C3B,fun x=>f x.1⟩)
def D7Z:Fn:=(C3C A4m).2
theorem D7a(f_s_GetRec:U6):∀ x,(B8 cfg [B4E f_s_GetRec] D7Y 33 [.tmp 2] (Tryz.f294.body.getD .skip) C3A C3B).fn x=B3q f_s_GetRec x.1:=by intro x;kernel_rfl
theorem D7b:B0 Tryz.prog 294 D7Z:=sm MO A7 (tc Tryz.call235 C0z A5) Tryz.func294 (by kernel_rfl) (by decide) (D7a K7)
def D7c:Nat→Option Jn:=B3 [(122,⟨[.t 6 false [.int .i64],.b 5 [.own 36864,.own 36865],.r 36864 9 .str,.r 36865 9 .str],lt 13 35 [.x 36,.x 38,.x 45,.x 47],false⟩),(1956,⟨[.t 29 false [.bool]],lt 20 9 [],true⟩)]
abbrev C3D:List PK:= [.val true (.pair (.rs 9 .str) (.rs 9 .str)) false,.val false (.rs 4 .bool) false]
abbrev C3E:List RK:= [.val true A0U]
def C3F(f:A8A):Nat×Fn:=(258,⟨C3D,C3E,fun x=>f x.1 x.2.1⟩)
def D7d:Fn:=(C3F A0S).2
theorem D7e(f_s_l12Copy:X2)(f_s_DiskOk:A1X):∀ x,(B8 cfg [A7G f_s_l12Copy,B4D f_s_DiskOk] D7c 49 [.cell 4 26] (Tryz.f258.body.getD .skip) C3D C3E).fn x=A8B f_s_l12Copy f_s_DiskOk x.1 x.2.1:=by intro x;kernel_rfl
theorem D7f:B0 Tryz.prog 258 D7d:=sm MO A7 (tc Tryz.call229 B0k (tc Tryz.call231 C0x A5)) Tryz.func258 (by kernel_rfl) (by decide) (D7e T6 S2)
def B88:Nat→Option Jn:=B3 [(63,⟨[],lt 22 6 [],false⟩)]
abbrev A7l:List PK:= [.val true (.pair (.rs 9 .str) (.rs 9 .str)) false]
abbrev A7m:List RK:= [.val true (.pair A0U (.pair (.int .i64) (.pair (.int .i64) (.rs 109 kUp)))),.val false .bool]
def A7n(f:Z2):Nat×Fn:=(257,⟨A7l,A7m,fun x=>f x.1⟩)
def B89:Fn:=(A7n E8).2
theorem B8A(f_s_l12Copy:X2)(f_s_DiskOk:A1X)(f_s_ScanRecs:A22)(f_s_FoldRecs_r99_0:Q1)(f_s_TopEpoch:A89):∀ x,(B8 cfg [A7G f_s_l12Copy,B4D f_s_DiskOk,B4F f_s_ScanRecs,A3Y f_s_FoldRecs_r99_0,C3C f_s_TopEpoch] B88 36 [.cell 2 29,.tmp 3] (Tryz.f257.body.getD .skip) A7l A7m).fn x=O5 f_s_l12Copy f_s_DiskOk f_s_ScanRecs f_s_FoldRecs_r99_0 f_s_TopEpoch x.1:=by intro x;kernel_rfl
theorem B8B:B0 Tryz.prog 257 B89:=sm MO A7 (tc Tryz.call229 B0k (tc Tryz.call231 C0x (tc Tryz.call232 C2w (tc Tryz.call233 A9f (tc Tryz.call294 D7b A5))))) Tryz.func257 (by kernel_rfl) (by decide) (B8A T6 S2 X0 M7 A4m)
def D3x:Nat→Option Jn:=B3 [(3,⟨[],lt 8 26 [.x 23],false⟩)]
abbrev B9n:List PK:= [.ptr (.pair (.pair (.pair (.pair (.rs 9 .str) (.rs 9 .str)) (.pair (.int .i64) (.pair (.int .i64) (.rs 109 (.pair .str (.pair (.int .i64) (.pair (.rs 5 (.int .u8)) .bool))))))) (.sl 130 A9)) (.pair (.sl 79 (.pair .str (.pair (.rs 5 (.int .u8)) F0))) (.pair (.sl 4 .bool) (.pair (.sl 113 (.pair (.int .i64) (.pair L5 (.rs 5 (.int .u8))))) (.pair (.sl 130 A9) (.sl 3 (.int .i64))))))),.val false (.int .i64) false]
abbrev B9o:List RK:= [.val false .bool]
def B9p(f:A6W):Nat×Fn:=(194,⟨B9n,B9o,fun x=>f x.1 x.2.1⟩)
def D3y:Fn:=(B9p A2U).2
theorem D3z(f_s_l1In:E6)(f_s_NextReq:B0L):∀ x,(B8 C43 [P9 f_s_l1In,C6i f_s_NextReq] D3x 67 [.tmp 4] (Tryz.f194.body.getD .skip) B9n B9o).fn x=B1R f_s_l1In f_s_NextReq x.1 x.2.1:=by intro x;kernel_rfl
theorem D40:B0 Tryz.prog 194 D3y:=sm MO A3J (tc Tryz.call120 R4 (tc Tryz.call251 E1L A5)) Tryz.func194 (by kernel_rfl) (by decide) (D3z E4 A6y)
abbrev A3w:List PK:= [.val true (.pair (.pair (.rs 9 .str) (.rs 9 .str)) (.pair (.int .i64) (.pair (.int .i64) (.rs 109 kUp)))) false]
abbrev A3x:List RK:= [.val true (.pair A0U (.pair (.int .i64) (.pair (.int .i64) (.sl 109 (.pair .str (.pair (.int .i64) (.pair (.rs 5 (.int .u8)) .bool)))))))]
def A3y(f:N4):Nat×Fn:=(157,⟨A3w,A3x,fun x=>f x.1⟩)
def B2j:Fn:=(A3y L4).2
theorem B2k(f_s_l12Copy:X2)(f_s_l14CopyUps:M1):∀ x,(B8 C43 [A7G f_s_l12Copy,V2 f_s_l14CopyUps] (B3 []) 14 [.cell 2 29] (Tryz.f157.body.getD .skip) A3w A3x).fn x=B0I f_s_l12Copy f_s_l14CopyUps x.1:=by intro x;kernel_rfl
theorem B2l:B0 Tryz.prog 157 B2j:=sm MO A3J (tc Tryz.call229 B0k (tc Tryz.call230 A1m A5)) Tryz.func157 (by kernel_rfl) (by decide) (B2k T6 K8)
abbrev A3z:List PK:= [.val true (.pair (.pair (.pair (.rs 9 .str) (.rs 9 .str)) (.pair (.int .i64) (.pair (.int .i64) (.rs 109 kUp)))) (.rs 130 A9)) false]
abbrev A40:List RK:= [.val true (.pair (.pair A0U (.pair (.int .i64) (.pair (.int .i64) (.sl 109 (.pair .str (.pair (.int .i64) (.pair (.rs 5 (.int .u8)) .bool))))))) (.sl 130 A9))]
def A41(f:B0J):Nat×Fn:=(89,⟨A3z,A40,fun x=>f x.1⟩)
def B2m:Fn:=(A41 A6w).2
theorem B2n(f_s_l14Copy:N4):∀ x,(B8 C43 [A3y f_s_l14Copy] (B3 []) 11 [.cell 2 32] (Tryz.f89.body.getD .skip) A3z A40).fn x=B5y f_s_l14Copy x.1:=by intro x;kernel_rfl
theorem B2o:B0 Tryz.prog 89 B2m:=sm MO A3J (tc Tryz.call157 B2l A5) Tryz.func89 (by kernel_rfl) (by decide) (B2n L4)
def B2p:Nat→Option Jn:=B3 [(7,⟨[.b 3 [.own 40960,.own 40961,.int .i64,.int .i64,.own 40964,.own 40965,.own 100000000,.own 13,.nil,.own 17,.own 21],.r 13 4 .bool,.r 17 130 A9,.r 21 3 (.int .i64),.r 40960 9 .str,.r 40961 9 .str,.r 40964 109 (.pair .str (.pair (.int .i64) (.pair (.rs 5 (.int .u8)) .bool))),.r 40965 130 A9,.r 100000000 79 (.pair .str (.pair (.rs 5 (.int .u8)) F0))],lt 23 18 [.r 38,.r 39,.r 155649,.t 4],true⟩),(58,⟨[.t 4 false [.int .i64],.b 3 [.own 40960,.own 40961,.int .i64,.int .i64,.own 40964,.own 40965,.own 100000000,.own 13,.nil,.own 17,.own 21],.r 13 4 .bool,.r 17 130 A9,.r 21 3 (.int .i64),.r 40960 9 .str,.r 40961 9 .str,.r 40964 109 (.pair .str (.pair (.int .i64) (.pair (.rs 5 (.int .u8)) .bool))),.r 40965 130 A9,.r 100000000 79 (.pair .str (.pair (.rs 5 (.int .u8)) F0))],lt 23 18 [.r 38,.r 39,.r 155649],false⟩),(122,⟨[.t 5 false [.int .i64],.b 3 [.own 40960,.own 40961,.int .i64,.int .i64,.own 40964,.own 40965,.own 100000000,.own 13,.own 100002001,.own 17,.own 21],.r 13 4 .bool,.r 17 130 A9,.r 21 3 (.int .i64),.r 40960 9 .str,.r 40961 9 .str,.r 40964 109 (.pair .str (.pair (.int .i64) (.pair (.rs 5 (.int .u8)) .bool))),.r 40965 130 A9,.r 100000000 79 (.pair .str (.pair (.rs 5 (.int .u8)) F0)),.r 100002001 113 (.pair (.int .i64) (.pair L5 (.rs 5 (.int .u8))))],lt 41 23 [.b 6,.r 53,.r 56,.r 61,.r 62,.t 6],false⟩)]
abbrev A42:List PK:= [.val true (.pair (.pair (.pair (.pair (.rs 9 .str) (.rs 9 .str)) (.pair (.int .i64) (.pair (.int .i64) (.rs 109 kUp)))) (.rs 130 A9)) (.pair (.rs 79 B2) (.pair (.rs 4 .bool) (.pair (.rs 113 B9) (.pair (.rs 130 A9) (.rs 3 (.int .i64))))))) false]
abbrev A43:List RK:= [.val true (.pair (.pair (.pair A0U (.pair (.int .i64) (.pair (.int .i64) (.sl 109 (.pair .str (.pair (.int .i64) (.pair (.rs 5 (.int .u8)) .bool))))))) (.sl 130 A9)) (.pair (.sl 79 (.pair .str (.pair (.rs 5 (.int .u8)) F0))) (.pair (.sl 4 .bool) (.pair (.sl 113 (.pair (.int .i64) (.pair L5 (.rs 5 (.int .u8))))) (.pair (.sl 130 A9) (.sl 3 (.int .i64)))))))]
def A44(f:B0K):Nat×Fn:=(109,⟨A42,A43,fun x=>f x.1⟩)
def B2q:Fn:=(A44 A6x).2
theorem B2r(f_s_l15Copy:B0J)(f_s_l17Copy:A1Z):∀ x,(B8 C43 [A41 f_s_l15Copy,B7D f_s_l17Copy] B2p 65 [.cell 2 38] (Tryz.f109.body.getD .skip) A42 A43).fn x=B60 f_s_l15Copy f_s_l17Copy x.1:=by intro x;kernel_rfl
theorem B2s:B0 Tryz.prog 109 B2q:=sm MO A3J (tc Tryz.call89 B2o (tc Tryz.call193 C6f A5)) Tryz.func109 (by kernel_rfl) (by decide) (B2r A6w X3)
def C3G:Nat→Option Jn:=B3 [(31,⟨[.t 9 false [.int .i64],.b 8 [.int .i64,.int .i64],.b 10 [.own 100000000,.own 100000001,.int .i64,.int .i64,.ro 109 kUp],.r 100000000 9 .str,.r 100000001 9 .str],lt 19 51 [.r 114688,.r 114689,.r 167936,.r 167937,.r 237568,.r 237569,.r 274432,.r 274433,.t 13,.t 14],false⟩)]
abbrev B0s:List PK:= [.val true (.pair (.pair (.rs 9 .str) (.rs 9 .str)) (.pair (.int .i64) (.pair (.int .i64) (.rs 109 kUp)))) false,.val true L5 false,.val false (.rs 5 (.int .u8)) false]
abbrev B0t:List RK:= [.val true (.pair (.pair (.rs 9 .str) (.rs 9 .str)) (.pair (.int .i64) (.pair (.int .i64) (.rs 109 kUp)))),.val true F0]
def B0u(f:A0z):Nat×Fn:=(92,⟨B0s,B0t,fun x=>f x.1 x.2.1 x.2.2.1⟩)
def C3H:Fn:=(B0u X4).2
theorem C3I(f_s_MakeUp_r99_0:A24)(f_s_PutUp_r99_0:A3H)(f_s_DoneUp_r99_0:A25)(f_s_DropUp_r99_0:A26)(f_s_l15Looks:A88)(f_s_l15Bad:B3o):∀ x,(B8 cfg [B2Z f_s_MakeUp_r99_0,B4v f_s_PutUp_r99_0,B2c f_s_DoneUp_r99_0,B2f f_s_DropUp_r99_0,C36 f_s_l15Looks,D1t f_s_l15Bad] C3G 80 [.cell 6 29,.cell 7 126] (Tryz.f92.body.getD .skip) B0s B0t).fn x=A4n f_s_MakeUp_r99_0 f_s_PutUp_r99_0 f_s_DoneUp_r99_0 f_s_DropUp_r99_0 f_s_l15Looks f_s_l15Bad x.1 x.2.1 x.2.2.1:=by intro x;kernel_rfl
theorem C3J:B0 Tryz.prog 92 C3H:=sm MO A7 (tc Tryz.call162 C4Y (tc Tryz.call163 C7p (tc Tryz.call164 C4c (tc Tryz.call165 C4g (tc Tryz.call166 D7X (tc Tryz.call167 E4X A5)))))) Tryz.func92 (by kernel_rfl) (by decide) (C3I Z8 A0b Z9 A00 A4k A9G)
def D1x:Nat→Option Jn:=B3 [(3,⟨[],lt 8 18 [],false⟩)]
abbrev B7F:List PK:= [.ptr (.pair (.pair (.pair (.pair (.rs 9 .str) (.rs 9 .str)) (.pair (.int .i64) (.pair (.int .i64) (.rs 109 (.pair .str (.pair (.int .i64) (.pair (.rs 5 (.int .u8)) .bool))))))) (.sl 130 A9)) (.pair (.sl 79 (.pair .str (.pair (.rs 5 (.int .u8)) F0))) (.pair (.sl 4 .bool) (.pair (.sl 113 (.pair (.int .i64) (.pair L5 (.rs 5 (.int .u8))))) (.pair (.sl 130 A9) (.sl 3 (.int .i64))))))),.val false (.int .i64) false]
abbrev B7G:List RK:= [.val false .bool]
def B7H(f:A4o):Nat×Fn:=(195,⟨B7F,B7G,fun x=>f x.1 x.2.1⟩)
def D1y:Fn:=(B7H A1c).2
theorem D1z(f_s_l15Does_r99_0:A0z)(f_s_l1In:E6):∀ x,(B8 C43 [B0u f_s_l15Does_r99_0,P9 f_s_l1In] D1x 85 [.tmp 4] (Tryz.f195.body.getD .skip) B7F B7G).fn x=A9I f_s_l15Does_r99_0 f_s_l1In x.1 x.2.1:=by intro x;kernel_rfl
theorem D20:B0 Tryz.prog 195 D1y:=sm MO A3J (tc Tryz.call92 C3J (tc Tryz.call120 R4 A5)) Tryz.func195 (by kernel_rfl) (by decide) (D1z X4 E4)
abbrev B9q:List PK:= [.ptr (.pair (.pair (.pair (.pair (.rs 9 .str) (.rs 9 .str)) (.pair (.int .i64) (.pair (.int .i64) (.rs 109 (.pair .str (.pair (.int .i64) (.pair (.rs 5 (.int .u8)) .bool))))))) (.sl 130 A9)) (.pair (.sl 79 (.pair .str (.pair (.rs 5 (.int .u8)) F0))) (.pair (.sl 4 .bool) (.pair (.sl 113 (.pair (.int .i64) (.pair L5 (.rs 5 (.int .u8))))) (.pair (.sl 130 A9) (.sl 3 (.int .i64)))))))]
abbrev B9r:List RK:= [.val false .bool]
def B9s(f:B0M):Nat×Fn:=(196,⟨B9q,B9r,fun x=>f x.1⟩)
def D41:Fn:=(B9s A6z).2
theorem D42(f_s_FlushDisk:A6U):∀ x,(B8 C43 [B9j f_s_FlushDisk] (B3 []) 46 [.tmp 2] (Tryz.f196.body.getD .skip) B9q B9r).fn x=B63 f_s_FlushDisk x.1:=by intro x;kernel_rfl
theorem D43:B0 Tryz.prog 196 D41:=sm MO A3J (tc Tryz.call252 D3s A5) Tryz.func196 (by kernel_rfl) (by decide) (D42 A2S)
def D44:Nat→Option Jn:=B3 [(501,⟨[.b 1000 [.ro 9 .str,.ro 9 .str,.int .i64,.int .i64,.ro 109 (.pair .str (.pair (.int .i64) (.pair (.rs 5 (.int .u8)) .bool))),.own 1005,.own 1006,.own 1007,.own 1008,.own 38,.own 1010],.r 38 130 A9,.r 1005 130 A9,.r 1006 79 (.pair .str (.pair (.rs 5 (.int .u8)) F0)),.r 1007 4 .bool,.r 1008 113 (.pair (.int .i64) (.pair L5 (.rs 5 (.int .u8)))),.r 1010 3 (.int .i64)],lt 56 28 [.x 62,.x 78,.x 83],true⟩)]
abbrev B9t:List PK:= [.ptr (.pair (.pair (.pair (.pair (.rs 9 .str) (.rs 9 .str)) (.pair (.int .i64) (.pair (.int .i64) (.rs 109 (.pair .str (.pair (.int .i64) (.pair (.rs 5 (.int .u8)) .bool))))))) (.sl 130 A9)) (.pair (.sl 79 (.pair .str (.pair (.rs 5 (.int .u8)) F0))) (.pair (.sl 4 .bool) (.pair (.sl 113 (.pair (.int .i64) (.pair L5 (.rs 5 (.int .u8))))) (.pair (.sl 130 A9) (.sl 3 (.int .i64))))))),.val false (.int .i64) false]
abbrev B9u:List RK:= [.val false .bool]
def B9v(f:A6X):Nat×Fn:=(197,⟨B9t,B9u,fun x=>f x.1 x.2.1⟩)
def D45:Fn:=(B9v A2V).2
theorem D46(f_s_l1In:E6)(f_s_l17Over:A3n)(f_s_l17Hear:B0O):∀ x,(B8 C43 [P9 f_s_l1In,B7E f_s_l17Over,B0r f_s_l17Hear] D44 106 [.tmp 4] (Tryz.f197.body.getD .skip) B9t B9u).fn x=B1S f_s_l1In f_s_l17Over f_s_l17Hear x.1 x.2.1:=by intro x;kernel_rfl
theorem D47:B0 Tryz.prog 197 D45:=sm MO A3J (tc Tryz.call120 R4 (tc Tryz.call253 C6n (tc Tryz.call254 C39 A5))) Tryz.func197 (by kernel_rfl) (by decide) (D46 E4 A1a A71)
def D7g:Nat→Option Jn:=B3 [(15,⟨[.t 5 false [.own 100000000],.r 100000000 113 (.pair (.int .i64) (.pair L5 (.rs 5 (.int .u8))))],lt 17 29 [.r 16,.r 44,.r 45,.t 6,.x 31,.x 42],true⟩),(122,⟨[.t 5 false [.own 100000000],.t 6 false [.int .i64],.r 100000000 113 (.pair (.int .i64) (.pair L5 (.rs 5 (.int .u8))))],lt 17 29 [.r 16,.r 44,.r 45,.x 31,.x 42],false⟩)]
abbrev C3K:List PK:= [.ptr (.pair (.pair (.pair (.pair (.rs 9 .str) (.rs 9 .str)) (.pair (.int .i64) (.pair (.int .i64) (.rs 109 (.pair .str (.pair (.int .i64) (.pair (.rs 5 (.int .u8)) .bool))))))) (.sl 130 A9)) (.pair (.sl 79 (.pair .str (.pair (.rs 5 (.int .u8)) F0))) (.pair (.sl 4 .bool) (.pair (.sl 113 (.pair (.int .i64) (.pair L5 (.rs 5 (.int .u8))))) (.pair (.sl 130 A9) (.sl 3 (.int .i64))))))),.val false (.int .i64) false]
abbrev C3L:List RK:= [.val false .bool]
def C3M(f:A8C):Nat×Fn:=(198,⟨C3K,C3L,fun x=>f x.1 x.2.1⟩)
def D7h:Fn:=(C3M A4p).2
theorem D7i(f_s_l1In:E6)(f_s_l18Others:A6V)(f_s_CutOff:A3T):∀ x,(B8 C43 [P9 f_s_l1In,B9m f_s_l18Others,C13 f_s_CutOff] D7g 90 [.tmp 4] (Tryz.f198.body.getD .skip) C3K C3L).fn x=B3r f_s_l1In f_s_l18Others f_s_CutOff x.1 x.2.1:=by intro x;kernel_rfl
theorem D7j:B0 Tryz.prog 198 D7h:=sm MO A3J (tc Tryz.call120 R4 (tc Tryz.call255 D3w (tc Tryz.call256 D1w A5))) Tryz.func198 (by kernel_rfl) (by decide) (D7i E4 A2T A1b)
def D21:Nat→Option Jn:=B3 [(1018,⟨[.t 7 false [.int .i64],.b 1000 [.own 73728,.own 73729,.int .i64,.int .i64,.ro 109 kUp,.nil,.own 1006,.own 1007,.own 28,.own 32,.own 1010],.r 28 113 (.pair (.int .i64) (.pair L5 (.rs 5 (.int .u8)))),.r 32 130 A9,.r 1006 79 (.pair .str (.pair (.rs 5 (.int .u8)) F0)),.r 1007 4 .bool,.r 1010 3 (.int .i64),.r 73728 9 .str,.r 73729 9 .str],lt 35 29 [.r 233473,.x 54,.x 57,.x 63],false⟩)]
abbrev B7I:List PK:= [.ptr (.pair (.pair (.pair (.pair (.rs 9 .str) (.rs 9 .str)) (.pair (.int .i64) (.pair (.int .i64) (.rs 109 (.pair .str (.pair (.int .i64) (.pair (.rs 5 (.int .u8)) .bool))))))) (.sl 130 A9)) (.pair (.sl 79 (.pair .str (.pair (.rs 5 (.int .u8)) F0))) (.pair (.sl 4 .bool) (.pair (.sl 113 (.pair (.int .i64) (.pair L5 (.rs 5 (.int .u8))))) (.pair (.sl 130 A9) (.sl 3 (.int .i64))))))),.val false (.rs 4 .bool) false]
abbrev B7J:List RK:= [.val false .bool]
def B7K(f:A4q):Nat×Fn:=(199,⟨B7I,B7J,fun x=>f x.1 x.2.1⟩)
def D22:Fn:=(B7K A1e).2
theorem D23(f_s_CutOff:A3T)(f_s_OpenStore_r99_0:Z2)(f_s_FallDisk:A8A):∀ x,(B8 C43 [C13 f_s_CutOff,A7n f_s_OpenStore_r99_0,C3F f_s_FallDisk] D21 64 [.tmp 4] (Tryz.f199.body.getD .skip) B7I B7J).fn x=A9J f_s_CutOff f_s_OpenStore_r99_0 f_s_FallDisk x.1 x.2.1:=by intro x;kernel_rfl
theorem D24:B0 Tryz.prog 199 D22:=sm MO A3J (tc Tryz.call256 D1w (tc Tryz.call257 B8B (tc Tryz.call258 D7f A5))) Tryz.func199 (by kernel_rfl) (by decide) (D23 A1b E8 A0S)
abbrev C6r:List PK:= [.ptr (.pair (.pair (.pair (.pair (.rs 9 .str) (.rs 9 .str)) (.pair (.int .i64) (.pair (.int .i64) (.rs 109 (.pair .str (.pair (.int .i64) (.pair (.rs 5 (.int .u8)) .bool))))))) (.sl 130 A9)) (.pair (.sl 79 (.pair .str (.pair (.rs 5 (.int .u8)) F0))) (.pair (.sl 4 .bool) (.pair (.sl 113 (.pair (.int .i64) (.pair L5 (.rs 5 (.int .u8))))) (.pair (.sl 130 A9) (.sl 3 (.int .i64))))))),.val true (.pair (.int .i64) (.pair (.int .i64) (.rs 4 .bool))) false]
abbrev C6s:List RK:= [.val false .bool]
def C6t(f:A72):Nat×Fn:=(111,⟨C6r,C6s,fun x=>f x.1 x.2.1⟩)
def E1W:Fn:=(C6t T8).2
theorem E1X(f_s_l18Send_W:A6W)(f_s_l18Serve_W:A4o)(f_s_l18Sync:B0M)(f_s_l18Tell_W:A6X)(f_s_l18Cut_W:A8C)(f_s_l18Crash_W:A4q):∀ x,(B8 C43 [B9p f_s_l18Send_W,B7H f_s_l18Serve_W,B9s f_s_l18Sync,B9v f_s_l18Tell_W,C3M f_s_l18Cut_W,B7K f_s_l18Crash_W] (B3 []) 41 [.tmp 4] (Tryz.f111.body.getD .skip) C6r C6s).fn x=B67 f_s_l18Send_W f_s_l18Serve_W f_s_l18Sync f_s_l18Tell_W f_s_l18Cut_W f_s_l18Crash_W x.1 x.2.1:=by intro x;kernel_rfl
theorem E1Y:B0 Tryz.prog 111 E1W:=sm MO A3J (tc Tryz.call194 D40 (tc Tryz.call195 D20 (tc Tryz.call196 D43 (tc Tryz.call197 D47 (tc Tryz.call198 D7j (tc Tryz.call199 D24 A5)))))) Tryz.func111 (by kernel_rfl) (by decide) (E1X A2U A1c A6z A2V A4p A1e)
abbrev C6u:List PK:= [.val true (.pair (.int .i64) (.pair (.int .i64) (.rs 4 .bool))) false]
abbrev C6v:List RK:= [.val true E9]
def C6w(f:A73):Nat×Fn:=(59,⟨C6u,C6v,fun x=>f x.1⟩)
def E1Z:Fn:=(C6w A74).2
theorem E1a(f_w_toBoolS:A3k):∀ x,(B8 cfg [B6u f_w_toBoolS] (B3 []) 15 [.cell 2 77] (Tryz.f59.body.getD .skip) C6u C6v).fn x=B68 f_w_toBoolS x.1:=by intro x;kernel_rfl
theorem E1b:B0 Tryz.prog 59 E1Z:=sm MO A7 (tc Tryz.call123 C5u A5) Tryz.func59 (by kernel_rfl) (by decide) (E1a A1Q)
def D7k:Nat→Option Jn:=B3 [(58,⟨[.t 3 false [.own 7],.t 4 false [.int .i64],.r 7 77 E9],lt 8 14 [.r 86018,.x 21],false⟩)]
abbrev C3N:List PK:= [.val false (.rs 93 E9) false]
abbrev C3O:List RK:= [.val false (.sl 77 E9)]
def C3P(f:A8D):Nat×Fn:=(64,⟨C3N,C3O,fun x=>f x.1⟩)
def D7l:Fn:=(C3P A4r).2
theorem D7m(f_w_toEvent:A73):∀ x,(B8 cfg [C6w f_w_toEvent] D7k 23 [.tmp 2] (Tryz.f64.body.getD .skip) C3N C3O).fn x=B3s f_w_toEvent x.1:=by intro x;kernel_rfl
theorem D7n:B0 Tryz.prog 64 D7l:=sm MO A7 (tc Tryz.call59 E1b A5) Tryz.func64 (by kernel_rfl) (by decide) (D7m A74)
abbrev C6x:List PK:= [.val true (.pair (.int .i64) (.pair (.int .i64) (.rs 4 .bool))) false,.val true (.pair (.int .i64) (.pair (.int .i64) (.rs 4 .bool))) false]
abbrev C6y:List RK:= [.val false .bool]
def C6z(f:A75):Nat×Fn:=(60,⟨C6x,C6y,fun x=>f x.1 x.2.1⟩)
def E1c:Fn:=(C6z A76).2
theorem E1d(f_w_eqBoolS:A3m):∀ x,(B8 cfg [B6x f_w_eqBoolS] (B3 []) 21 [.tmp 4] (Tryz.f60.body.getD .skip) C6x C6y).fn x=B69 f_w_eqBoolS x.1 x.2.1:=by intro x;kernel_rfl
theorem E1e:B0 Tryz.prog 60 E1c:=sm MO A7 (tc Tryz.call127 C6B A5) Tryz.func60 (by kernel_rfl) (by decide) (E1d A1S)
def D7o:Nat→Option Jn:=B3 [(58,⟨[.t 5 false [.int .i64]],lt 11 16 [],false⟩)]
abbrev C3Q:List PK:= [.val false (.rs 77 E9) false,.val false (.rs 77 E9) false]
abbrev C3R:List RK:= [.val false .bool]
def C3S(f:A8E):Nat×Fn:=(65,⟨C3Q,C3R,fun x=>f x.1 x.2.1⟩)
def D7p:Fn:=(C3S A4s).2
theorem D7q(f_w_eqEvent:A75):∀ x,(B8 cfg [C6z f_w_eqEvent] D7o 27 [.tmp 4] (Tryz.f65.body.getD .skip) C3Q C3R).fn x=B3t f_w_eqEvent x.1 x.2.1:=by intro x;kernel_rfl
theorem D7r:B0 Tryz.prog 65 D7p:=sm MO A7 (tc Tryz.call60 E1e A5) Tryz.func65 (by kernel_rfl) (by decide) (D7q A76)
def D25:Nat→Option Jn:=B3 [(26,⟨[.t 0 false [.own 1000],.t 1 false [.int .i64],.t 5 false [.int .i64],.r 1000 77 E9],lt 6 27 [.x 15,.x 22,.x 28],false⟩)]
abbrev B7L:List PK:= [.val false (.sl 77 E9) true,.val false (.int .i64) false]
abbrev B7M:List RK:= [.val false (.int .i64)]
def B7N(f:A4t):Nat×Fn:=(66,⟨B7L,B7M,fun x=>f x.1 x.2.1⟩)
def D26:Fn:=(B7N A4u).2
theorem D27(f_w_markBoolS:Y4):∀ x,(B8 cfg [B1d f_w_markBoolS] D25 34 [.tmp 4] (Tryz.f66.body.getD .skip) B7L B7M).fn x=B6A f_w_markBoolS x.1 x.2.1:=by intro x;kernel_rfl
theorem D28:B0 Tryz.prog 66 D26:=sm MO A7 (tc Tryz.call131 B9J A5) Tryz.func66 (by kernel_rfl) (by decide) (D27 Q5)
def D29:Nat→Option Jn:=B3 [(122,⟨[.t 7 false [.int .i64],.b 5 [.ro 9 .str,.ro 9 .str,.int .i64,.int .i64,.ro 109 (.pair .str (.pair (.int .i64) (.pair (.rs 5 (.int .u8)) .bool))),.own 100000000,.own 100000001,.own 100000002,.own 100000003,.own 100000004,.own 100000005],.r 100000000 130 A9,.r 100000001 79 (.pair .str (.pair (.rs 5 (.int .u8)) F0)),.r 100000002 4 .bool,.r 100000003 113 (.pair (.int .i64) (.pair L5 (.rs 5 (.int .u8)))),.r 100000004 130 A9,.r 100000005 3 (.int .i64)],lt 12 18 [.r 40960,.r 40961,.r 40964,.r 40965,.r 40966,.r 40967,.r 40968,.r 40969,.r 40970,.r 124933,.r 124934,.r 124935,.r 124936,.r 124937,.r 124938,.t 9],false⟩),(244,⟨[],lt 12 11 [],false⟩)]
abbrev B7O:List PK:= [.val true (.pair (.pair (.pair (.pair (.rs 9 .str) (.rs 9 .str)) (.pair (.int .i64) (.pair (.int .i64) (.rs 109 kUp)))) (.rs 130 A9)) (.pair (.rs 79 B2) (.pair (.rs 4 .bool) (.pair (.rs 113 B9) (.pair (.rs 130 A9) (.rs 3 (.int .i64))))))) false,.val false (.rs 77 E9) false]
abbrev B7P:List RK:= [.val true (.pair (.pair (.pair (.pair (.rs 9 .str) (.rs 9 .str)) (.pair (.int .i64) (.pair (.int .i64) (.rs 109 kUp)))) (.sl 130 A9)) (.pair (.sl 79 (.pair .str (.pair (.rs 5 (.int .u8)) F0))) (.pair (.sl 4 .bool) (.pair (.sl 113 (.pair (.int .i64) (.pair L5 (.rs 5 (.int .u8))))) (.pair (.sl 130 A9) (.sl 3 (.int .i64)))))))]
def B7Q(f:A4v):Nat×Fn:=(63,⟨B7O,B7P,fun x=>f x.1 x.2.1⟩)
def D2A:Fn:=(B7Q A1f).2
theorem D2B(f_s_WorldOk:B0G)(f_s_l18Copy:B0K)(f_s_l18Do_W:A72):∀ x,(B8 cfg [C6Y f_s_WorldOk,A44 f_s_l18Copy,C6t f_s_l18Do_W] D29 31 [.cell 4 38] (Tryz.f63.body.getD .skip) B7O B7P).fn x=A9M f_s_WorldOk f_s_l18Copy f_s_l18Do_W x.1 x.2.1:=by intro x;kernel_rfl
theorem D2C:B0 Tryz.prog 63 D2A:=sm MO A7 (tc Tryz.call70 E1B (tc Tryz.call109 B2s (tc Tryz.call111 E1Y A5))) Tryz.func63 (by kernel_rfl) (by decide) (D2B A0A A6x T8)
def C7q:Nat→Option Jn:=B3 [(131071,⟨[],lt 56 8 [],false⟩)]
abbrev A3M:List PK:= [.val true (.pair (.pair (.pair (.pair (.rs 9 .str) (.rs 9 .str)) (.pair (.int .i64) (.pair (.int .i64) (.rs 248 kUp)))) (.rs 203 A9)) (.pair (.rs 218 B2) (.pair (.rs 4 .bool) (.pair (.rs 221 B9) (.pair (.rs 203 A9) (.rs 3 (.int .i64))))))) false,.val false (.rs 93 E9) false]
abbrev B4w:List RK:= [.val false .bool]
def C7r(f:B4L):Nat×Fn:=(14,⟨A3M,B4w,fun x=>f x.1 x.2.1⟩)
def F_w_FnExactPlay:Fn:=(C7r A7a).2
theorem C7s(f_i_Play:C1O)(f_w_szWorld:A9z)(f_w_toWorld:B02)(f_w_eqWorld:B05)(f_w_markWorld:A6L)(f_w_heldWorld:A6S)(f_w_szEventS:A85)(f_s_Play_r99_0:A4v)(f_w_toEventS:A8D)(f_w_eqEventS:A8E)(f_w_markEventS:A4t):∀ x,(B8 cfg [D9n f_i_Play,C5j f_w_szWorld,C60 f_w_toWorld,C6H f_w_eqWorld,B9P f_w_markWorld,B9g f_w_heldWorld,C2t f_w_szEventS,B7Q f_s_Play_r99_0,C3P f_w_toEventS,C3S f_w_eqEventS,B7N f_w_markEventS] C7q 92 [.tmp 4] (Tryz.f14.body.getD .skip) A3M B4w).fn x=A7Z f_i_Play f_w_szWorld f_w_toWorld f_w_eqWorld f_w_markWorld f_w_heldWorld f_w_szEventS f_s_Play_r99_0 f_w_toEventS f_w_eqEventS f_w_markEventS x.1 x.2.1:=by intro x;kernel_rfl
theorem C7t:B0 Tryz.prog 14 F_w_FnExactPlay:=sm MO A7 (tc Tryz.call45 E9K (tc Tryz.call51 E06 (tc Tryz.call53 E0S (tc Tryz.call54 E0o (tc Tryz.call55 D3V (tc Tryz.call56 D3p (tc Tryz.call62 D7K (tc Tryz.call63 D2C (tc Tryz.call64 D7n (tc Tryz.call65 D7r (tc Tryz.call66 D28 A5))))))))))) Tryz.func14 (by kernel_rfl) (by decide) (C7s B5V A6o A6r A6u A2O A2Q A4c A1f A4r A4s A4u)
end
end Go.Proofs.YtpdcljonclhhpaaGreat.Ev
