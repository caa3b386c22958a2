/- Each function of the program does what its plain function says. -/
import Derived.Test.YtpdcljonclhhpaaGreatG2
set_option linter.unusedVariables false
set_option maxRecDepth 100000
namespace Go.Proofs.YtpdcljonclhhpaaGreat.Ev
noncomputable section
def B1O:Nat→Option Jn:=B3 [(15,⟨[.t 5 false [.own 11],.t 6 false [.int .i64],.r 11 109 (.pair .str (.pair (.int .i64) (.pair (.rs 5 (.int .u8)) .bool)))],lt 15 23 [.x 21,.x 33,.x 35],true⟩),(60,⟨[.t 5 false [.own 11],.t 6 false [.int .i64],.r 11 109 (.pair .str (.pair (.int .i64) (.pair (.rs 5 (.int .u8)) .bool)))],lt 15 23 [.x 21,.x 33,.x 35],false⟩),(120,⟨[],lt 15 13 [.x 21],false⟩)]
abbrev A3U:List PK:= [.val false (.rs 109 kUp) false,.val true (.pair .str (.pair (.int .i64) (.pair (.rs 5 (.int .u8)) .bool))) false]
abbrev A3V:List RK:= [.val false (.sl 109 (.pair .str (.pair (.int .i64) (.pair (.rs 5 (.int .u8)) .bool))))]
def A3W(f:R0):Nat×Fn:=(305,⟨A3U,A3V,fun x=>f x.1 x.2.1⟩)
def B1P:Fn:=(A3W M9).2
theorem B1Q(f_s_l14CopyUps:L6):∀ x,(B9 C8E [U3 f_s_l14CopyUps] B1O 43 [.tmp 4] (Tryz.f305.body.getD .skip) A3U A3V).fn x=Y3 f_s_l14CopyUps x.1 x.2.1:=by intro x;kernel_rfl
theorem B1R:B1 Tryz.prog 305 B1P:=sm MO A5t (tc Tryz.call230 A1V A5) Tryz.func305 (by kernel_rfl) (by decide) (B1Q K2)
def C34:Nat→Option Jn:=B3 [(4074,⟨[],lt 43 27 [],false⟩)]
abbrev B1S:List PK:= [.val false (.rs 109 kUp) false,.val true (.pair (.int .i64) (.pair (.int .i64) (.pair (.int .i64) (.pair .str (.pair (.int .i64) (.rs 5 (.int .u8))))))) false]
abbrev B1T:List RK:= [.val false (.rs 109 (.pair .str (.pair (.int .i64) (.pair (.rs 5 (.int .u8)) .bool)))),.val false .bool]
def A5H(f:P8):Nat×Fn:=(281,⟨B1S,B1T,fun x=>f x.1 x.2.1⟩)
def C35:Fn:=(A5H N0).2
theorem C36(f_s_l14At:Q9)(f_s_l14CopyUps:L6)(f_s_l14Make_r98_0_r99_0:R0):∀ x,(B9 cfg [A5G f_s_l14At,A8X f_s_l14CopyUps,A3W f_s_l14Make_r98_0_r99_0] C34 114 [.tmp 4,.tmp 5] (Tryz.f281.body.getD .skip) B1S B1T).fn x=A53 f_s_l14At f_s_l14CopyUps f_s_l14Make_r98_0_r99_0 x.1 x.2.1:=by intro x;kernel_rfl
theorem B1U:B1 Tryz.prog 281 C35:=sm MO A7 (tc Tryz.call206 A7T (tc Tryz.call230 B5w (tc Tryz.call305 B1R A5))) Tryz.func281 (by kernel_rfl) (by decide) (C36 O5 K2 M9)
def C9k:Nat→Option Jn:=B3 [(58,⟨[.t 5 false [.int .i64]],lt 11 58 [],false⟩)]
abbrev B5x:List PK:= [.val false (.rs 109 kUp) false,.val false (.rs 109 kUp) false]
abbrev B5y:List RK:= [.val false .bool]
def B5z(f:A40):Nat×Fn:=(234,⟨B5x,B5y,fun x=>f x.1 x.2.1⟩)
def C9l:Fn:=(B5z A1I).2
theorem C9m:∀ x,(B9 cfg [] C9k 69 [.tmp 4] (Tryz.f234.body.getD .skip) B5x B5y).fn x=A7y x.1 x.2.1:=by intro x;kernel_rfl
theorem C9n:B1 Tryz.prog 234 C9l:=sm MO A7 A5 Tryz.func234 (by kernel_rfl) (by decide) (C9m)
def B9q:Nat→Option Jn:=B3 [(7,⟨[.t 4 false [.ro 109 (.pair .str (.pair (.int .i64) (.pair (.rs 5 (.int .u8)) .bool)))]],lt 5 21 [.r 8,.t 27],false⟩),(58,⟨[.t 4 false [.ro 109 (.pair .str (.pair (.int .i64) (.pair (.rs 5 (.int .u8)) .bool)))],.t 5 false [.int .i64]],lt 6 20 [.r 8,.t 27],false⟩)]
abbrev A8b:List PK:= [.val false (.rs 194 A6z) false]
abbrev A8c:List RK:= [.val false (.rs 109 kUp),.val false .bool]
def A8d(f:A0B):Nat×Fn:=(233,⟨A8b,A8c,fun x=>f x.1⟩)
def B9r:Fn:=(A8d T8).2
theorem B9s(f_s_l14One_r99_0:P8):∀ x,(B9 cfg [A5H f_s_l14One_r99_0] B9q 29 [.tmp 2,.tmp 3] (Tryz.f233.body.getD .skip) A8b A8c).fn x=A38 f_s_l14One_r99_0 x.1:=by intro x;kernel_rfl
theorem B9t:B1 Tryz.prog 233 B9r:=sm MO A7 (tc Tryz.call281 B1U A5) Tryz.func233 (by kernel_rfl) (by decide) (B9s N0)
def D87:Nat→Option Jn:=B3 [(3,⟨[],lt 9 10 [],false⟩),(31,⟨[],lt 27 33 [],false⟩),(506,⟨[.t 6 false [.int .i64]],lt 62 26 [.b 7,.r 319493,.t 7,.t 8],false⟩)]
abbrev C4P:List PK:= [.val true (.pair (.pair (.rs 9 .str) (.rs 9 .str)) (.pair (.int .i64) (.pair (.int .i64) (.rs 109 kUp)))) false]
abbrev C4Q:List RK:= [.val false .bool]
def A3X(f:O8):Nat×Fn:=(159,⟨C4P,C4Q,fun x=>f x.1⟩)
def D88:Fn:=(A3X F8).2
theorem D89(f_s_l1In:E5)(f_s_DiskOk:B2R)(f_s_ScanRecs:A77)(f_s_FoldRecs_r99_0:A0B)(f_s_l14SameUps:A40)(f_s_GetRec:A1H):∀ x,(B9 cfg [P7 f_s_l1In,C9U f_s_DiskOk,C1H f_s_ScanRecs,A8d f_s_FoldRecs_r99_0,B5z f_s_l14SameUps,B9p f_s_GetRec] D87 88 [.tmp 2] (Tryz.f159.body.getD .skip) C4P C4Q).fn x=A92 f_s_l1In f_s_DiskOk f_s_ScanRecs f_s_FoldRecs_r99_0 f_s_l14SameUps f_s_GetRec x.1:=by intro x;kernel_rfl
theorem A6T:B1 Tryz.prog 159 D88:=sm MO A7 (tc Tryz.call120 Q8 (tc Tryz.call231 E1c (tc Tryz.call232 D5K (tc Tryz.call233 B9t (tc Tryz.call234 C9n (tc Tryz.call235 C9g A5)))))) Tryz.func159 (by kernel_rfl) (by decide) (D89 E2 A1G A1n T8 A1I O0)
def D5L:Nat→Option Jn:=B3 [(3,⟨[],lt 3 16 [],false⟩),(26,⟨[.t 3 false [.int .i64]],lt 4 15 [],false⟩)]
abbrev C1I:List PK:= [.val true (.pair (.pair (.pair (.rs 9 .str) (.rs 9 .str)) (.pair (.int .i64) (.pair (.int .i64) (.rs 109 kUp)))) (.rs 130 A9)) false]
abbrev C1J:List RK:= [.val false .bool]
def C1K(f:A78):Nat×Fn:=(90,⟨C1I,C1J,fun x=>f x.1⟩)
def D5M:Fn:=(C1K A41).2
theorem D5N(f_s_RespOk:A1F)(f_s_StoreOk:O8):∀ x,(B9 cfg [B9n f_s_RespOk,A3X f_s_StoreOk] D5L 28 [.tmp 2] (Tryz.f90.body.getD .skip) C1I C1J).fn x=B2V f_s_RespOk f_s_StoreOk x.1:=by intro x;kernel_rfl
theorem D5O:B1 Tryz.prog 90 D5M:=sm MO A7 (tc Tryz.call158 C9R (tc Tryz.call159 A6T A5)) Tryz.func90 (by kernel_rfl) (by decide) (D5N T7 F8)
abbrev C4R:List PK:= [.val false (.int .i64) false]
abbrev C4S:List RK:= [.val false (.int .i64)]
def C4T(f:A93):Nat×Fn:=(161,⟨C4R,C4S,fun x=>f x.1⟩)
def D8A:Fn:=(C4T A94).2
theorem D8B:∀ x,(B9 cfg [] (B3 []) 9 [.tmp 2] (Tryz.f161.body.getD .skip) C4R C4S).fn x=B4i x.1:=by intro x;kernel_rfl
theorem D8C:B1 Tryz.prog 161 D8A:=sm MO A7 A5 Tryz.func161 (by kernel_rfl) (by decide) (D8B)
def E4u:Nat→Option Jn:=B3 [(3,⟨[],lt 4 10 [],false⟩)]
abbrev D3a:List PK:= [.val true M7 false]
abbrev D3b:List RK:= [.val false .bool]
def D3c(f:B0z):Nat×Fn:=(91,⟨D3a,D3b,fun x=>f x.1⟩)
def E4v:Fn:=(D3c A55).2
theorem E4w(f_s_l1In:E5)(f_s_l11Id:O4)(f_s_l11Most:A93):∀ x,(B9 cfg [P7 f_s_l1In,A3T f_s_l11Id,C4T f_s_l11Most] E4u 26 [.tmp 2] (Tryz.f91.body.getD .skip) D3a D3b).fn x=C2L f_s_l1In f_s_l11Id f_s_l11Most x.1:=by intro x;kernel_rfl
theorem E4x:B1 Tryz.prog 91 E4v:=sm MO A7 (tc Tryz.call120 Q8 (tc Tryz.call160 A5F (tc Tryz.call161 D8C A5))) Tryz.func91 (by kernel_rfl) (by decide) (E4w E2 M8 A94)
abbrev C1L:List PK:= [.val true (.pair .str (.pair (.rs 5 (.int .u8)) E8)) false]
abbrev C1M:List RK:= [.val false .bool]
def B3G(f:A0C):Nat×Fn:=(215,⟨C1L,C1M,fun x=>f x.1⟩)
def D5P:Fn:=(B3G I8).2
theorem D5Q(f_s_l1In:E5)(f_s_l11Id:O4):∀ x,(B9 cfg [P7 f_s_l1In,A3T f_s_l11Id] (B3 []) 25 [.tmp 2] (Tryz.f215.body.getD .skip) C1L C1M).fn x=B2W f_s_l1In f_s_l11Id x.1:=by intro x;kernel_rfl
theorem C1N:B1 Tryz.prog 215 D5P:=sm MO A7 (tc Tryz.call120 Q8 (tc Tryz.call160 A5F A5)) Tryz.func215 (by kernel_rfl) (by decide) (D5Q E2 M8)
def C9o:Nat→Option Jn:=B3 [(7,⟨[],lt 9 30 [.t 4,.t 5],false⟩),(58,⟨[.t 4 false [.int .i64]],lt 9 30 [.t 5],false⟩),(7462,⟨[.t 5 false [.int .i64]],lt 21 18 [],false⟩)]
abbrev B60:List PK:= [.val true (.pair (.pair (.pair (.pair (.rs 9 .str) (.rs 9 .str)) (.pair (.int .i64) (.pair (.int .i64) (.rs 109 kUp)))) (.rs 130 A9)) (.pair (.rs 79 B2) (.pair (.rs 4 .bool) (.pair (.rs 113 B8) (.pair (.rs 130 A9) (.rs 3 (.int .i64))))))) false]
abbrev B61:List RK:= [.val false .bool]
def B62(f:A42):Nat×Fn:=(141,⟨B60,B61,fun x=>f x.1⟩)
def C9p:Fn:=(B62 T9).2
theorem C9q(f_s_ClientOk:A0C):∀ x,(B9 cfg [B3G f_s_ClientOk] C9o 55 [.tmp 2] (Tryz.f141.body.getD .skip) B60 B61).fn x=A43 f_s_ClientOk x.1:=by intro x;kernel_rfl
theorem C9r:B1 Tryz.prog 141 C9p:=sm MO A7 (tc Tryz.call215 C1N A5) Tryz.func141 (by kernel_rfl) (by decide) (C9q I8)
def E1q:Nat→Option Jn:=B3 [(26,⟨[.t 5 false [.int .i64]],lt 6 26 [],false⟩)]
abbrev C9s:List PK:= [.val true (.pair (.pair (.pair (.pair (.rs 9 .str) (.rs 9 .str)) (.pair (.int .i64) (.pair (.int .i64) (.rs 109 kUp)))) (.rs 130 A9)) (.pair (.rs 79 B2) (.pair (.rs 4 .bool) (.pair (.rs 113 B8) (.pair (.rs 130 A9) (.rs 3 (.int .i64))))))) false,.val false (.rs 130 A9) false]
abbrev C9t:List RK:= [.val false .bool]
def C9u(f:B2Y):Nat×Fn:=(142,⟨C9s,C9t,fun x=>f x.1 x.2.1⟩)
def E1r:Fn:=(C9u A7z).2
theorem E1s(f_s_l1In:E5)(f_s_RespOk:A1F):∀ x,(B9 cfg [P7 f_s_l1In,B9n f_s_RespOk] E1q 32 [.tmp 4] (Tryz.f142.body.getD .skip) C9s C9t).fn x=B9I f_s_l1In f_s_RespOk x.1 x.2.1:=by intro x;kernel_rfl
theorem E1t:B1 Tryz.prog 142 E1r:=sm MO A7 (tc Tryz.call120 Q8 (tc Tryz.call158 C9R A5)) Tryz.func142 (by kernel_rfl) (by decide) (E1s E2 T7)
def D8D:Nat→Option Jn:=B3 [(3,⟨[],lt 4 36 [],false⟩),(58,⟨[.t 3 false [.int .i64]],lt 40 29 [],false⟩)]
abbrev C4U:List PK:= [.val true (.pair (.pair (.pair (.pair (.rs 9 .str) (.rs 9 .str)) (.pair (.int .i64) (.pair (.int .i64) (.rs 109 kUp)))) (.rs 130 A9)) (.pair (.rs 79 B2) (.pair (.rs 4 .bool) (.pair (.rs 113 B8) (.pair (.rs 130 A9) (.rs 3 (.int .i64))))))) false]
abbrev C4V:List RK:= [.val false .bool]
def C4W(f:A95):Nat×Fn:=(70,⟨C4U,C4V,fun x=>f x.1⟩)
def D8E:Fn:=(C4W Z3).2
theorem D8F(f_s_ServerOk:A78)(f_s_ReqOk:B0z)(f_s_l1In:E5)(f_s_l18Clients:A42)(f_s_l18Who:B2Y):∀ x,(B9 cfg [C1K f_s_ServerOk,D3c f_s_ReqOk,P7 f_s_l1In,B62 f_s_l18Clients,C9u f_s_l18Who] D8D 69 [.tmp 2] (Tryz.f70.body.getD .skip) C4U C4V).fn x=A96 f_s_ServerOk f_s_ReqOk f_s_l1In f_s_l18Clients f_s_l18Who x.1:=by intro x;kernel_rfl
theorem D8G:B1 Tryz.prog 70 D8E:=sm MO A7 (tc Tryz.call90 D5O (tc Tryz.call91 E4x (tc Tryz.call120 Q8 (tc Tryz.call141 C9r (tc Tryz.call142 E1t A5))))) Tryz.func70 (by kernel_rfl) (by decide) (D8F A41 A55 E2 T9 A7z)
abbrev C4X:List PK:= [.val true (.pair (.rs 9 .str) (.rs 9 .str)) false]
abbrev C4Y:List RK:= [.val true A10]
def B63(f:A67):Nat×Fn:=(229,⟨C4X,C4Y,fun x=>f x.1⟩)
def D8H:Fn:=(B63 A3L).2
theorem D8I:∀ x,(B9 cfg [] (B3 []) 12 [.cell 2 26] (Tryz.f229.body.getD .skip) C4X C4Y).fn x=B4j x.1:=by intro x;kernel_rfl
theorem C4Z:B1 Tryz.prog 229 D8H:=sm MO A7 A5 Tryz.func229 (by kernel_rfl) (by decide) (D8I)
abbrev C4a:List PK:= [.val true (.pair (.pair (.rs 9 .str) (.rs 9 .str)) (.pair (.int .i64) (.pair (.int .i64) (.rs 109 kUp)))) false]
abbrev C4b:List RK:= [.val true A3j]
def A6U(f:N1):Nat×Fn:=(157,⟨C4a,C4b,fun x=>f x.1⟩)
def D8J:Fn:=(A6U L1).2
theorem D8K(f_s_l12Copy:A67)(f_s_l14CopyUps:L6):∀ x,(B9 cfg [B63 f_s_l12Copy,A8X f_s_l14CopyUps] (B3 []) 14 [.cell 2 29] (Tryz.f157.body.getD .skip) C4a C4b).fn x=A97 f_s_l12Copy f_s_l14CopyUps x.1:=by intro x;kernel_rfl
theorem A9j:B1 Tryz.prog 157 D8J:=sm MO A7 (tc Tryz.call229 C4Z (tc Tryz.call230 B5w A5)) Tryz.func157 (by kernel_rfl) (by decide) (D8K A3L K2)
abbrev C4c:List PK:= [.val true (.pair .str (.pair (.rs 5 (.int .u8)) E8)) false]
abbrev C4d:List RK:= [.val true B2]
def C4e(f:A69):Nat×Fn:=(193,⟨C4c,C4d,fun x=>f x.1⟩)
def D8L:Fn:=(C4e A1J).2
theorem D8M:∀ x,(B9 cfg [] (B3 []) 9 [.cell 2 79] (Tryz.f193.body.getD .skip) C4c C4d).fn x=B4l x.1:=by intro x;kernel_rfl
theorem D8N:B1 Tryz.prog 193 D8L:=sm MO A7 A5 Tryz.func193 (by kernel_rfl) (by decide) (D8M)
def D8O:Nat→Option Jn:=B3 [(128503,⟨[.t 7 false [.int .i64]],lt 40 8 [],true⟩)]
abbrev C4f:List PK:= [.val true (.pair .str (.pair (.rs 5 (.int .u8)) E8)) false]
abbrev C4g:List RK:= [.val true M7,.val false (.sl 5 (.int .u8)),.val false .bool]
def C4h(f:A9A):Nat×Fn:=(251,⟨C4f,C4g,fun x=>f x.1⟩)
def D8P:Fn:=(C4h A6B).2
theorem D8Q(f_s_Crc:A90)(f_s_ClientOk:A0C):∀ x,(B9 cfg [C6i f_s_Crc,B3G f_s_ClientOk] D8O 65 [.cell 2 43,.tmp 3,.tmp 4] (Tryz.f251.body.getD .skip) C4f C4g).fn x=B4n f_s_Crc f_s_ClientOk x.1:=by intro x;kernel_rfl
theorem D8R:B1 Tryz.prog 251 D8P:=sm MO A7 (tc Tryz.call152 D5G (tc Tryz.call215 C1N A5)) Tryz.func251 (by kernel_rfl) (by decide) (D8Q A76 I8)
abbrev C4i:List PK:= [.val true (.pair (.pair (.rs 9 .str) (.rs 9 .str)) (.pair (.int .i64) (.pair (.int .i64) (.rs 109 kUp)))) false]
abbrev C4j:List RK:= [.val false (.int .i64)]
def A6V(f:S6):Nat×Fn:=(236,⟨C4i,C4j,fun x=>f x.1⟩)
def D8S:Fn:=(A6V Q7).2
theorem D8T:∀ x,(B9 cfg [] (B3 []) 10 [.tmp 2] (Tryz.f236.body.getD .skip) C4i C4j).fn x=B4o x.1:=by intro x;kernel_rfl
theorem A9k:B1 Tryz.prog 236 D8S:=sm MO A7 A5 Tryz.func236 (by kernel_rfl) (by decide) (D8T)
abbrev A9l:List PK:= [.ptr (.pair A10 (.pair (.int .i64) (.pair (.int .i64) (.rs 109 kUp)))),.val true (.pair (.int .i64) (.pair (.int .i64) (.pair (.int .i64) (.pair .str (.pair (.int .i64) (.rs 5 (.int .u8))))))) false]
abbrev A9m:List RK:= []
def W7(f:G4):Nat×Fn:=(237,⟨A9l,A9m,fun x=>f x.1 x.2.1⟩)
def C1O:Fn:=(W7 F3).2
theorem C1P(f_s_l14One_r99_0:P8)(f_s_l13Put:A52):∀ x,(B9 cfg [A5H f_s_l14One_r99_0,B9o f_s_l13Put] (B3 []) 46 [] (Tryz.f237.body.getD .skip) A9l A9m).fn x=A44 f_s_l14One_r99_0 f_s_l13Put x.1 x.2.1:=by intro x;kernel_rfl
theorem A0n:B1 Tryz.prog 237 C1O:=sm MO A7 (tc Tryz.call281 B1U (tc Tryz.call284 C9d A5)) Tryz.func237 (by kernel_rfl) (by decide) (C1P N0 A37)
abbrev D8U:List PK:= [.val true (.pair (.pair (.rs 9 .str) (.rs 9 .str)) (.pair (.int .i64) (.pair (.int .i64) (.rs 109 kUp)))) false,.val false .str false]
abbrev D8V:List RK:= [.val true kUp,.val false .bool]
def C9v(f:B10):Nat×Fn:=(113,⟨D8U,D8V,fun x=>f x.1 x.2.1⟩)
def E7C:Fn:=(C9v A80).2
theorem E7D(f_s_l14At:Q9):∀ x,(B9 cfg [A5G f_s_l14At] (B3 []) 26 [.cell 4 109,.tmp 5] (Tryz.f113.body.getD .skip) D8U D8V).fn x=C7T f_s_l14At x.1 x.2.1:=by intro x;kernel_rfl
theorem D8W:B1 Tryz.prog 113 E7C:=sm MO A7 (tc Tryz.call206 A7T A5) Tryz.func113 (by kernel_rfl) (by decide) (E7D O5)
abbrev C1Q:List PK:= [.val true (.pair (.pair (.rs 9 .str) (.rs 9 .str)) (.pair (.int .i64) (.pair (.int .i64) (.rs 109 kUp)))) false,.val true M7 false]
abbrev C1R:List RK:= [.val true E8]
def C1S(f:A79):Nat×Fn:=(166,⟨C1Q,C1R,fun x=>f x.1 x.2.1⟩)
def D5R:Fn:=(C1S A45).2
theorem D5S(f_s_UpAt:B10):∀ x,(B9 cfg [C9v f_s_UpAt] (B3 []) 35 [.cell 4 126] (Tryz.f166.body.getD .skip) C1Q C1R).fn x=B2Z f_s_UpAt x.1 x.2.1:=by intro x;kernel_rfl
theorem D5T:B1 Tryz.prog 166 D5R:=sm MO A7 (tc Tryz.call113 D8W A5) Tryz.func166 (by kernel_rfl) (by decide) (D5S A80)
def E1u:Nat→Option Jn:=B3 [(235,⟨[.t 19 false [.bool]],[.t 20,.t 21],true⟩)]
abbrev C9w:List PK:= [.val true (.pair (.pair (.rs 9 .str) (.rs 9 .str)) (.pair (.int .i64) (.pair (.int .i64) (.rs 109 kUp)))) false,.val false .str false,.val false (.int .i64) false]
abbrev C9x:List RK:= [.val true E8]
def C9y(f:B2a):Nat×Fn:=(167,⟨C9w,C9x,fun x=>f x.1 x.2.1 x.2.2.1⟩)
def E1v:Fn:=(C9y A81).2
theorem E1w(f_s_UpAt:B10):∀ x,(B9 cfg [C9v f_s_UpAt] E1u 33 [.cell 6 126] (Tryz.f167.body.getD .skip) C9w C9x).fn x=B9J f_s_UpAt x.1 x.2.1 x.2.2.1:=by intro x;kernel_rfl
theorem E1x:B1 Tryz.prog 167 E1v:=sm MO A7 (tc Tryz.call113 D8W A5) Tryz.func167 (by kernel_rfl) (by decide) (E1w A80)
def C37:Nat→Option Jn:=B3 [(7,⟨[],lt 33 10 (lt 26 6 (lt 11 14 [])),false⟩),(28,⟨[.t 11 false [.bool]],lt 12 13 [],true⟩)]
abbrev B1V:List PK:= [.val true (.pair (.pair (.rs 9 .str) (.rs 9 .str)) (.pair (.int .i64) (.pair (.int .i64) (.rs 109 kUp)))) false,.val false .str false,.val false (.int .i64) false]
abbrev B1W:List RK:= [.val true (.pair A10 (.pair (.int .i64) (.pair (.int .i64) (.rs 109 kUp)))),.val false (.int .i64)]
def B1X(f:A1p):Nat×Fn:=(162,⟨B1V,B1W,fun x=>f x.1 x.2.1 x.2.2.1⟩)
def C38:Fn:=(B1X Y5).2
theorem C39(f_s_l1In:E5)(f_s_l14Copy:N1)(f_s_StoreOk:O8)(f_s_l11Id:O4)(f_s_l14At:Q9)(f_s_l14Left:S6)(f_s_l14Write_r0_4:G4):∀ x,(B9 cfg [P7 f_s_l1In,A6U f_s_l14Copy,A3X f_s_StoreOk,A3T f_s_l11Id,A5G f_s_l14At,A6V f_s_l14Left,W7 f_s_l14Write_r0_4] C37 49 [.cell 6 29,.tmp 7] (Tryz.f162.body.getD .skip) B1V B1W).fn x=A56 f_s_l1In f_s_l14Copy f_s_StoreOk f_s_l11Id f_s_l14At f_s_l14Left f_s_l14Write_r0_4 x.1 x.2.1 x.2.2.1:=by intro x;kernel_rfl
theorem C3A:B1 Tryz.prog 162 C38:=sm MO A7 (tc Tryz.call120 Q8 (tc Tryz.call157 A9j (tc Tryz.call159 A6T (tc Tryz.call160 A5F (tc Tryz.call206 A7T (tc Tryz.call236 A9k (tc Tryz.call237 A0n A5))))))) Tryz.func162 (by kernel_rfl) (by decide) (C39 E2 L1 F8 M8 O5 Q7 F3)
def C64:Nat→Option Jn:=B3 [(7,⟨[],lt 17 14 [],false⟩),(127,⟨[],lt 64 9 (lt 44 19 []),false⟩),(255,⟨[.b 10 [.own 100003000,.own 100003001,.int .i64,.int .i64,.ro 109 kUp],.r 100003000 9 .str,.r 100003001 9 .str],lt 74 26 [.r 92,.r 97,.r 69632,.r 69633,.r 69636,.r 411648,.r 411649,.t 13,.t 14,.t 16],true⟩),(508,⟨[.t 44 false [.bool]],lt 45 18 [],true⟩),(2042,⟨[.t 13 false [.int .i64],.b 10 [.own 100003000,.own 100003001,.int .i64,.int .i64,.ro 109 kUp],.r 100003000 9 .str,.r 100003001 9 .str],lt 74 26 [.r 92,.r 97,.r 69632,.r 69633,.r 69636,.r 411648,.r 411649,.t 14,.t 16],false⟩),(65353,⟨[.t 14 false [.int .i64]],lt 82 6 [],true⟩)]
abbrev B3m:List PK:= [.val true (.pair (.pair (.rs 9 .str) (.rs 9 .str)) (.pair (.int .i64) (.pair (.int .i64) (.rs 109 kUp)))) false,.val false .str false,.val false (.int .i64) false,.val false (.rs 5 (.int .u8)) false]
abbrev B3n:List RK:= [.val true (.pair A10 (.pair (.int .i64) (.pair (.int .i64) (.rs 109 kUp)))),.val false (.int .i64)]
def B3o(f:A2m):Nat×Fn:=(163,⟨B3m,B3n,fun x=>f x.1 x.2.1 x.2.2.1 x.2.2.2.1⟩)
def C65:Fn:=(B3o A0J).2
theorem C66(f_s_l1In:E5)(f_s_l14Copy:N1)(f_s_StoreOk:O8)(f_s_l11Id:O4)(f_s_l14At:Q9)(f_s_l14Left:S6)(f_s_l14Write_r0_4:G4):∀ x,(B9 cfg [P7 f_s_l1In,A6U f_s_l14Copy,A3X f_s_StoreOk,A3T f_s_l11Id,A5G f_s_l14At,A6V f_s_l14Left,W7 f_s_l14Write_r0_4] C64 101 [.cell 8 29,.tmp 9] (Tryz.f163.body.getD .skip) B3m B3n).fn x=A6g f_s_l1In f_s_l14Copy f_s_StoreOk f_s_l11Id f_s_l14At f_s_l14Left f_s_l14Write_r0_4 x.1 x.2.1 x.2.2.1 x.2.2.2.1:=by intro x;kernel_rfl
theorem C67:B1 Tryz.prog 163 C65:=sm MO A7 (tc Tryz.call120 Q8 (tc Tryz.call157 A9j (tc Tryz.call159 A6T (tc Tryz.call160 A5F (tc Tryz.call206 A7T (tc Tryz.call236 A9k (tc Tryz.call237 A0n A5))))))) Tryz.func163 (by kernel_rfl) (by decide) (C66 E2 L1 F8 M8 O5 Q7 F3)
def C3B:Nat→Option Jn:=B3 [(7,⟨[],lt 13 8 [],false⟩)]
abbrev B1Y:List PK:= [.val true (.pair (.pair (.rs 9 .str) (.rs 9 .str)) (.pair (.int .i64) (.pair (.int .i64) (.rs 109 kUp)))) false,.val false .str false,.val false (.int .i64) false]
abbrev B1Z:List RK:= [.val true (.pair A10 (.pair (.int .i64) (.pair (.int .i64) (.rs 109 kUp)))),.val false (.int .i64)]
def B1a(f:A1q):Nat×Fn:=(164,⟨B1Y,B1Z,fun x=>f x.1 x.2.1 x.2.2.1⟩)
def C3C:Fn:=(B1a Y6).2
theorem C3D(f_s_Crc:A90)(f_s_l14Copy:N1)(f_s_StoreOk:O8)(f_s_l11Id:O4)(f_s_l14At:Q9)(f_s_l14Left:S6)(f_s_l14Write_r0_4:G4):∀ x,(B9 cfg [C6i f_s_Crc,A6U f_s_l14Copy,A3X f_s_StoreOk,A3T f_s_l11Id,A5G f_s_l14At,A6V f_s_l14Left,W7 f_s_l14Write_r0_4] C3B 62 [.cell 6 29,.tmp 7] (Tryz.f164.body.getD .skip) B1Y B1Z).fn x=A57 f_s_Crc f_s_l14Copy f_s_StoreOk f_s_l11Id f_s_l14At f_s_l14Left f_s_l14Write_r0_4 x.1 x.2.1 x.2.2.1:=by intro x;kernel_rfl
theorem C3E:B1 Tryz.prog 164 C3C:=sm MO A7 (tc Tryz.call152 D5G (tc Tryz.call157 A9j (tc Tryz.call159 A6T (tc Tryz.call160 A5F (tc Tryz.call206 A7T (tc Tryz.call236 A9k (tc Tryz.call237 A0n A5))))))) Tryz.func164 (by kernel_rfl) (by decide) (C3D A76 L1 F8 M8 O5 Q7 F3)
def C3F:Nat→Option Jn:=B3 [(7,⟨[],lt 26 4 (lt 19 6 (lt 9 9 [])),false⟩),(28,⟨[.t 9 false [.bool]],lt 10 8 [],true⟩)]
abbrev B1b:List PK:= [.val true (.pair (.pair (.rs 9 .str) (.rs 9 .str)) (.pair (.int .i64) (.pair (.int .i64) (.rs 109 kUp)))) false,.val false .str false]
abbrev B1c:List RK:= [.val true (.pair A10 (.pair (.int .i64) (.pair (.int .i64) (.rs 109 kUp)))),.val false (.int .i64)]
def B1d(f:A1r):Nat×Fn:=(165,⟨B1b,B1c,fun x=>f x.1 x.2.1⟩)
def C3G:Fn:=(B1d Y7).2
theorem C3H(f_s_l14Copy:N1)(f_s_StoreOk:O8)(f_s_l11Id:O4)(f_s_l14At:Q9)(f_s_l14Left:S6)(f_s_l14Write_r0_4:G4):∀ x,(B9 cfg [A6U f_s_l14Copy,A3X f_s_StoreOk,A3T f_s_l11Id,A5G f_s_l14At,A6V f_s_l14Left,W7 f_s_l14Write_r0_4] C3F 35 [.cell 4 29,.tmp 5] (Tryz.f165.body.getD .skip) B1b B1c).fn x=A58 f_s_l14Copy f_s_StoreOk f_s_l11Id f_s_l14At f_s_l14Left f_s_l14Write_r0_4 x.1 x.2.1:=by intro x;kernel_rfl
theorem C3I:B1 Tryz.prog 165 C3G:=sm MO A7 (tc Tryz.call157 A9j (tc Tryz.call159 A6T (tc Tryz.call160 A5F (tc Tryz.call206 A7T (tc Tryz.call236 A9k (tc Tryz.call237 A0n A5)))))) Tryz.func165 (by kernel_rfl) (by decide) (C3H L1 F8 M8 O5 Q7 F3)
abbrev B7o:List PK:= [.val true (.pair (.rs 9 .str) (.rs 9 .str)) false]
abbrev B7p:List RK:= [.val true A10]
def B7q(f:A5X):Nat×Fn:=(252,⟨B7o,B7p,fun x=>f x.1⟩)
def D1Q:Fn:=(B7q A23).2
theorem D1R:∀ x,(B9 cfg [] (B3 []) 12 [.cell 2 26] (Tryz.f252.body.getD .skip) B7o B7p).fn x=B0A x.1:=by intro x;kernel_rfl
theorem D1S:B1 Tryz.prog 252 D1Q:=sm MO A7 A5 Tryz.func252 (by kernel_rfl) (by decide) (D1R)
abbrev C4k:List PK:= [.val true (.pair .str (.pair (.rs 5 (.int .u8)) E8)) false]
abbrev C4l:List RK:= [.val false .bool]
def C4m(f:A9C):Nat×Fn:=(253,⟨C4k,C4l,fun x=>f x.1⟩)
def D8X:Fn:=(C4m A6C).2
theorem D8Y:∀ x,(B9 cfg [] (B3 []) 11 [.tmp 2] (Tryz.f253.body.getD .skip) C4k C4l).fn x=B4q x.1:=by intro x;kernel_rfl
theorem D8Z:B1 Tryz.prog 253 D8X:=sm MO A7 A5 Tryz.func253 (by kernel_rfl) (by decide) (D8Y)
abbrev C4n:List PK:= [.val false (.int .i64) false,.val false (.int .i64) false]
abbrev C4o:List RK:= [.val false (.int .i64)]
def C4p(f:A9D):Nat×Fn:=(292,⟨C4n,C4o,fun x=>f x.1 x.2.1⟩)
def D8a:Fn:=(C4p A6D).2
theorem D8b:∀ x,(B9 cfg [] (B3 []) 35 [.tmp 4] (Tryz.f292.body.getD .skip) C4n C4o).fn x=B4r x.1 x.2.1:=by intro x;kernel_rfl
theorem D8c:B1 Tryz.prog 292 D8a:=sm MO A7 A5 Tryz.func292 (by kernel_rfl) (by decide) (D8b)
abbrev B1e:List PK:= [.val true (.pair .str (.pair (.rs 5 (.int .u8)) E8)) false,.val false (.int .i64) false]
abbrev B1f:List RK:= [.val true (.pair .str (.pair (.rs 5 (.int .u8)) E8))]
def B1g(f:B2b):Nat×Fn:=(293,⟨B1e,B1f,fun x=>f x.1 x.2.1⟩)
def C3J:Fn:=(B1g A82).2
theorem C3K(f_s_l1In:E5):∀ x,(B9 cfg [P7 f_s_l1In] (B3 []) 26 [.cell 4 79] (Tryz.f293.body.getD .skip) B1e B1f).fn x=B9K f_s_l1In x.1 x.2.1:=by intro x;kernel_rfl
theorem C3L:B1 Tryz.prog 293 C3J:=sm MO A7 (tc Tryz.call120 Q8 A5) Tryz.func293 (by kernel_rfl) (by decide) (C3K E2)
abbrev A9n:List PK:= [.val true (.pair .str (.pair (.rs 5 (.int .u8)) E8)) false,.val true E8 false]
abbrev A9o:List RK:= [.val true (.pair .str (.pair (.rs 5 (.int .u8)) E8))]
def A9p(f:A9E):Nat×Fn:=(254,⟨A9n,A9o,fun x=>f x.1 x.2.1⟩)
def C1T:Fn:=(A9p A6E).2
theorem C1U(f_s_l17Next:A9D)(f_s_l17Far:B2b):∀ x,(B9 cfg [C4p f_s_l17Next,B1g f_s_l17Far] (B3 []) 20 [.cell 4 79] (Tryz.f254.body.getD .skip) A9n A9o).fn x=B4s f_s_l17Next f_s_l17Far x.1 x.2.1:=by intro x;kernel_rfl
theorem C1V:B1 Tryz.prog 254 C1T:=sm MO A7 (tc Tryz.call292 D8c (tc Tryz.call293 C3L A5)) Tryz.func254 (by kernel_rfl) (by decide) (C1U A6D A82)
def C1W:Nat→Option Jn:=B3 [(31,⟨[.t 9 false [.int .i64],.b 8 [.int .i64,.int .i64],.b 10 [.own 100000000,.own 100000001,.int .i64,.int .i64,.ro 109 kUp],.r 100000000 9 .str,.r 100000001 9 .str],lt 19 51 [.r 114688,.r 114689,.r 167936,.r 167937,.r 237568,.r 237569,.r 274432,.r 274433,.t 13,.t 14],false⟩)]
abbrev A9q:List PK:= [.val true (.pair (.pair (.rs 9 .str) (.rs 9 .str)) (.pair (.int .i64) (.pair (.int .i64) (.rs 109 kUp)))) false,.val true M7 false,.val false (.rs 5 (.int .u8)) false]
abbrev A9r:List RK:= [.val true (.pair (.pair (.rs 9 .str) (.rs 9 .str)) (.pair (.int .i64) (.pair (.int .i64) (.rs 109 kUp)))),.val true E8]
def A9s(f:A0h):Nat×Fn:=(92,⟨A9q,A9r,fun x=>f x.1 x.2.1 x.2.2.1⟩)
def C1X:Fn:=(A9s W4).2
theorem C1Y(f_s_MakeUp_r99_0:A1p)(f_s_PutUp_r99_0:A2m)(f_s_DoneUp_r99_0:A1q)(f_s_DropUp_r99_0:A1r)(f_s_l15Looks:A79)(f_s_l15Bad:B2a):∀ x,(B9 cfg [B1X f_s_MakeUp_r99_0,B3o f_s_PutUp_r99_0,B1a f_s_DoneUp_r99_0,B1d f_s_DropUp_r99_0,C1S f_s_l15Looks,C9y f_s_l15Bad] C1W 80 [.cell 6 29,.cell 7 126] (Tryz.f92.body.getD .skip) A9q A9r).fn x=A46 f_s_MakeUp_r99_0 f_s_PutUp_r99_0 f_s_DoneUp_r99_0 f_s_DropUp_r99_0 f_s_l15Looks f_s_l15Bad x.1 x.2.1 x.2.2.1:=by intro x;kernel_rfl
theorem C1Z:B1 Tryz.prog 92 C1X:=sm MO A7 (tc Tryz.call162 C3A (tc Tryz.call163 C67 (tc Tryz.call164 C3E (tc Tryz.call165 C3I (tc Tryz.call166 D5T (tc Tryz.call167 E1x A5)))))) Tryz.func92 (by kernel_rfl) (by decide) (C1Y Y5 A0J Y6 Y7 A45 A81)
def C9z:Nat→Option Jn:=B3 [(3,⟨[],lt 8 18 [],false⟩)]
abbrev B64:List PK:= [.ptr (.pair (.pair (.pair (.pair (.rs 9 .str) (.rs 9 .str)) (.pair (.int .i64) (.pair (.int .i64) (.rs 109 (.pair .str (.pair (.int .i64) (.pair (.rs 5 (.int .u8)) .bool))))))) (.sl 130 A9)) (.pair (.sl 79 (.pair .str (.pair (.rs 5 (.int .u8)) E8))) (.pair (.sl 4 .bool) (.pair (.sl 113 (.pair (.int .i64) (.pair M7 (.rs 5 (.int .u8))))) (.pair (.sl 130 A9) (.sl 3 (.int .i64))))))),.val false (.int .i64) false]
abbrev B65:List RK:= [.val false .bool]
def B66(f:A1K):Nat×Fn:=(195,⟨B64,B65,fun x=>f x.1 x.2.1⟩)
def D00:Fn:=(B66 O1).2
theorem D01(f_s_l15Does_r99_0:A0h)(f_s_l1In:E5):∀ x,(B9 C8E [A9s f_s_l15Does_r99_0,P7 f_s_l1In] C9z 85 [.tmp 4] (Tryz.f195.body.getD .skip) B64 B65).fn x=A83 f_s_l15Does_r99_0 f_s_l1In x.1 x.2.1:=by intro x;kernel_rfl
theorem D02:B1 Tryz.prog 195 D00:=sm MO A5t (tc Tryz.call92 C1Z (tc Tryz.call120 Q8 A5)) Tryz.func195 (by kernel_rfl) (by decide) (D01 W4 E2)
abbrev A3Y:List PK:= [.val true (.pair (.pair (.rs 9 .str) (.rs 9 .str)) (.pair (.int .i64) (.pair (.int .i64) (.rs 109 kUp)))) false]
abbrev A3Z:List RK:= [.val true (.pair A10 (.pair (.int .i64) (.pair (.int .i64) (.sl 109 (.pair .str (.pair (.int .i64) (.pair (.rs 5 (.int .u8)) .bool)))))))]
def A3a(f:N1):Nat×Fn:=(157,⟨A3Y,A3Z,fun x=>f x.1⟩)
def B1h:Fn:=(A3a L1).2
theorem B1i(f_s_l12Copy:A67)(f_s_l14CopyUps:L6):∀ x,(B9 C8E [B63 f_s_l12Copy,U3 f_s_l14CopyUps] (B3 []) 14 [.cell 2 29] (Tryz.f157.body.getD .skip) A3Y A3Z).fn x=A97 f_s_l12Copy f_s_l14CopyUps x.1:=by intro x;kernel_rfl
theorem B1j:B1 Tryz.prog 157 B1h:=sm MO A5t (tc Tryz.call229 C4Z (tc Tryz.call230 A1V A5)) Tryz.func157 (by kernel_rfl) (by decide) (B1i A3L K2)
abbrev A3b:List PK:= [.val true (.pair (.pair (.pair (.rs 9 .str) (.rs 9 .str)) (.pair (.int .i64) (.pair (.int .i64) (.rs 109 kUp)))) (.rs 130 A9)) false]
abbrev A3c:List RK:= [.val true (.pair (.pair A10 (.pair (.int .i64) (.pair (.int .i64) (.sl 109 (.pair .str (.pair (.int .i64) (.pair (.rs 5 (.int .u8)) .bool))))))) (.sl 130 A9))]
def A3d(f:A98):Nat×Fn:=(89,⟨A3b,A3c,fun x=>f x.1⟩)
def B1k:Fn:=(A3d A68).2
theorem B1l(f_s_l14Copy:N1):∀ x,(B9 C8E [A3a f_s_l14Copy] (B3 []) 11 [.cell 2 32] (Tryz.f89.body.getD .skip) A3b A3c).fn x=B4k f_s_l14Copy x.1:=by intro x;kernel_rfl
theorem B1m:B1 Tryz.prog 89 B1k:=sm MO A5t (tc Tryz.call157 B1j A5) Tryz.func89 (by kernel_rfl) (by decide) (B1l L1)
def B1n:Nat→Option Jn:=B3 [(7,⟨[.b 3 [.own 40960,.own 40961,.int .i64,.int .i64,.own 40964,.own 40965,.own 100000000,.own 13,.nil,.own 17,.own 21],.r 13 4 .bool,.r 17 130 A9,.r 21 3 (.int .i64),.r 40960 9 .str,.r 40961 9 .str,.r 40964 109 (.pair .str (.pair (.int .i64) (.pair (.rs 5 (.int .u8)) .bool))),.r 40965 130 A9,.r 100000000 79 (.pair .str (.pair (.rs 5 (.int .u8)) E8))],lt 23 18 [.r 38,.r 39,.r 155649,.t 4],true⟩),(58,⟨[.t 4 false [.int .i64],.b 3 [.own 40960,.own 40961,.int .i64,.int .i64,.own 40964,.own 40965,.own 100000000,.own 13,.nil,.own 17,.own 21],.r 13 4 .bool,.r 17 130 A9,.r 21 3 (.int .i64),.r 40960 9 .str,.r 40961 9 .str,.r 40964 109 (.pair .str (.pair (.int .i64) (.pair (.rs 5 (.int .u8)) .bool))),.r 40965 130 A9,.r 100000000 79 (.pair .str (.pair (.rs 5 (.int .u8)) E8))],lt 23 18 [.r 38,.r 39,.r 155649],false⟩),(122,⟨[.t 5 false [.int .i64],.b 3 [.own 40960,.own 40961,.int .i64,.int .i64,.own 40964,.own 40965,.own 100000000,.own 13,.own 100002001,.own 17,.own 21],.r 13 4 .bool,.r 17 130 A9,.r 21 3 (.int .i64),.r 40960 9 .str,.r 40961 9 .str,.r 40964 109 (.pair .str (.pair (.int .i64) (.pair (.rs 5 (.int .u8)) .bool))),.r 40965 130 A9,.r 100000000 79 (.pair .str (.pair (.rs 5 (.int .u8)) E8)),.r 100002001 113 (.pair (.int .i64) (.pair M7 (.rs 5 (.int .u8))))],lt 41 23 [.b 6,.r 53,.r 56,.r 61,.r 62,.t 6],false⟩)]
abbrev A3e:List PK:= [.val true (.pair (.pair (.pair (.pair (.rs 9 .str) (.rs 9 .str)) (.pair (.int .i64) (.pair (.int .i64) (.rs 109 kUp)))) (.rs 130 A9)) (.pair (.rs 79 B2) (.pair (.rs 4 .bool) (.pair (.rs 113 B8) (.pair (.rs 130 A9) (.rs 3 (.int .i64))))))) false]
abbrev A3f:List RK:= [.val true (.pair (.pair (.pair A10 (.pair (.int .i64) (.pair (.int .i64) (.sl 109 (.pair .str (.pair (.int .i64) (.pair (.rs 5 (.int .u8)) .bool))))))) (.sl 130 A9)) (.pair (.sl 79 (.pair .str (.pair (.rs 5 (.int .u8)) E8))) (.pair (.sl 4 .bool) (.pair (.sl 113 (.pair (.int .i64) (.pair M7 (.rs 5 (.int .u8))))) (.pair (.sl 130 A9) (.sl 3 (.int .i64)))))))]
def A3g(f:A99):Nat×Fn:=(109,⟨A3e,A3f,fun x=>f x.1⟩)
def B1o:Fn:=(A3g A6A).2
theorem B1p(f_s_l15Copy:A98)(f_s_l17Copy:A69):∀ x,(B9 C8E [A3d f_s_l15Copy,C4e f_s_l17Copy] B1n 65 [.cell 2 38] (Tryz.f109.body.getD .skip) A3e A3f).fn x=B4m f_s_l15Copy f_s_l17Copy x.1:=by intro x;kernel_rfl
theorem B1q:B1 Tryz.prog 109 B1o:=sm MO A5t (tc Tryz.call89 B1m (tc Tryz.call193 D8N A5)) Tryz.func109 (by kernel_rfl) (by decide) (B1p A68 A1J)
abbrev B7r:List PK:= [.ptr (.pair (.pair (.pair (.pair (.rs 9 .str) (.rs 9 .str)) (.pair (.int .i64) (.pair (.int .i64) (.rs 109 (.pair .str (.pair (.int .i64) (.pair (.rs 5 (.int .u8)) .bool))))))) (.sl 130 A9)) (.pair (.sl 79 (.pair .str (.pair (.rs 5 (.int .u8)) E8))) (.pair (.sl 4 .bool) (.pair (.sl 113 (.pair (.int .i64) (.pair M7 (.rs 5 (.int .u8))))) (.pair (.sl 130 A9) (.sl 3 (.int .i64)))))))]
abbrev B7s:List RK:= [.val false .bool]
def B7t(f:A9B):Nat×Fn:=(196,⟨B7r,B7s,fun x=>f x.1⟩)
def D1T:Fn:=(B7t A3M).2
theorem D1U(f_s_FlushDisk:A5X):∀ x,(B9 C8E [B7q f_s_FlushDisk] (B3 []) 46 [.tmp 2] (Tryz.f196.body.getD .skip) B7r B7s).fn x=B4p f_s_FlushDisk x.1:=by intro x;kernel_rfl
theorem D1V:B1 Tryz.prog 196 D1T:=sm MO A5t (tc Tryz.call252 D1S A5) Tryz.func196 (by kernel_rfl) (by decide) (D1U A23)
def D1W:Nat→Option Jn:=B3 [(501,⟨[.b 1000 [.ro 9 .str,.ro 9 .str,.int .i64,.int .i64,.ro 109 (.pair .str (.pair (.int .i64) (.pair (.rs 5 (.int .u8)) .bool))),.own 1005,.own 1006,.own 1007,.own 1008,.own 38,.own 1010],.r 38 130 A9,.r 1005 130 A9,.r 1006 79 (.pair .str (.pair (.rs 5 (.int .u8)) E8)),.r 1007 4 .bool,.r 1008 113 (.pair (.int .i64) (.pair M7 (.rs 5 (.int .u8)))),.r 1010 3 (.int .i64)],lt 56 28 [.x 62,.x 78,.x 83],true⟩)]
abbrev B7u:List PK:= [.ptr (.pair (.pair (.pair (.pair (.rs 9 .str) (.rs 9 .str)) (.pair (.int .i64) (.pair (.int .i64) (.rs 109 (.pair .str (.pair (.int .i64) (.pair (.rs 5 (.int .u8)) .bool))))))) (.sl 130 A9)) (.pair (.sl 79 (.pair .str (.pair (.rs 5 (.int .u8)) E8))) (.pair (.sl 4 .bool) (.pair (.sl 113 (.pair (.int .i64) (.pair M7 (.rs 5 (.int .u8))))) (.pair (.sl 130 A9) (.sl 3 (.int .i64))))))),.val false (.int .i64) false]
abbrev B7v:List RK:= [.val false .bool]
def B7w(f:A24):Nat×Fn:=(197,⟨B7u,B7v,fun x=>f x.1 x.2.1⟩)
def D1X:Fn:=(B7w S7).2
theorem D1Y(f_s_l1In:E5)(f_s_l17Over:A9C)(f_s_l17Hear:A9E):∀ x,(B9 C8E [P7 f_s_l1In,C4m f_s_l17Over,A9p f_s_l17Hear] D1W 106 [.tmp 4] (Tryz.f197.body.getD .skip) B7u B7v).fn x=B0B f_s_l1In f_s_l17Over f_s_l17Hear x.1 x.2.1:=by intro x;kernel_rfl
theorem D1Z:B1 Tryz.prog 197 D1X:=sm MO A5t (tc Tryz.call120 Q8 (tc Tryz.call253 D8Z (tc Tryz.call254 C1V A5))) Tryz.func197 (by kernel_rfl) (by decide) (D1Y E2 A6C A6E)
def D1a:Nat→Option Jn:=B3 [(3,⟨[],lt 8 26 [.x 23],false⟩)]
abbrev B7x:List PK:= [.ptr (.pair (.pair (.pair (.pair (.rs 9 .str) (.rs 9 .str)) (.pair (.int .i64) (.pair (.int .i64) (.rs 109 (.pair .str (.pair (.int .i64) (.pair (.rs 5 (.int .u8)) .bool))))))) (.sl 130 A9)) (.pair (.sl 79 (.pair .str (.pair (.rs 5 (.int .u8)) E8))) (.pair (.sl 4 .bool) (.pair (.sl 113 (.pair (.int .i64) (.pair M7 (.rs 5 (.int .u8))))) (.pair (.sl 130 A9) (.sl 3 (.int .i64))))))),.val false (.int .i64) false]
abbrev B7y:List RK:= [.val false .bool]
def B7z(f:A25):Nat×Fn:=(194,⟨B7x,B7y,fun x=>f x.1 x.2.1⟩)
def D1b:Fn:=(B7z Q2).2
theorem D1c(f_s_l1In:E5)(f_s_NextReq:A9A):∀ x,(B9 C8E [P7 f_s_l1In,C4h f_s_NextReq] D1a 67 [.tmp 4] (Tryz.f194.body.getD .skip) B7x B7y).fn x=B0C f_s_l1In f_s_NextReq x.1 x.2.1:=by intro x;kernel_rfl
theorem D1d:B1 Tryz.prog 194 D1b:=sm MO A5t (tc Tryz.call120 Q8 (tc Tryz.call251 D8R A5)) Tryz.func194 (by kernel_rfl) (by decide) (D1c E2 A6B)
def D1e:Nat→Option Jn:=B3 [(1,⟨[.b 1000 [.ro 9 .str,.ro 9 .str,.int .i64,.int .i64,.ro 109 (.pair .str (.pair (.int .i64) (.pair (.rs 5 (.int .u8)) .bool))),.own 100000000,.own 100000001,.own 100000002,.own 100000003,.own 100000004,.own 100000005],.r 100000000 130 A9,.r 100000001 79 (.pair .str (.pair (.rs 5 (.int .u8)) E8)),.r 100000002 4 .bool,.r 100000003 113 (.pair (.int .i64) (.pair M7 (.rs 5 (.int .u8)))),.r 100000004 130 A9,.r 100000005 3 (.int .i64)],lt 4 3 [.r 1005,.r 1006,.r 1007,.r 1008,.r 1009,.r 1010,.r 30725,.r 30726,.r 30727,.r 30728,.r 30729,.r 30730,.t 2],true⟩),(7,⟨[.b 1000 [.ro 9 .str,.ro 9 .str,.int .i64,.int .i64,.ro 109 (.pair .str (.pair (.int .i64) (.pair (.rs 5 (.int .u8)) .bool))),.own 100002006,.own 100002007,.own 100002008,.own 100002009,.own 100002010,.own 100002011],.r 100002006 130 A9,.r 100002007 79 (.pair .str (.pair (.rs 5 (.int .u8)) E8)),.r 100002008 4 .bool,.r 100002009 113 (.pair (.int .i64) (.pair M7 (.rs 5 (.int .u8)))),.r 100002010 130 A9,.r 100002011 3 (.int .i64)],lt 9 8 [.r 38917,.r 38918,.r 38919,.r 38920,.r 38921,.r 38922,.r 71685,.r 71686,.r 71687,.r 71688,.r 71689,.r 71690],true⟩),(10,⟨[.t 2 false [.bool],.b 1000 [.ro 9 .str,.ro 9 .str,.int .i64,.int .i64,.ro 109 (.pair .str (.pair (.int .i64) (.pair (.rs 5 (.int .u8)) .bool))),.own 100000000,.own 100000001,.own 100000002,.own 100000003,.own 100000004,.own 100000005],.r 100000000 130 A9,.r 100000001 79 (.pair .str (.pair (.rs 5 (.int .u8)) E8)),.r 100000002 4 .bool,.r 100000003 113 (.pair (.int .i64) (.pair M7 (.rs 5 (.int .u8)))),.r 100000004 130 A9,.r 100000005 3 (.int .i64)],lt 4 3 [.r 1005,.r 1006,.r 1007,.r 1008,.r 1009,.r 1010,.r 30725,.r 30726,.r 30727,.r 30728,.r 30729,.r 30730],false⟩),(28,⟨[.b 1000 [.ro 9 .str,.ro 9 .str,.int .i64,.int .i64,.ro 109 (.pair .str (.pair (.int .i64) (.pair (.rs 5 (.int .u8)) .bool))),.own 100002006,.own 100002007,.own 100002008,.own 100002009,.own 100002010,.own 100002011],.r 100002006 130 A9,.r 100002007 79 (.pair .str (.pair (.rs 5 (.int .u8)) E8)),.r 100002008 4 .bool,.r 100002009 113 (.pair (.int .i64) (.pair M7 (.rs 5 (.int .u8)))),.r 100002010 130 A9,.r 100002011 3 (.int .i64)],lt 9 8 [.r 38917,.r 38918,.r 38919,.r 38920,.r 38921,.r 38922,.r 71685,.r 71686,.r 71687,.r 71688,.r 71689,.r 71690],false⟩),(62,⟨[.t 3 false [.int .i64],.b 1000 [.ro 9 .str,.ro 9 .str,.int .i64,.int .i64,.ro 109 (.pair .str (.pair (.int .i64) (.pair (.rs 5 (.int .u8)) .bool))),.own 100004012,.own 100004013,.own 100004014,.own 100004015,.own 100004016,.own 100004017],.r 100004012 130 A9,.r 100004013 79 (.pair .str (.pair (.rs 5 (.int .u8)) E8)),.r 100004014 4 .bool,.r 100004015 113 (.pair (.int .i64) (.pair M7 (.rs 5 (.int .u8)))),.r 100004016 130 A9,.r 100004017 3 (.int .i64)],lt 17 12 [.r 120837,.r 120838,.r 120839,.r 120840,.r 120841,.r 120842,.r 100002006,.r 100002007,.r 100002008,.r 100002009,.r 100002010,.r 100002011],false⟩)]
abbrev B80:List PK:= [.ptr (.pair (.pair (.pair (.pair (.rs 9 .str) (.rs 9 .str)) (.pair (.int .i64) (.pair (.int .i64) (.rs 109 (.pair .str (.pair (.int .i64) (.pair (.rs 5 (.int .u8)) .bool))))))) (.sl 130 A9)) (.pair (.sl 79 (.pair .str (.pair (.rs 5 (.int .u8)) E8))) (.pair (.sl 4 .bool) (.pair (.sl 113 (.pair (.int .i64) (.pair M7 (.rs 5 (.int .u8))))) (.pair (.sl 130 A9) (.sl 3 (.int .i64)))))))]
abbrev B81:List RK:= []
def B82(f:A26):Nat×Fn:=(121,⟨B80,B81,fun x=>f x.1⟩)
def D1f:Fn:=(B82 N4).2
theorem D1g(f_s_l18Send_W:A25)(f_s_l18Serve_W:A1K)(f_s_l18Sync:A9B)(f_s_l18Tell_W:A24):∀ x,(B9 C8E [B7z f_s_l18Send_W,B66 f_s_l18Serve_W,B7t f_s_l18Sync,B7w f_s_l18Tell_W] D1e 29 [] (Tryz.f121.body.getD .skip) B80 B81).fn x=B0D f_s_l18Send_W f_s_l18Serve_W f_s_l18Sync f_s_l18Tell_W x.1:=by intro x;kernel_rfl
theorem D1h:B1 Tryz.prog 121 D1f:=sm MO A5t (tc Tryz.call194 D1d (tc Tryz.call195 D02 (tc Tryz.call196 D1V (tc Tryz.call197 D1Z A5)))) Tryz.func121 (by kernel_rfl) (by decide) (D1g Q2 O1 A3M S7)
def D1i:Nat→Option Jn:=B3 [(58,⟨[.t 3 false [.own 7],.t 4 false [.int .i64],.r 7 9 .str],lt 8 13 [.x 20],false⟩)]
abbrev B83:List PK:= [.val false (.rs 9 .str) false]
abbrev B84:List RK:= [.val false (.sl 9 .str)]
def B85(f:A5Y):Nat×Fn:=(242,⟨B83,B84,fun x=>f x.1⟩)
def D1j:Fn:=(B85 A27).2
theorem D1k:∀ x,(B9 cfg [] D1i 22 [.tmp 2] (Tryz.f242.body.getD .skip) B83 B84).fn x=B0E x.1:=by intro x;kernel_rfl
theorem D1l:B1 Tryz.prog 242 D1j:=sm MO A7 A5 Tryz.func242 (by kernel_rfl) (by decide) (D1k)
abbrev D03:List PK:= [.val true (.pair (.rs 9 .str) (.rs 9 .str)) false]
abbrev D04:List RK:= [.val true A10]
def D05(f:B2c):Nat×Fn:=(177,⟨D03,D04,fun x=>f x.1⟩)
def E1y:Fn:=(D05 A84).2
theorem E1z(f_w_toStringS:A5Y):∀ x,(B9 cfg [B85 f_w_toStringS] (B3 []) 13 [.cell 2 26] (Tryz.f177.body.getD .skip) D03 D04).fn x=B9L f_w_toStringS x.1:=by intro x;kernel_rfl
theorem E20:B1 Tryz.prog 177 E1y:=sm MO A7 (tc Tryz.call242 D1l A5) Tryz.func177 (by kernel_rfl) (by decide) (E1z A27)
def D8d:Nat→Option Jn:=B3 [(58,⟨[.t 3 false [.own 7],.t 4 false [.int .i64],.r 7 5 (.int .u8)],lt 8 13 [.x 20],false⟩)]
abbrev C4q:List PK:= [.val false (.rs 5 (.int .u8)) false]
abbrev C4r:List RK:= [.val false (.sl 5 (.int .u8))]
def A9t(f:Z4):Nat×Fn:=(34,⟨C4q,C4r,fun x=>f x.1⟩)
def D8e:Fn:=(A9t S8).2
theorem D8f:∀ x,(B9 cfg [] D8d 22 [.tmp 2] (Tryz.f34.body.getD .skip) C4q C4r).fn x=B4t x.1:=by intro x;kernel_rfl
theorem B67:B1 Tryz.prog 34 D8e:=sm MO A7 A5 Tryz.func34 (by kernel_rfl) (by decide) (D8f)
abbrev D8g:List PK:= [.val true (.pair .str (.pair (.int .i64) (.pair (.rs 5 (.int .u8)) .bool))) false]
abbrev D8h:List RK:= [.val true kUp]
def D8i(f:B4u):Nat×Fn:=(243,⟨D8g,D8h,fun x=>f x.1⟩)
def E7E:Fn:=(D8i B4v).2
theorem E7F(f_w_toByteS:Z4):∀ x,(B9 cfg [A9t f_w_toByteS] (B3 []) 18 [.cell 2 109] (Tryz.f243.body.getD .skip) D8g D8h).fn x=C7U f_w_toByteS x.1:=by intro x;kernel_rfl
theorem E7G:B1 Tryz.prog 243 E7E:=sm MO A7 (tc Tryz.call34 B67 A5) Tryz.func243 (by kernel_rfl) (by decide) (E7F S8)
def E4y:Nat→Option Jn:=B3 [(58,⟨[.t 3 false [.own 7],.t 4 false [.int .i64],.r 7 109 kUp],lt 8 14 [.r 86018,.x 21],false⟩)]
abbrev D3d:List PK:= [.val false (.rs 248 kUp) false]
abbrev D3e:List RK:= [.val false (.sl 109 kUp)]
def D3f(f:B6c):Nat×Fn:=(178,⟨D3d,D3e,fun x=>f x.1⟩)
def E4z:Fn:=(D3f B11).2
theorem E50(f_w_toUp:B4u):∀ x,(B9 cfg [D8i f_w_toUp] E4y 23 [.tmp 2] (Tryz.f178.body.getD .skip) D3d D3e).fn x=C2M f_w_toUp x.1:=by intro x;kernel_rfl
theorem E51:B1 Tryz.prog 178 E4z:=sm MO A7 (tc Tryz.call243 E7G A5) Tryz.func178 (by kernel_rfl) (by decide) (E50 B4v)
abbrev C4s:List PK:= [.val true (.pair (.pair (.rs 9 .str) (.rs 9 .str)) (.pair (.int .i64) (.pair (.int .i64) (.rs 248 kUp)))) false]
abbrev C4t:List RK:= [.val true A3j]
def C4u(f:A9F):Nat×Fn:=(98,⟨C4s,C4t,fun x=>f x.1⟩)
def D8j:Fn:=(C4u A6F).2
theorem D8k(f_w_toDisk:B2c)(f_w_toUpS:B6c):∀ x,(B9 cfg [D05 f_w_toDisk,D3f f_w_toUpS] (B3 []) 19 [.cell 2 29] (Tryz.f98.body.getD .skip) C4s C4t).fn x=B4x f_w_toDisk f_w_toUpS x.1:=by intro x;kernel_rfl
theorem D8l:B1 Tryz.prog 98 D8j:=sm MO A7 (tc Tryz.call177 E20 (tc Tryz.call178 E51 A5)) Tryz.func98 (by kernel_rfl) (by decide) (D8k A84 B11)
abbrev D06:List PK:= [.val true E8 false]
abbrev D07:List RK:= [.val true E8]
def D08(f:B2d):Nat×Fn:=(244,⟨D06,D07,fun x=>f x.1⟩)
def E21:Fn:=(D08 A85).2
theorem E22:∀ x,(B9 cfg [] (B3 []) 11 [.cell 2 126] (Tryz.f244.body.getD .skip) D06 D07).fn x=B9M x.1:=by intro x;kernel_rfl
theorem E23:B1 Tryz.prog 244 E21:=sm MO A7 A5 Tryz.func244 (by kernel_rfl) (by decide) (E22)
abbrev D09:List PK:= [.val true A9 false]
abbrev D0A:List RK:= [.val true A9]
def D0B(f:A86):Nat×Fn:=(179,⟨D09,D0A,fun x=>f x.1⟩)
def E24:Fn:=(D0B A87).2
theorem E25(f_w_toResp:B2d):∀ x,(B9 cfg [D08 f_w_toResp] (B3 []) 12 [.cell 2 130] (Tryz.f179.body.getD .skip) D09 D0A).fn x=B9N f_w_toResp x.1:=by intro x;kernel_rfl
theorem E26:B1 Tryz.prog 179 E24:=sm MO A7 (tc Tryz.call244 E23 A5) Tryz.func179 (by kernel_rfl) (by decide) (E25 A85)
def D8m:Nat→Option Jn:=B3 [(58,⟨[.t 3 false [.own 7],.t 4 false [.int .i64],.r 7 130 A9],lt 8 14 [.x 21],false⟩)]
abbrev C4v:List PK:= [.val false (.rs 203 A9) false]
abbrev C4w:List RK:= [.val false (.sl 130 A9)]
def B68(f:A3N):Nat×Fn:=(99,⟨C4v,C4w,fun x=>f x.1⟩)
def D8n:Fn:=(B68 A1L).2
theorem D8o(f_w_toHeld:A86):∀ x,(B9 cfg [D0B f_w_toHeld] D8m 23 [.tmp 2] (Tryz.f99.body.getD .skip) C4v C4w).fn x=B4y f_w_toHeld x.1:=by intro x;kernel_rfl
theorem C4x:B1 Tryz.prog 99 D8n:=sm MO A7 (tc Tryz.call179 E26 A5) Tryz.func99 (by kernel_rfl) (by decide) (D8o A87)
abbrev C1a:List PK:= [.val true (.pair (.pair (.pair (.rs 9 .str) (.rs 9 .str)) (.pair (.int .i64) (.pair (.int .i64) (.rs 248 kUp)))) (.rs 203 A9)) false]
abbrev C1b:List RK:= [.val true A1c]
def C1c(f:A7A):Nat×Fn:=(32,⟨C1a,C1b,fun x=>f x.1⟩)
def D5U:Fn:=(C1c A47).2
theorem D5V(f_w_toStore:A9F)(f_w_toHeldS:A3N):∀ x,(B9 cfg [C4u f_w_toStore,B68 f_w_toHeldS] (B3 []) 13 [.cell 2 32] (Tryz.f32.body.getD .skip) C1a C1b).fn x=B2e f_w_toStore f_w_toHeldS x.1:=by intro x;kernel_rfl
theorem D5W:B1 Tryz.prog 32 D5U:=sm MO A7 (tc Tryz.call98 D8l (tc Tryz.call99 C4x A5)) Tryz.func32 (by kernel_rfl) (by decide) (D5V A6F A1L)
abbrev C1d:List PK:= [.val true (.pair .str (.pair (.rs 5 (.int .u8)) E8)) false]
abbrev C1e:List RK:= [.val true B2]
def C1f(f:A48):Nat×Fn:=(209,⟨C1d,C1e,fun x=>f x.1⟩)
def D5X:Fn:=(C1f A49).2
theorem D5Y(f_w_toByteS:Z4):∀ x,(B9 cfg [A9t f_w_toByteS] (B3 []) 18 [.cell 2 79] (Tryz.f209.body.getD .skip) C1d C1e).fn x=B2f f_w_toByteS x.1:=by intro x;kernel_rfl
theorem D5Z:B1 Tryz.prog 209 D5X:=sm MO A7 (tc Tryz.call34 B67 A5) Tryz.func209 (by kernel_rfl) (by decide) (D5Y S8)
def D1m:Nat→Option Jn:=B3 [(58,⟨[.t 3 false [.own 7],.t 4 false [.int .i64],.r 7 79 B2],lt 8 14 [.r 86017,.x 21],false⟩)]
abbrev B86:List PK:= [.val false (.rs 218 B2) false]
abbrev B87:List RK:= [.val false (.sl 79 B2)]
def B88(f:A5a):Nat×Fn:=(122,⟨B86,B87,fun x=>f x.1⟩)
def D1n:Fn:=(B88 A28).2
theorem D1o(f_w_toClient:A48):∀ x,(B9 cfg [C1f f_w_toClient] D1m 23 [.tmp 2] (Tryz.f122.body.getD .skip) B86 B87).fn x=B0G f_w_toClient x.1:=by intro x;kernel_rfl
theorem D1p:B1 Tryz.prog 122 D1n:=sm MO A7 (tc Tryz.call209 D5Z A5) Tryz.func122 (by kernel_rfl) (by decide) (D1o A49)
def D8p:Nat→Option Jn:=B3 [(58,⟨[.t 3 false [.own 7],.t 4 false [.int .i64],.r 7 4 .bool],lt 8 13 [.x 20],false⟩)]
abbrev C4y:List PK:= [.val false (.rs 4 .bool) false]
abbrev C4z:List RK:= [.val false (.sl 4 .bool)]
def C50(f:A9G):Nat×Fn:=(123,⟨C4y,C4z,fun x=>f x.1⟩)
def D8q:Fn:=(C50 A6G).2
theorem D8r:∀ x,(B9 cfg [] D8p 22 [.tmp 2] (Tryz.f123.body.getD .skip) C4y C4z).fn x=B4z x.1:=by intro x;kernel_rfl
theorem D8s:B1 Tryz.prog 123 D8q:=sm MO A7 A5 Tryz.func123 (by kernel_rfl) (by decide) (D8r)
abbrev D3g:List PK:= [.val true M7 false]
abbrev D3h:List RK:= [.val true M7]
def D3i(f:B6d):Nat×Fn:=(33,⟨D3g,D3h,fun x=>f x.1⟩)
def E52:Fn:=(D3i B12).2
theorem E53:∀ x,(B9 cfg [] (B3 []) 14 [.cell 2 43] (Tryz.f33.body.getD .skip) D3g D3h).fn x=C2N x.1:=by intro x;kernel_rfl
theorem E54:B1 Tryz.prog 33 E52:=sm MO A7 A5 Tryz.func33 (by kernel_rfl) (by decide) (E53)
end
end Go.Proofs.YtpdcljonclhhpaaGreat.Ev
