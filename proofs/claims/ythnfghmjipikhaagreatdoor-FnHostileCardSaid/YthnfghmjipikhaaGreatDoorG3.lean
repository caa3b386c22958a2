/- Each function of the program does what its plain function says. -/
import Derived.Test.YthnfghmjipikhaaGreatDoorG2
set_option linter.unusedVariables false
set_option maxRecDepth 100000
namespace Go.Proofs.YthnfghmjipikhaaGreatDoor.Ev
open Tryz
noncomputable section
def C7i(f:C1j):Nat×Fn:=(132,⟨[.val false (.int .i64) false],[.val false .str],fun x=>f x.1⟩)
theorem E4R{A8n:A8G}:EF cfg [B3S A8n] [] f132 (C7i (D49 A8n)):=fun _=>by kernel_rfl
theorem E4S:SQ (C7i C74):=sF MO C7 (tc call132 D1A B8) func132 E4R
def C2Q(f:B5u):Nat×Fn:=(56,⟨[.val true D3m false],[.val false (.sl 150 C1)],fun x=>f x.1⟩)
theorem D9m{A8o:B6O}{A0V:A4d}{A4O:B0U}{C2j:C1j}:EF cfg [C5O A8o,B4J A0V,B8J A4O,C7i C2j] [] f56 (C2Q (C1k A8o A0V A4O C2j)):=fun _=>by kernel_rfl
theorem D9n:SQ (C2Q B5v):=sF MO C7 (tc call52 D85 (tc call130 C6K (tc call131 D1t (tc call132 E4S B8)))) func56 D9m
def B9S(f:B4B):Nat×Fn:=(57,⟨[.val false (.rs 82 A9u) false],[.val false (.sl 5 (.int .u8))],fun x=>f x.1⟩)
theorem D6m{I5:S2}:EF cfg [A5n I5] [(58,⟨[.t 3 false [.own 100000000],.t 4 false [.int .i64],.r 100000000 5 (.int .u8)],lt 6 13 [.r 5,.r 18,.r 73728],false⟩)] f57 (B9S (B97 I5)):=fun _=>by kernel_rfl
theorem D6n:SQ (B9S B4C):=sF MO C7 (tc call59 B1q B8) func57 D6m
def D5l(f:C8T):Nat×Fn:=(58,⟨[.val false (.int .i64) false,.val false .bool false,.val false (.rs 5 (.int .u8)) false,.val false (.int .i64) false],[.val false (.sl 82 A9u)],fun x=>f x.1 x.2.1 x.2.2.1 x.2.2.2.1⟩)
theorem F0e{C9:J1}:EF cfg [A01 C9] [(15,⟨[.t 3 false [.int .i64]],[.t 18,.t 19],true⟩),(31,⟨[.t 3 false [.int .i64]],[.t 20,.t 21],true⟩),(506,⟨[.t 9 false [.own 100002000],.t 10 false [.int .i64],.r 100002000 82 A9u],lt 22 42 [.b 11,.r 13,.r 53,.r 58,.r 62,.r 63,.t 11,.t 12],false⟩),(1012,⟨[],lt 22 8 [],false⟩),(16201,⟨[.b 11 [.int .i64,.int .i64,.int .i64,.nil]],lt 35 5 [],true⟩),(64807,⟨[.t 12 false [.int .i64],.b 11 [.int .i64,.int .i64,.int .i64,.nil]],lt 43 10 [],true⟩)] f58 (D5l (D4A C9)):=fun _=>by kernel_rfl
theorem F0f:SQ (D5l C8U):=sF MO C7 (tc call53 A0T B8) func58 F0e
def A97(f:A4r):Nat×Fn:=(55,⟨[.val true (.pair (.int .i64) (.rs 150 C1)) false,.val false (.rs 150 C1) false],[.val false (.sl 5 (.int .u8)),.val true (.pair (.int .i64) (.rs 150 C1))],fun x=>f x.1 x.2.1⟩)
theorem C5j{J8:A0l}{A1w:A3e}:EF cfg [A7N J8,B0D A1w] [(15,⟨[.t 6 false [.own 100000000],.b 7 [.int .i64,.ro 150 C1],.r 100000000 5 (.int .u8)],lt 14 27 (lt 8 4 [.b 11,.r 12,.r 39,.r 61441,.r 143360]),true⟩),(122,⟨[.t 6 false [.own 100000000],.t 8 false [.int .i64],.b 7 [.int .i64,.ro 150 C1],.r 100000000 5 (.int .u8)],lt 14 27 (lt 9 3 [.b 11,.r 12,.r 39,.r 61441,.r 143360]),false⟩),(3913,⟨[.t 9 false [.int .i64]],lt 21 6 [],true⟩)] f55 (A97 (A92 J8 A1w)):=fun _=>by kernel_rfl
theorem C5k:SQ (A97 A4s):=sF MO C7 (tc call54 B3F (tc call129 C7h B8)) func55 C5j
def C4j(f:B87):Nat×Fn:=(165,⟨[],[.val false (.sl 5 (.int .u8))],fun x=>f⟩)
theorem E2B{I5:S2}:EF cfg [A5n I5] [] f165 (C4j (C43 I5)):=fun _=>by kernel_rfl
theorem E2C:SQ (C4j B88):=sF MO C7 (tc call59 B1q B8) func165 E2B
def B1u(f:A4E):Nat×Fn:=(11,⟨[.val true (.pair (.int .i64) (.rs 150 C1)) false,.val false (.int .i64) false,.val true D3m false,.val false (.rs 5 (.int .u8)) false,.val false (.int .i64) false],[.val false (.sl 5 (.int .u8)),.val true (.pair (.int .i64) (.rs 150 C1))],fun x=>f x.1 x.2.1 x.2.2.1 x.2.2.2.1 x.2.2.2.2.1⟩)
theorem C9K{L8:A1b}{A8o:B6O}{C9:J1}{J8:A0l}{A50:A4r}{B6F:B5u}{B4W:B4B}{C9S:C8T}{I5:S2}:EF cfg [A7M L8,C5O A8o,A01 C9,A7N J8,A97 A50,C2Q B6F,B9S B4W,D5l C9S,A5n I5] [(3,⟨[],lt 18 13 [],false⟩),(6,⟨[.t 30 false [.bool]],lt 18 12 [],true⟩),(31,⟨[.t 4 false [.int .i64]],[.t 49,.t 50],true⟩),(63,⟨[.t 4 false [.int .i64]],[.t 51,.t 52],true⟩),(127,⟨[.t 14 false [.own 100004000],.r 100004000 5 (.int .u8)],lt 53 30 (lt 15 3 [.b 17,.r 72,.r 77,.r 82,.r 200704,.r 335872]),true⟩),(1018,⟨[.t 14 false [.own 100004000],.t 15 false [.int .i64],.r 100004000 5 (.int .u8)],lt 53 30 [.b 17,.r 72,.r 77,.r 82,.r 200704,.r 335872,.t 16,.t 17],false⟩),(65171,⟨[.t 16 false [.int .i64],.b 17 [.int .i64,.int .i64,.int .i64,.nil]],lt 65 7 [],true⟩)] f11 (B1u (B1Q L8 A8o C9 J8 A50 B6F B4W C9S I5)):=fun _=>by kernel_rfl
theorem C9L:SQ (B1u A4F):=sF MO C7 (tc call51 B4w (tc call52 D85 (tc call53 A0T (tc call54 B3F (tc call55 C5k (tc call56 D9n (tc call57 D6n (tc call58 F0f (tc call59 B1q B8))))))))) func11 C9K
def B8M(f:B0W):Nat×Fn:=(117,⟨[],[.val true D3n],fun x=>f⟩)
theorem E2D:EF cfg [] [] f117 (B8M D1a):=fun _=>by kernel_rfl
theorem D1u:SQ (B8M B4p):=sF MO C7 B8 func117 E2D
def A2p(f:U5):Nat×Fn:=(45,⟨[.val true (.pair (.int .i64) (.pair (.rs 5 (.int .u8)) (.pair (.pair (.int .i64) (.pair .bool (.rs 5 (.int .u8)))) (.pair (.pair (.int .i64) (.rs 150 C1)) (.pair (.pair (.int .i64) (.rs 150 C1)) (.pair (.rs 113 H2) L2)))))) false,.val false (.rs 5 (.int .u8)) false],[.val true (.pair (.int .i64) (.pair (.sl 5 (.int .u8)) (.pair A1j (.pair (.pair (.int .i64) (.rs 150 C1)) (.pair T0 (.pair (.sl 113 H2) L2)))))),.val false (.sl 75 A0q),.val false (.sl 5 (.int .u8))],fun x=>f x.1 x.2.1⟩)
theorem C5l{A5p:B2k}{B8U:B7v}{A3V:A5A}:EF cfg [C2L A5p,C4d B8U,B3J A3V] [(15,⟨[.b 13 [.int .i64,.own 100000000,.int .i64,.bool,.own 100000001,.int .i64,.ro 150 C1,.int .i64,.own 100000002,.own 100000003,.int .i64,.int .i64,.own 100000004,.own 100000005],.r 100000000 5 (.int .u8),.r 100000001 5 (.int .u8),.r 100000002 150 C1,.r 100000003 113 H2,.r 100000004 75 A0q,.r 100000005 5 (.int .u8)],lt 16 23 [.r 49153,.r 49156,.r 49158,.r 49160,.r 49161,.r 161793,.r 161796,.r 161800,.r 161801,.r 161804,.r 161805,.t 9,.t 11,.t 12],true⟩),(122,⟨[.t 9 false [.int .i64],.b 13 [.int .i64,.own 100000000,.int .i64,.bool,.own 100000001,.int .i64,.ro 150 C1,.int .i64,.own 100000002,.own 100000003,.int .i64,.int .i64,.own 100000004,.own 100000005],.r 100000000 5 (.int .u8),.r 100000001 5 (.int .u8),.r 100000002 150 C1,.r 100000003 113 H2,.r 100000004 75 A0q,.r 100000005 5 (.int .u8)],lt 16 23 [.r 49153,.r 49156,.r 49158,.r 49160,.r 49161,.r 161793,.r 161796,.r 161800,.r 161801,.r 161804,.r 161805,.t 11,.t 12],false⟩),(244,⟨[],lt 16 15 [],false⟩)] f45 (A2p (A4t A5p B8U A3V)):=fun _=>by kernel_rfl
theorem A98:SQ (A2p Q9):=sF MO C7 (tc call46 D5c (tc call76 E20 (tc call119 D0p B8))) func45 C5l
def B5Q(f:C5G):Nat×Fn:=(93,⟨[.val false (.rs 5 (.int .u8)) false],[.new (.pair (.rs 5 (.int .u8)) L2)],fun x=>f x.1⟩)
theorem D2I:EF cfg [] [(7,⟨[.t 3 false [.int .i64]],lt 8 20 [.t 4],true⟩),(58,⟨[.t 3 false [.int .i64],.t 4 false [.int .i64]],lt 8 20 [],false⟩),(116,⟨[],lt 8 8 [],false⟩)] f93 (B5Q C9u):=fun _=>by kernel_rfl
theorem D2J:SQ (B5Q C5H):=sF MO C7 B8 func93 D2I
def A68(f:A5h):Nat×Fn:=(115,⟨[.ptr (.pair (.rs 5 (.int .u8)) L2)],[.val false (.int .i64)],fun x=>f x.1⟩)
theorem D2K:EF cfg [] [] f115 (A68 C72):=fun _=>by kernel_rfl
theorem B5R:SQ (A68 A7I):=sF MO C7 B8 func115 D2K
def N8(f:L7):Nat×Fn:=(98,⟨[.ptr (.pair (.rs 5 (.int .u8)) L2),.val false (.int .i64) false],[.val false (.int .i64)],fun x=>f x.1 x.2.1⟩)
theorem D1B{S5:A5h}:EF cfg [A68 S5] [] f98 (N8 (C42 S5)):=fun _=>by kernel_rfl
theorem R2:SQ (N8 R6):=sF MO C7 (tc call115 B5R B8) func98 D1B
def A2D(f:A1t):Nat×Fn:=(97,⟨[.ptr (.pair (.rs 5 (.int .u8)) L2),.val false (.rs 3 (.int .i64)) false],[.val false (.int .i64)],fun x=>f x.1 x.2.1⟩)
theorem D5m{E6:L7}:EF cfg [N8 E6] [] f97 (A2D (C9w E6)):=fun _=>by kernel_rfl
theorem A5J:SQ (A2D A44):=sF MO C7 (tc call98 R2 B8) func97 D5m
def A45(f:A4g):Nat×Fn:=(114,⟨[.ptr (.pair (.rs 5 (.int .u8)) L2),.val false (.int .i64) false],[.val false .bool],fun x=>f x.1 x.2.1⟩)
theorem D2L{E6:L7}:EF cfg [N8 E6] [] f114 (A45 (C75 E6)):=fun _=>by kernel_rfl
theorem A9n:SQ (A45 B03):=sF MO C7 (tc call98 R2 B8) func114 D2L
def A8O(f:A1u):Nat×Fn:=(96,⟨[.ptr (.pair (.rs 5 (.int .u8)) L2),.val false (.int .i64) false],[.val false (.sl 5 (.int .u8))],fun x=>f x.1 x.2.1⟩)
theorem D1C{S5:A5h}:EF cfg [A68 S5] [(58,⟨[.t 5 false [.own 100000000],.t 6 false [.int .i64],.b 1000 [.ro 5 (.int .u8),.int .i64,.int .i64],.r 100000000 5 (.int .u8)],lt 8 11 [.r 7,.r 17,.r 18],false⟩)] f96 (A8O (B33 S5)):=fun _=>by kernel_rfl
theorem C0H:SQ (A8O A3Q):=sF MO C7 (tc call115 B5R B8) func96 D1C
def B3T(f:A5C):Nat×Fn:=(166,⟨[.ptr (.pair (.rs 5 (.int .u8)) L2)],[.val true A9u],fun x=>f x.1⟩)
theorem D1D{C9:J1}{O8:A1u}{J0:A1t}{E6:L7}{Q0:A4g}:EF cfg [A01 C9,A8O O8,A2D J0,N8 E6,A45 Q0] [(15,⟨[.t 4 false [.int .i64],.b 1000 [.ro 5 (.int .u8),.int .i64,.int .i64]],lt 17 19 [],true⟩),(31,⟨[.t 4 false [.int .i64],.b 1000 [.ro 5 (.int .u8),.int .i64,.int .i64]],lt 36 4 [],true⟩),(63,⟨[.b 3 [.int .i64,.int .i64,.int .i64,.nil],.b 1000 [.ro 5 (.int .u8),.int .i64,.int .i64]],lt 40 12 [.r 49],true⟩),(491,⟨[.t 21 false [.bool]],[.t 22,.t 23],true⟩),(1967,⟨[.t 24 false [.bool]],[.t 25,.t 26],true⟩)] f166 (B3T (B34 C9 O8 J0 E6 Q0)):=fun _=>by kernel_rfl
theorem D1E:SQ (B3T A5D):=sF MO C7 (tc call53 A0T (tc call96 C0H (tc call97 A5J (tc call98 R2 (tc call114 A9n B8))))) func166 D1D
def B1v(f:B6P):Nat×Fn:=(151,⟨[.ptr (.pair (.rs 5 (.int .u8)) L2),.val false (.rs 9 .str) false],[.val false .str],fun x=>f x.1 x.2.1⟩)
theorem D5n{E6:L7}:EF cfg [N8 E6] [] f151 (B1v (D00 E6)):=fun _=>by kernel_rfl
theorem C4k:SQ (B1v C00):=sF MO C7 (tc call98 R2 B8) func151 D5n
def B5S(f:B6w):Nat×Fn:=(94,⟨[.ptr (.pair (.rs 5 (.int .u8)) L2)],[.val true D3m],fun x=>f x.1⟩)
theorem D2M{J0:A1t}{E6:L7}{Q0:A4g}{A0O:A5S}{A6U:B6P}:EF cfg [A2D J0,N8 E6,A45 Q0,B50 A0O,B1v A6U] [] f94 (B5S (C76 J0 E6 Q0 A0O A6U)):=fun _=>by kernel_rfl
theorem D2N:SQ (B5S B70):=sF MO C7 (tc call97 A5J (tc call98 R2 (tc call114 A9n (tc call128 C4h (tc call151 C4k B8))))) func94 D2M
def A8P(f:A3R):Nat×Fn:=(113,⟨[.ptr (.pair (.rs 5 (.int .u8)) L2),.val false (.int .i64) false],[.val false (.sl 5 (.int .u8))],fun x=>f x.1 x.2.1⟩)
theorem D1F{A2Q:A4E}{I5:S2}{B3W:B6w}{O8:A1u}{J0:A1t}{E6:L7}{B8V:B87}{A3W:A5C}:EF cfg [B1u A2Q,A5n I5,B5S B3W,A8O O8,A2D J0,N8 E6,C4j B8V,B3T A3W] [(250,⟨[.t 5 false [.own 100000000],.t 7 false [.int .i64],.t 8 false [.int .i64],.b 6 [.int .i64,.ro 150 C1],.b 1000 [.ro 5 (.int .u8),.int .i64,.int .i64],.r 100000000 5 (.int .u8)],lt 16 52 [.b 10,.r 29,.r 33,.r 40,.r 50,.r 55,.r 58,.r 62,.r 67,.r 49152,.r 131072,.r 147456,.r 200707,.r 204800,.r 266240,.r 274432,.t 9,.t 10],false⟩)] f113 (A8P (B35 A2Q I5 B3W O8 J0 E6 B8V A3W)):=fun _=>by kernel_rfl
theorem C0I:SQ (A8P A5E):=sF MO C7 (tc call11 C9L (tc call59 B1q (tc call94 D2N (tc call96 C0H (tc call97 A5J (tc call98 R2 (tc call165 E2C (tc call166 D1E B8)))))))) func113 D1F
def A5o(f:A32):Nat×Fn:=(167,⟨[.ptr (.pair (.rs 5 (.int .u8)) L2)],[.val true (.pair (.int .i64) (.pair (.sl 5 (.int .u8)) (.pair A1j (.pair (.pair (.int .i64) (.rs 150 C1)) (.pair T0 (.pair (.sl 113 H2) L2))))))],fun x=>f x.1⟩)
theorem C2R{K4:U5}{E6:L7}{A0E:A3R}{Q0:A4g}{A3O:B0W}:EF cfg [A2p K4,N8 E6,A8P A0E,A45 Q0,B8M A3O] [(7,⟨[.t 3 false [.own 100000000],.b 1000 [.ro 5 (.int .u8),.int .i64,.int .i64],.r 100000000 5 (.int .u8)],lt 8 9 [.r 36864],true⟩)] f167 (A5o (A5i K4 E6 A0E Q0 A3O)):=fun _=>by kernel_rfl
theorem C2S:SQ (A5o A33):=sF MO C7 (tc call45 A98 (tc call98 R2 (tc call113 C0I (tc call114 A9n (tc call117 D1u B8))))) func167 C2R
def A8Q(f:A7J):Nat×Fn:=(198,⟨[.ptr (.pair (.rs 5 (.int .u8)) L2)],[.val true C1],fun x=>f x.1⟩)
theorem D1G{A6U:B6P}:EF cfg [B1v A6U] [] f198 (A8Q (C44 A6U)):=fun _=>by kernel_rfl
theorem C0J:SQ (A8Q B0a):=sF MO C7 (tc call151 C4k B8) func198 D1G
def B5T(f:A9h):Nat×Fn:=(197,⟨[.ptr (.pair (.rs 5 (.int .u8)) L2)],[.val true T0],fun x=>f x.1⟩)
theorem D2O{J0:A1t}{E6:L7}{B6U:B9n}{A1c:A7J}:EF cfg [A2D J0,N8 E6,D0e B6U,A8Q A1c] [(58,⟨[.t 4 false [.int .i64],.b 3 [.int .i64,.own 100000000],.b 1000 [.ro 5 (.int .u8),.int .i64,.int .i64],.r 100000000 150 C1],lt 11 8 [.r 77825],false⟩)] f197 (B5T (B5E J0 E6 B6U A1c)):=fun _=>by kernel_rfl
theorem D2P:SQ (B5T A9i):=sF MO C7 (tc call97 A5J (tc call98 R2 (tc call178 E7d (tc call198 C0J B8)))) func197 D2O
def B7M(f:B1S):Nat×Fn:=(168,⟨[.ptr (.pair (.rs 5 (.int .u8)) L2)],[.val true T0],fun x=>f x.1⟩)
theorem D5o{J0:A1t}{E6:L7}{A9r:A9h}{A1c:A7J}:EF cfg [A2D J0,N8 E6,B5T A9r,A8Q A1c] [] f168 (B7M (B71 J0 E6 A9r A1c)):=fun _=>by kernel_rfl
theorem D5p:SQ (B7M B1T):=sF MO C7 (tc call97 A5J (tc call98 R2 (tc call197 D2P (tc call198 C0J B8)))) func168 D5o
def A6f(f:A3m):Nat×Fn:=(118,⟨[.ptr (.pair (.rs 5 (.int .u8)) L2)],[.val true (.pair (.int .i64) (.pair (.sl 5 (.int .u8)) (.pair A1j (.pair (.pair (.int .i64) (.rs 150 C1)) (.pair T0 (.pair (.sl 113 H2) L2))))))],fun x=>f x.1⟩)
theorem C3E{J0:A1t}{E6:L7}{A3G:A32}{B25:B1S}:EF cfg [A2D J0,N8 E6,A5o A3G,B7M B25] [] f118 (A6f (A6c J0 E6 A3G B25)):=fun _=>by kernel_rfl
theorem C3F:SQ (A6f A3n):=sF MO C7 (tc call97 A5J (tc call98 R2 (tc call167 C2S (tc call168 D5p B8)))) func118 C3E
def A5K(f:A2L):Nat×Fn:=(44,⟨[.val false (.rs 5 (.int .u8)) false],[.val true (.pair (.int .i64) (.pair (.sl 5 (.int .u8)) (.pair A1j (.pair (.pair (.int .i64) (.rs 150 C1)) (.pair T0 (.pair (.sl 113 H2) L2)))))),.val false (.rs 5 (.int .u8))],fun x=>f x.1⟩)
theorem C0K{K4:U5}{C5S:C5G}{E6:L7}{A0E:A3R}{Q0:A4g}{S5:A5h}{A3O:B0W}{A3o:A3m}:EF cfg [A2p K4,B5Q C5S,N8 E6,A8P A0E,A45 Q0,A68 S5,B8M A3O,A6f A3o] [(15,⟨[.t 5 false [.own 57344],.b 49152 [.ro 5 (.int .u8),.int .i64,.int .i64],.r 57344 5 (.int .u8)],lt 14 11 [.x 24],true⟩)] f44 (A5K (A5F K4 C5S E6 A0E Q0 S5 A3O A3o)):=fun _=>by kernel_rfl
theorem C0L:SQ (A5K A0s):=sF MO C7 (tc call45 A98 (tc call93 D2J (tc call98 R2 (tc call113 C0I (tc call114 A9n (tc call115 B5R (tc call117 D1u (tc call118 C3F B8)))))))) func44 C0K
def D6o:Nat->Option Jn:=B5V [(63,⟨[],lt 38 10 [],false⟩),(511,⟨[],lt 70 13 [],false⟩)]
abbrev A9O:List PK:= [.val false (.rs 5 (.int .u8)) false]
abbrev C6M:List RK:= [.val false .bool]
def D6p(f:C62):Nat×Fn:=(7,⟨A9O,C6M,fun x=>f x.1⟩)
def F_w_FnHostile:Fn:=(D6p B99).2
theorem D6q(D2r:D2h)(A9R:B3q)(A0U:A4V)(B26:B1B)(B4a:B3s)(A4j:B2b)(A2R:A2L)(K4:U5)(A5p:B2k):∀ x,(E6P cfg [D9K D2r,B9K A9R,B4G A0U,B7H B26,B9L B4a,C25 A4j,A5K A2R,A2p K4,C2L A5p] D6o 110 [.tmp 2] (f7.body.getD .skip) A9O C6M).fn x=B98 D2r A9R A0U B26 B4a A4j A2R K4 A5p x.1:=by intro x;kernel_rfl
theorem D6r:A28 prog 7 F_w_FnHostile:=sm MO C7 (tc call30 F1w (tc call33 D6P (tc call36 C6I (tc call37 D5W (tc call42 D6S (tc call43 D5H (tc call44 C0L (tc call45 A98 (tc call46 D5c B8))))))))) func7 (by kernel_rfl) (by decide) (D6q D2i A4U A4W A7C A9G A4S A0s Q9 A1r)
end
end Go.Proofs.YthnfghmjipikhaaGreatDoor.Ev
