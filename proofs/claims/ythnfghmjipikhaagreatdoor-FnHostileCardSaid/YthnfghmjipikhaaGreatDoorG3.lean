/- Each function of the program does what its plain function says. -/
import Derived.Test.YthnfghmjipikhaaGreatDoorG2
set_option linter.unusedVariables false
set_option maxRecDepth 100000
namespace Go.Proofs.YthnfghmjipikhaaGreatDoor.Ev
open Tryz
noncomputable section
def C7h(f:C1j):Nat×Fn:=(132,⟨[.val false (.int .i64) false],[.val false .str],fun x=>f x.1⟩)
theorem E4L{A8l:A8E}:EF cfg [B3P A8l] [] f132 (C7h (D48 A8l)):=fun _=>by kernel_rfl
theorem E4M:SQ (C7h C73):=sF MO C6 (tc call132 D17 B7) func132 E4L
def C2Q(f:B5s):Nat×Fn:=(56,⟨[.val true D3l false],[.val false (.sl 150 C1)],fun x=>f x.1⟩)
theorem D9l{A8m:B6M}{A0V:A4d}{A4O:B0R}{C2j:C1j}:EF cfg [C5N A8m,B4G A0V,B8I A4O,C7h C2j] [] f56 (C2Q (C1k A8m A0V A4O C2j)):=fun _=>by kernel_rfl
theorem D9m:SQ (C2Q B5t):=sF MO C6 (tc call52 D84 (tc call130 C6I (tc call131 D1q (tc call132 E4M B7)))) func56 D9l
def B9R(f:B48):Nat×Fn:=(57,⟨[.val false (.rs 82 A9s) false],[.val false (.sl 5 (.int .u8))],fun x=>f x.1⟩)
theorem D6l{I5:S2}:EF cfg [A5l I5] [(58,⟨[.t 3 false [.own 100000000],.t 4 false [.int .i64],.r 100000000 5 (.int .u8)],lt 6 13 [.r 5,.r 18,.r 73728],false⟩)] f57 (B9R (B96 I5)):=fun _=>by kernel_rfl
theorem D6m:SQ (B9R B49):=sF MO C6 (tc call59 B1n B7) func57 D6l
def D5k(f:C8S):Nat×Fn:=(58,⟨[.val false (.int .i64) false,.val false .bool false,.val false (.rs 5 (.int .u8)) false,.val false (.int .i64) false],[.val false (.sl 82 A9s)],fun x=>f x.1 x.2.1 x.2.2.1 x.2.2.2.1⟩)
theorem F0P{C8:J1}:EF cfg [A00 C8] [(15,⟨[.t 3 false [.int .i64]],[.t 18,.t 19],true⟩),(31,⟨[.t 3 false [.int .i64]],[.t 20,.t 21],true⟩),(506,⟨[.t 9 false [.own 100002000],.t 10 false [.int .i64],.r 100002000 82 A9s],lt 22 42 [.b 11,.r 13,.r 53,.r 58,.r 62,.r 63,.t 11,.t 12],false⟩),(1012,⟨[],lt 22 8 [],false⟩),(16201,⟨[.b 11 [.int .i64,.int .i64,.int .i64,.nil]],lt 35 5 [],true⟩),(64807,⟨[.t 12 false [.int .i64],.b 11 [.int .i64,.int .i64,.int .i64,.nil]],lt 43 10 [],true⟩)] f58 (D5k (D49 C8)):=fun _=>by kernel_rfl
theorem F0Q:SQ (D5k C8T):=sF MO C6 (tc call53 A0T B7) func58 F0P
def A94(f:A4r):Nat×Fn:=(55,⟨[.val true (.pair (.int .i64) (.rs 150 C1)) false,.val false (.rs 150 C1) false],[.val false (.sl 5 (.int .u8)),.val true (.pair (.int .i64) (.rs 150 C1))],fun x=>f x.1 x.2.1⟩)
theorem C5h{J8:A0l}{A1v:A3d}:EF cfg [A7K J8,B0B A1v] [(15,⟨[.t 6 false [.own 100000000],.b 7 [.int .i64,.ro 150 C1],.r 100000000 5 (.int .u8)],lt 14 27 (lt 8 4 [.b 11,.r 12,.r 39,.r 61441,.r 143360]),true⟩),(122,⟨[.t 6 false [.own 100000000],.t 8 false [.int .i64],.b 7 [.int .i64,.ro 150 C1],.r 100000000 5 (.int .u8)],lt 14 27 (lt 9 3 [.b 11,.r 12,.r 39,.r 61441,.r 143360]),false⟩),(3913,⟨[.t 9 false [.int .i64]],lt 21 6 [],true⟩)] f55 (A94 (A8w J8 A1v)):=fun _=>by kernel_rfl
theorem C5i:SQ (A94 A4s):=sF MO C6 (tc call54 B3C (tc call129 C7g B7)) func55 C5h
def C4j(f:B86):Nat×Fn:=(165,⟨[],[.val false (.sl 5 (.int .u8))],fun x=>f⟩)
theorem E25{I5:S2}:EF cfg [A5l I5] [] f165 (C4j (C43 I5)):=fun _=>by kernel_rfl
theorem E26:SQ (C4j B87):=sF MO C6 (tc call59 B1n B7) func165 E25
def B1r(f:A4E):Nat×Fn:=(11,⟨[.val true (.pair (.int .i64) (.rs 150 C1)) false,.val false (.int .i64) false,.val true D3l false,.val false (.rs 5 (.int .u8)) false,.val false (.int .i64) false],[.val false (.sl 5 (.int .u8)),.val true (.pair (.int .i64) (.rs 150 C1))],fun x=>f x.1 x.2.1 x.2.2.1 x.2.2.2.1 x.2.2.2.2.1⟩)
theorem C9J{L8:A1a}{A8m:B6M}{C8:J1}{J8:A0l}{A50:A4r}{B6D:B5s}{B4T:B48}{C9R:C8S}{I5:S2}:EF cfg [A7J L8,C5N A8m,A00 C8,A7K J8,A94 A50,C2Q B6D,B9R B4T,D5k C9R,A5l I5] [(3,⟨[],lt 18 13 [],false⟩),(6,⟨[.t 30 false [.bool]],lt 18 12 [],true⟩),(31,⟨[.t 4 false [.int .i64]],[.t 49,.t 50],true⟩),(63,⟨[.t 4 false [.int .i64]],[.t 51,.t 52],true⟩),(127,⟨[.t 14 false [.own 100004000],.r 100004000 5 (.int .u8)],lt 53 30 (lt 15 3 [.b 17,.r 72,.r 77,.r 82,.r 200704,.r 335872]),true⟩),(1018,⟨[.t 14 false [.own 100004000],.t 15 false [.int .i64],.r 100004000 5 (.int .u8)],lt 53 30 [.b 17,.r 72,.r 77,.r 82,.r 200704,.r 335872,.t 16,.t 17],false⟩),(65171,⟨[.t 16 false [.int .i64],.b 17 [.int .i64,.int .i64,.int .i64,.nil]],lt 65 7 [],true⟩)] f11 (B1r (B1N L8 A8m C8 J8 A50 B6D B4T C9R I5)):=fun _=>by kernel_rfl
theorem C9K:SQ (B1r A4F):=sF MO C6 (tc call51 B4t (tc call52 D84 (tc call53 A0T (tc call54 B3C (tc call55 C5i (tc call56 D9m (tc call57 D6m (tc call58 F0Q (tc call59 B1n B7))))))))) func11 C9J
def B8L(f:B0T):Nat×Fn:=(117,⟨[],[.val true D3m],fun x=>f⟩)
theorem E27:EF cfg [] [] f117 (B8L D1U):=fun _=>by kernel_rfl
theorem D1r:SQ (B8L B4m):=sF MO C6 B7 func117 E27
def A2o(f:U5):Nat×Fn:=(45,⟨[.val true (.pair (.int .i64) (.pair (.rs 5 (.int .u8)) (.pair (.pair (.int .i64) (.pair .bool (.rs 5 (.int .u8)))) (.pair (.pair (.int .i64) (.rs 150 C1)) (.pair (.pair (.int .i64) (.rs 150 C1)) (.pair (.rs 113 H2) L2)))))) false,.val false (.rs 5 (.int .u8)) false],[.val true (.pair (.int .i64) (.pair (.sl 5 (.int .u8)) (.pair A1i (.pair (.pair (.int .i64) (.rs 150 C1)) (.pair T0 (.pair (.sl 113 H2) L2)))))),.val false (.sl 75 A0q),.val false (.sl 5 (.int .u8))],fun x=>f x.1 x.2.1⟩)
theorem C5j{A5n:B2h}{B8T:B7u}{A3U:A59}:EF cfg [C2L A5n,C4d B8T,B3G A3U] [(15,⟨[.b 13 [.int .i64,.own 100000000,.int .i64,.bool,.own 100000001,.int .i64,.ro 150 C1,.int .i64,.own 100000002,.own 100000003,.int .i64,.int .i64,.own 100000004,.own 100000005],.r 100000000 5 (.int .u8),.r 100000001 5 (.int .u8),.r 100000002 150 C1,.r 100000003 113 H2,.r 100000004 75 A0q,.r 100000005 5 (.int .u8)],lt 16 23 [.r 49153,.r 49156,.r 49158,.r 49160,.r 49161,.r 161793,.r 161796,.r 161800,.r 161801,.r 161804,.r 161805,.t 9,.t 11,.t 12],true⟩),(122,⟨[.t 9 false [.int .i64],.b 13 [.int .i64,.own 100000000,.int .i64,.bool,.own 100000001,.int .i64,.ro 150 C1,.int .i64,.own 100000002,.own 100000003,.int .i64,.int .i64,.own 100000004,.own 100000005],.r 100000000 5 (.int .u8),.r 100000001 5 (.int .u8),.r 100000002 150 C1,.r 100000003 113 H2,.r 100000004 75 A0q,.r 100000005 5 (.int .u8)],lt 16 23 [.r 49153,.r 49156,.r 49158,.r 49160,.r 49161,.r 161793,.r 161796,.r 161800,.r 161801,.r 161804,.r 161805,.t 11,.t 12],false⟩),(244,⟨[],lt 16 15 [],false⟩)] f45 (A2o (A4t A5n B8T A3U)):=fun _=>by kernel_rfl
theorem A95:SQ (A2o Q9):=sF MO C6 (tc call46 D5b (tc call76 E1r (tc call119 D0m B7))) func45 C5j
def B5N(f:C5F):Nat×Fn:=(93,⟨[.val false (.rs 5 (.int .u8)) false],[.new (.pair (.rs 5 (.int .u8)) L2)],fun x=>f x.1⟩)
theorem D2H:EF cfg [] [(7,⟨[.t 3 false [.int .i64]],lt 8 20 [.t 4],true⟩),(58,⟨[.t 3 false [.int .i64],.t 4 false [.int .i64]],lt 8 20 [],false⟩),(116,⟨[],lt 8 8 [],false⟩)] f93 (B5N C9t):=fun _=>by kernel_rfl
theorem D2I:SQ (B5N C5G):=sF MO C6 B7 func93 D2H
def A66(f:A5f):Nat×Fn:=(115,⟨[.ptr (.pair (.rs 5 (.int .u8)) L2)],[.val false (.int .i64)],fun x=>f x.1⟩)
theorem D2J:EF cfg [] [] f115 (A66 C71):=fun _=>by kernel_rfl
theorem B5O:SQ (A66 A7F):=sF MO C6 B7 func115 D2J
def N8(f:L7):Nat×Fn:=(98,⟨[.ptr (.pair (.rs 5 (.int .u8)) L2),.val false (.int .i64) false],[.val false (.int .i64)],fun x=>f x.1 x.2.1⟩)
theorem D18{S5:A5f}:EF cfg [A66 S5] [] f98 (N8 (C42 S5)):=fun _=>by kernel_rfl
theorem R2:SQ (N8 R6):=sF MO C6 (tc call115 B5O B7) func98 D18
def A2C(f:A1s):Nat×Fn:=(97,⟨[.ptr (.pair (.rs 5 (.int .u8)) L2),.val false (.rs 3 (.int .i64)) false],[.val false (.int .i64)],fun x=>f x.1 x.2.1⟩)
theorem D5l{E6:L7}:EF cfg [N8 E6] [] f97 (A2C (C9v E6)):=fun _=>by kernel_rfl
theorem A5I:SQ (A2C A43):=sF MO C6 (tc call98 R2 B7) func97 D5l
def A45(f:A4g):Nat×Fn:=(114,⟨[.ptr (.pair (.rs 5 (.int .u8)) L2),.val false (.int .i64) false],[.val false .bool],fun x=>f x.1 x.2.1⟩)
theorem D2K{E6:L7}:EF cfg [N8 E6] [] f114 (A45 (C74 E6)):=fun _=>by kernel_rfl
theorem A9m:SQ (A45 B01):=sF MO C6 (tc call98 R2 B7) func114 D2K
def A8M(f:A1t):Nat×Fn:=(96,⟨[.ptr (.pair (.rs 5 (.int .u8)) L2),.val false (.int .i64) false],[.val false (.sl 5 (.int .u8))],fun x=>f x.1 x.2.1⟩)
theorem D19{S5:A5f}:EF cfg [A66 S5] [(58,⟨[.t 5 false [.own 100000000],.t 6 false [.int .i64],.b 1000 [.ro 5 (.int .u8),.int .i64,.int .i64],.r 100000000 5 (.int .u8)],lt 8 11 [.r 7,.r 17,.r 18],false⟩)] f96 (A8M (B30 S5)):=fun _=>by kernel_rfl
theorem C0G:SQ (A8M A3P):=sF MO C6 (tc call115 B5O B7) func96 D19
def B3Q(f:A5B):Nat×Fn:=(166,⟨[.ptr (.pair (.rs 5 (.int .u8)) L2)],[.val true A9s],fun x=>f x.1⟩)
theorem D1A{C8:J1}{O8:A1t}{J0:A1s}{E6:L7}{Q0:A4g}:EF cfg [A00 C8,A8M O8,A2C J0,N8 E6,A45 Q0] [(15,⟨[.t 4 false [.int .i64],.b 1000 [.ro 5 (.int .u8),.int .i64,.int .i64]],lt 17 19 [],true⟩),(31,⟨[.t 4 false [.int .i64],.b 1000 [.ro 5 (.int .u8),.int .i64,.int .i64]],lt 36 4 [],true⟩),(63,⟨[.b 3 [.int .i64,.int .i64,.int .i64,.nil],.b 1000 [.ro 5 (.int .u8),.int .i64,.int .i64]],lt 40 12 [.r 49],true⟩),(491,⟨[.t 21 false [.bool]],[.t 22,.t 23],true⟩),(1967,⟨[.t 24 false [.bool]],[.t 25,.t 26],true⟩)] f166 (B3Q (B31 C8 O8 J0 E6 Q0)):=fun _=>by kernel_rfl
theorem D1B:SQ (B3Q A5C):=sF MO C6 (tc call53 A0T (tc call96 C0G (tc call97 A5I (tc call98 R2 (tc call114 A9m B7))))) func166 D1A
def B1s(f:B6N):Nat×Fn:=(151,⟨[.ptr (.pair (.rs 5 (.int .u8)) L2),.val false (.rs 9 .str) false],[.val false .str],fun x=>f x.1 x.2.1⟩)
theorem D5m{E6:L7}:EF cfg [N8 E6] [] f151 (B1s (C9w E6)):=fun _=>by kernel_rfl
theorem C4k:SQ (B1s B9w):=sF MO C6 (tc call98 R2 B7) func151 D5m
def B5P(f:B6u):Nat×Fn:=(94,⟨[.ptr (.pair (.rs 5 (.int .u8)) L2)],[.val true D3l],fun x=>f x.1⟩)
theorem D2L{J0:A1s}{E6:L7}{Q0:A4g}{A0N:A5Q}{A6R:B6N}:EF cfg [A2C J0,N8 E6,A45 Q0,B4u A0N,B1s A6R] [] f94 (B5P (C75 J0 E6 Q0 A0N A6R)):=fun _=>by kernel_rfl
theorem D2M:SQ (B5P B6v):=sF MO C6 (tc call97 A5I (tc call98 R2 (tc call114 A9m (tc call128 C4h (tc call151 C4k B7))))) func94 D2L
def A8N(f:A3Q):Nat×Fn:=(113,⟨[.ptr (.pair (.rs 5 (.int .u8)) L2),.val false (.int .i64) false],[.val false (.sl 5 (.int .u8))],fun x=>f x.1 x.2.1⟩)
theorem D1C{A2P:A4E}{I5:S2}{B3T:B6u}{O8:A1t}{J0:A1s}{E6:L7}{B8U:B86}{A3V:A5B}:EF cfg [B1r A2P,A5l I5,B5P B3T,A8M O8,A2C J0,N8 E6,C4j B8U,B3Q A3V] [(250,⟨[.t 5 false [.own 100000000],.t 7 false [.int .i64],.t 8 false [.int .i64],.b 6 [.int .i64,.ro 150 C1],.b 1000 [.ro 5 (.int .u8),.int .i64,.int .i64],.r 100000000 5 (.int .u8)],lt 16 52 [.b 10,.r 29,.r 33,.r 40,.r 50,.r 55,.r 58,.r 62,.r 67,.r 49152,.r 131072,.r 147456,.r 200707,.r 204800,.r 266240,.r 274432,.t 9,.t 10],false⟩)] f113 (A8N (B32 A2P I5 B3T O8 J0 E6 B8U A3V)):=fun _=>by kernel_rfl
theorem C0H:SQ (A8N A5D):=sF MO C6 (tc call11 C9K (tc call59 B1n (tc call94 D2M (tc call96 C0G (tc call97 A5I (tc call98 R2 (tc call165 E26 (tc call166 D1B B7)))))))) func113 D1C
def A5m(f:A31):Nat×Fn:=(167,⟨[.ptr (.pair (.rs 5 (.int .u8)) L2)],[.val true (.pair (.int .i64) (.pair (.sl 5 (.int .u8)) (.pair A1i (.pair (.pair (.int .i64) (.rs 150 C1)) (.pair T0 (.pair (.sl 113 H2) L2))))))],fun x=>f x.1⟩)
theorem C2R{K4:U5}{E6:L7}{A0D:A3Q}{Q0:A4g}{A3N:B0T}:EF cfg [A2o K4,N8 E6,A8N A0D,A45 Q0,B8L A3N] [(7,⟨[.t 3 false [.own 100000000],.b 1000 [.ro 5 (.int .u8),.int .i64,.int .i64],.r 100000000 5 (.int .u8)],lt 8 9 [.r 36864],true⟩)] f167 (A5m (A5g K4 E6 A0D Q0 A3N)):=fun _=>by kernel_rfl
theorem C2S:SQ (A5m A32):=sF MO C6 (tc call45 A95 (tc call98 R2 (tc call113 C0H (tc call114 A9m (tc call117 D1r B7))))) func167 C2R
def A8O(f:A7G):Nat×Fn:=(198,⟨[.ptr (.pair (.rs 5 (.int .u8)) L2)],[.val true C1],fun x=>f x.1⟩)
theorem D1D{A6R:B6N}:EF cfg [B1s A6R] [] f198 (A8O (C44 A6R)):=fun _=>by kernel_rfl
theorem C0I:SQ (A8O B0U):=sF MO C6 (tc call151 C4k B7) func198 D1D
def B5Q(f:A9g):Nat×Fn:=(197,⟨[.ptr (.pair (.rs 5 (.int .u8)) L2)],[.val true T0],fun x=>f x.1⟩)
theorem D2N{J0:A1s}{E6:L7}{B6S:B9m}{A1b:A7G}:EF cfg [A2C J0,N8 E6,D0b B6S,A8O A1b] [(58,⟨[.t 4 false [.int .i64],.b 3 [.int .i64,.own 100000000],.b 1000 [.ro 5 (.int .u8),.int .i64,.int .i64],.r 100000000 150 C1],lt 11 8 [.r 77825],false⟩)] f197 (B5Q (B5B J0 E6 B6S A1b)):=fun _=>by kernel_rfl
theorem D2O:SQ (B5Q A9h):=sF MO C6 (tc call97 A5I (tc call98 R2 (tc call178 E7Q (tc call198 C0I B7)))) func197 D2N
def B7K(f:B1P):Nat×Fn:=(168,⟨[.ptr (.pair (.rs 5 (.int .u8)) L2)],[.val true T0],fun x=>f x.1⟩)
theorem D5n{J0:A1s}{E6:L7}{A9q:A9g}{A1b:A7G}:EF cfg [A2C J0,N8 E6,B5Q A9q,A8O A1b] [] f168 (B7K (B6w J0 E6 A9q A1b)):=fun _=>by kernel_rfl
theorem D5o:SQ (B7K B1Q):=sF MO C6 (tc call97 A5I (tc call98 R2 (tc call197 D2O (tc call198 C0I B7)))) func168 D5n
def A6c(f:A3l):Nat×Fn:=(118,⟨[.ptr (.pair (.rs 5 (.int .u8)) L2)],[.val true (.pair (.int .i64) (.pair (.sl 5 (.int .u8)) (.pair A1i (.pair (.pair (.int .i64) (.rs 150 C1)) (.pair T0 (.pair (.sl 113 H2) L2))))))],fun x=>f x.1⟩)
theorem C3E{J0:A1s}{E6:L7}{A3F:A31}{B22:B1P}:EF cfg [A2C J0,N8 E6,A5m A3F,B7K B22] [] f118 (A6c (A6W J0 E6 A3F B22)):=fun _=>by kernel_rfl
theorem C3F:SQ (A6c A3m):=sF MO C6 (tc call97 A5I (tc call98 R2 (tc call167 C2S (tc call168 D5o B7)))) func118 C3E
def A5J(f:A2K):Nat×Fn:=(44,⟨[.val false (.rs 5 (.int .u8)) false],[.val true (.pair (.int .i64) (.pair (.sl 5 (.int .u8)) (.pair A1i (.pair (.pair (.int .i64) (.rs 150 C1)) (.pair T0 (.pair (.sl 113 H2) L2)))))),.val false (.rs 5 (.int .u8))],fun x=>f x.1⟩)
theorem C0J{K4:U5}{C5R:C5F}{E6:L7}{A0D:A3Q}{Q0:A4g}{S5:A5f}{A3N:B0T}{A3n:A3l}:EF cfg [A2o K4,B5N C5R,N8 E6,A8N A0D,A45 Q0,A66 S5,B8L A3N,A6c A3n] [(15,⟨[.t 5 false [.own 57344],.b 49152 [.ro 5 (.int .u8),.int .i64,.int .i64],.r 57344 5 (.int .u8)],lt 14 11 [.x 24],true⟩)] f44 (A5J (A5E K4 C5R E6 A0D Q0 S5 A3N A3n)):=fun _=>by kernel_rfl
theorem C0K:SQ (A5J A0s):=sF MO C6 (tc call45 A95 (tc call93 D2I (tc call98 R2 (tc call113 C0H (tc call114 A9m (tc call115 B5O (tc call117 D1r (tc call118 C3F B7)))))))) func44 C0J
def D6n:Nat->Option Jn:=B5T [(63,⟨[],lt 38 10 [],false⟩),(511,⟨[],lt 70 13 [],false⟩)]
abbrev A9N:List PK:= [.val false (.rs 5 (.int .u8)) false]
abbrev C6K:List RK:= [.val false .bool]
def D6o(f:C60):Nat×Fn:=(7,⟨A9N,C6K,fun x=>f x.1⟩)
def F_w_FnHostile:Fn:=(D6o B98).2
theorem D6p(D2q:D2g)(A9Q:B3n)(A0U:A4V)(B23:B18)(B4U:B3p)(A4j:B2V)(A2Q:A2K)(K4:U5)(A5n:B2h):∀ x,(E6H cfg [D9J D2q,B9J A9Q,B4D A0U,B7F B23,B9K B4U,C25 A4j,A5J A2Q,A2o K4,C2L A5n] D6n 110 [.tmp 2] (f7.body.getD .skip) A9N C6K).fn x=B97 D2q A9Q A0U B23 B4U A4j A2Q K4 A5n x.1:=by intro x;kernel_rfl
theorem D6q:A27 prog 7 F_w_FnHostile:=sm MO C6 (tc call30 F1i (tc call33 D6O (tc call36 C6G (tc call37 D5V (tc call42 D6R (tc call43 D5G (tc call44 C0K (tc call45 A95 (tc call46 D5b B7))))))))) func7 (by kernel_rfl) (by decide) (D6p D2h A4U A4W A79 A9F A4S A0s Q9 A1q)
end
end Go.Proofs.YthnfghmjipikhaaGreatDoor.Ev
