/- Each function of the program does what its plain function says. -/
import Derived.Test.YthnfghmjipikhaaGreatDoorTy
import Derived.Test.YthnfghmjipikhaaGreatDoorPu
import Derived.Test.YthnfghmjipikhaaGreatDoorIns
import Derived.Test.YthnfghmjipikhaaGreatDoorLibT
import Derived.Test.YthnfghmjipikhaaGreatDoorLibB
import Derived.Test.YthnfghmjipikhaaGreatDoorChunk
import Derived.Test.YthnfghmjipikhaaGreatDoorUnHuff
set_option linter.unusedVariables false
set_option maxRecDepth 100000
namespace Go.Proofs.YthnfghmjipikhaaGreatDoor.Ev
open Tryz
noncomputable section
abbrev A68:List PK:= [.val false (.sl 150 C8) false,.val false (.int .i64) false,.val false (.sl 150 C8) false]
abbrev A69:List RK:= [.val false (.sl 150 C8)]
def A24(f:Q0):Nat×Fn:=(194,⟨A68,A69,fun x=>f x.1 x.2.1 x.2.2.1⟩)
def A6A:Fn:=(A24 W8).2
theorem A6B:A2I prog 194 A6A:=C0e C8 (by decide)
abbrev A6v:List PK:= [.val false (.sl 150 C8) false,.val false (.int .i64) false]
abbrev A6w:List RK:= [.val false (.sl 150 C8)]
def A2f(f:R6):Nat×Fn:=(230,⟨A6v,A6w,fun x=>f x.1 x.2.1⟩)
def A70:Fn:=(A2f A0N).2
theorem A71:A2I prog 230 A70:=C30
abbrev C40:List PK:= [.val false .str false,.val false .str false]
abbrev C41:List RK:= [.val false (.sl 9 .str)]
def B0t(f:A34):Nat×Fn:=(231,⟨C40,C41,fun x=>f x.1 x.2.1⟩)
def C42:Fn:=(B0t B0l).2
theorem B7B:A2I prog 231 C42:=D2C
abbrev C7D:List PK:= [.val false .str false,.val false .str false]
abbrev C7E:List RK:= [.val false .str,.val false .str,.val false .bool]
def B9j(f:A6h):Nat×Fn:=(232,⟨C7D,C7E,fun x=>f x.1 x.2.1⟩)
def C7F:Fn:=(B9j B9b).2
theorem C7G:A2I prog 232 C7F:=D7j
abbrev C6O:List PK:= [.val false .str false]
abbrev C6P:List RK:= [.val false (.int .i64),.val false (.fnc 999999999)]
def B8V(f:A5I):Nat×Fn:=(233,⟨C6O,C6P,fun x=>f x.1⟩)
def C6Q:Fn:=(B8V B7q).2
theorem C6R:A2I prog 233 C6Q:=D4C
abbrev C6S:List PK:= [.val false (.int .i64) false]
abbrev C6T:List RK:= [.val false .str]
def A8H(f:A1p):Nat×Fn:=(142,⟨C6S,C6T,fun x=>f x.1⟩)
def C6U:Fn:=(A8H A3s).2
theorem B2H:A2I prog 142 C6U:=D4B
abbrev A7m:List PK:= [.val false (.sl 113 O8) false,.val false (.int .i64) false,.val false (.int .i64) false]
abbrev A7n:List RK:= [.val false (.sl 113 O8)]
def A0s(f:L4):Nat×Fn:=(86,⟨A7m,A7n,fun x=>f x.1 x.2.1 x.2.2.1⟩)
def A7o:Fn:=(A0s J8).2
theorem A2u:A2I prog 86 A7o:=C2w O8 (by decide)
abbrev B55:List PK:= [.val false (.sl 5 (.int .u8)) false,.val false (.int .i64) false]
abbrev B56:List RK:= [.val false (.sl 5 (.int .u8))]
def A7k(f:A21):Nat×Fn:=(153,⟨B55,B56,fun x=>f x.1 x.2.1⟩)
def B57:Fn:=(A7k A3t).2
theorem B58:A2I prog 153 B57:=C3w
def O1(f:G9):Nat×Fn:=(61,⟨[.val false (.int .i64) false,.val false (.int .i64) false,.val false (.int .i64) false],[.val false .bool],fun x=>f x.1 x.2.1 x.2.2.1⟩)
theorem D2F:EF cfg [] [] f61 (O1 C3T):=fun _=>by kernel_rfl
theorem Q6:SQ (O1 M9):=sF MO F4 D9 func61 D2F
def A4d(f:A1J):Nat×Fn:=(136,⟨[.val false (.int .i64) false],[.val false .str,.val false (.int .i64)],fun x=>f x.1⟩)
theorem C43:EF cfg [] [] f136 (A4d A75):=fun _=>by kernel_rfl
theorem B0u:SQ (A4d A2A):=sF MO F4 D9 func136 C43
def C1r(f:B4V):Nat×Fn:=(137,⟨[.val false .str false],[.val false .bool],fun x=>f x.1⟩)
theorem E0n{C2:G9}:EF cfg [O1 C2] [(3,⟨[],lt 3 30 [],false⟩),(26,⟨[.t 3 false [.int .i64]],lt 4 29 [],false⟩)] f137 (C1r (C5b C2)):=fun _=>by kernel_rfl
theorem D2G:SQ (C1r B7r):=sF MO F4 (tc call61 Q6 D9) func137 E0n
def B9H(f:B1k):Nat×Fn:=(62,⟨[.val true B0O false],[.val false .bool],fun x=>f x.1⟩)
theorem D7m{C2:G9}{N6:A1J}{A8c:B4V}:EF cfg [O1 C2,A4d N6,C1r A8c] [] f62 (B9H (C2a C2 N6 A8c)):=fun _=>by kernel_rfl
theorem C8e:SQ (B9H B4W):=sF MO F4 (tc call61 Q6 (tc call136 B0u (tc call137 D2G D9))) func62 D7m
def B6U(f:A5J):Nat×Fn:=(179,⟨[.val true C8 false],[.val false (.int .i64)],fun x=>f x.1⟩)
theorem D4F:EF cfg [] [] f179 (B6U C5c):=fun _=>by kernel_rfl
theorem C6V:SQ (B6U A9A):=sF MO F4 D9 func179 D4F
def C0f(f:B5f):Nat×Fn:=(138,⟨[.val true (.pair (.int .i64) (.rs 150 C8)) false],[.val false (.int .i64)],fun x=>f x.1⟩)
theorem D4G{A1c:A5J}:EF cfg [B6U A1c] [(58,⟨[.t 3 false [.int .i64],.t 9 false [.int .i64]],lt 10 8 [.b 5,.t 5],false⟩)] f138 (C0f (C0A A1c)):=fun _=>by kernel_rfl
theorem D4H:SQ (C0f B5g):=sF MO F4 (tc call179 C6V D9) func138 D4G
def A5U(f:A1K):Nat×Fn:=(63,⟨[.val true (.pair (.int .i64) (.rs 150 C8)) false],[.val false .bool],fun x=>f x.1⟩)
theorem D2H{C2:G9}{B6n:B5f}:EF cfg [O1 C2,C0f B6n] [] f63 (A5U (B7s C2 B6n)):=fun _=>by kernel_rfl
theorem B0c:SQ (A5U A48):=sF MO F4 (tc call61 Q6 (tc call138 D4H D9)) func63 D2H
def Q9(f:I9):Nat×Fn:=(139,⟨[.val false (.rs 150 C8) false],[.val false (.sl 150 C8)],fun x=>f x.1⟩)
theorem A6a:EF cfg [] [] f139 (Q9 A0C):=fun _=>by kernel_rfl
theorem A2L:SQ (Q9 K0):=sF MO F4 D9 func139 A6a
def A3c(f:W0):Nat×Fn:=(64,⟨[.val true (.pair (.int .i64) (.rs 150 C8)) false],[.val true A5H],fun x=>f x.1⟩)
theorem C7H{G4:I9}:EF cfg [Q9 G4] [] f64 (A3c (B3g G4)):=fun _=>by kernel_rfl
theorem A72:SQ (A3c A2c):=sF MO F4 (tc call139 A2L D9) func64 C7H
def A8I(f:A3u):Nat×Fn:=(195,⟨[.ptr A5H],[],fun x=>f x.1⟩)
theorem C6W{G4:I9}{A1c:A5J}:EF cfg [Q9 G4,B6U A1c] [(14,⟨[.t 2 false [.int .i64],.t 14 false [.int .i64]],lt 15 10 [.b 4,.t 3,.t 4,.t 35,.x 17],false⟩)] f195 (A8I (B1w G4 A1c)):=fun _=>by kernel_rfl
theorem B8W:SQ (A8I A2l):=sF MO F4 (tc call139 A2L (tc call179 C6V D9)) func195 C6W
def B02(f:A4k):Nat×Fn:=(161,⟨[.ptr A5H,.val true C8 false],[],fun x=>f x.1 x.2.1⟩)
theorem C7I{Q3:Q0}{A17:A3u}:EF cfg [A24 Q3,A8I A17] [] f161 (B02 (B3h Q3 A17)):=fun _=>by kernel_rfl
theorem B9k:SQ (B02 A3P):=sF MO F4 (tc call194 A6B (tc call195 B8W D9)) func161 C7I
def A02(f:Q1):Nat×Fn:=(208,⟨[.val false (.rs 30 (.sl 150 C8)) false],[.val false (.sl 150 C8)],fun x=>f x.1⟩)
theorem A6C{R9:R6}:EF cfg [A2f R9] [(7,⟨[.t 3 false [.int .i64]],lt 9 12 [.t 5,.t 22],true⟩),(58,⟨[.t 3 false [.int .i64],.t 11 false [.int .i64]],lt 12 9 [.t 5,.t 22],false⟩),(250,⟨[.t 6 false [.own 100002000],.t 27 false [.int .i64],.r 100002000 150 C8],lt 28 7 [.r 33,.r 102400,.t 8],false⟩)] f208 (A02 (W9 R9)):=fun _=>by kernel_rfl
theorem A6D:SQ (A02 Q2):=sF MO F4 (tc call230 A71 D9) func208 A6C
def A7F(f:A35):Nat×Fn:=(209,⟨[],[.val false (.sl 150 C8)],fun x=>f⟩)
theorem C44{A0d:A34}{A4v:A6h}:EF cfg [B0t A0d,B9j A4v] [(58,⟨[.t 1 false [.own 100000000],.t 9 false [.int .i64],.r 100000000 150 C8],lt 10 16 (lt 3 4 [.r 23,.r 24,.x 11]),false⟩)] f209 (A7F (B77 A0d A4v)):=fun _=>by kernel_rfl
theorem B7C:SQ (A7F A4W):=sF MO F4 (tc call231 B7B (tc call232 C7G D9)) func209 C44
def B03(f:A4l):Nat×Fn:=(181,⟨[.val false (.sl 5 (.int .u8)) false,.val false (.int .i64) false,.val false (.int .i64) false,.val false (.int .i64) false],[.val false (.sl 5 (.int .u8))],fun x=>f x.1 x.2.1 x.2.2.1 x.2.2.2.1⟩)
theorem C7J:EF cfg [] [(255,⟨[.t 0 false [.own 100000000],.t 3 false [.int .i64],.r 100000000 5 (.int .u8)],lt 41 11 [.r 37,.r 48,.r 49],true⟩),(1020,⟨[.t 0 false [.own 100000000],.t 3 false [.int .i64],.r 100000000 5 (.int .u8)],lt 41 11 [.r 37,.r 48,.r 49],false⟩)] f181 (B03 B3j):=fun _=>by kernel_rfl
theorem B9l:SQ (B03 A3Q):=sF MO F4 D9 func181 C7J
def C0g(f:B5h):Nat×Fn:=(182,⟨[.val false (.int .i64) false],[.val false (.int .i64),.val false (.int .i64)],fun x=>f x.1⟩)
theorem D4I:EF cfg [] [] f182 (C0g C5d):=fun _=>by kernel_rfl
theorem D4J:SQ (C0g C0B):=sF MO F4 D9 func182 D4I
def B3K(f:A7c):Nat×Fn:=(210,⟨[],[.val false (.pa 257 L3)],fun x=>f⟩)
theorem D2I{A0d:A34}{A44:A5I}:EF (cfg.withAr [(247,257,246)]) [B0t A0d,B8V A44] [(7,⟨[.r 1 247 L3],lt 7 16 [.r 32768,.t 2,.t 3,.x 12,.x 20],true⟩),(58,⟨[.t 9 false [.int .i64],.r 1 247 L3],lt 10 13 [.t 2,.t 3,.x 12,.x 20],false⟩),(250,⟨[.t 4 false [.int .i64],.t 5 false [.int .i64],.r 1 247 L3],lt 23 22 [.t 6,.x 33,.x 40],false⟩),(32038,⟨[.t 4 false [.int .i64],.t 29 false [.int .i64],.r 1 247 L3],lt 30 15 [.t 6,.x 33,.x 40],false⟩)] f210 (B3K (C3U A0d A44)):=fun _=>by kernel_rfl
theorem C3o:SQ (B3K A7d):=sF MO (A99 (l:= [(247,257,246)]) F4 ⟨tA t247 ⟨true,L3,16,[(0,1,false),(1,1,false)]⟩ underlying247,trivial⟩) (tc call231 B7B (tc call233 C6R D9)) func210 D2I
def B8a(f:B31):Nat×Fn:=(211,⟨[.val false (.pa 257 L3) false,.val false .str false],[.val false (.int .i64)],fun x=>f x.1 x.2.1⟩)
theorem D2J:EF (cfg.withAr [(247,257,246)]) [] [(7,⟨[.t 5 false [.int .i64]],lt 6 17 [],true⟩),(58,⟨[.t 5 false [.int .i64],.t 6 false [.int .i64]],lt 7 16 [],false⟩)] f211 (B8a B7t):=fun _=>by kernel_rfl
theorem D2K:SQ (B8a B32):=sF MO (A99 (l:= [(247,257,246)]) F4 ⟨tA t247 ⟨true,L3,16,[(0,1,false),(1,1,false)]⟩ underlying247,trivial⟩) D9 func211 D2J
def C1s(f:B4a):Nat×Fn:=(212,⟨[.val false (.pa 257 L3) false,.val false (.sl 5 (.int .u8)) false,.val false .str false],[.val false (.sl 5 (.int .u8))],fun x=>f x.1 x.2.1 x.2.2.1⟩)
theorem E0o:EF (cfg.withAr [(247,257,246)]) [] [(7,⟨[.t 1 false [.own 100000001],.t 7 false [.int .i64],.t 8 false [.int .i64],.r 100000001 5 (.int .u8)],lt 12 43 [.b 10,.r 47,.r 48,.r 1100,.r 100001000,.t 9,.t 10],true⟩),(58,⟨[.t 1 false [.own 100000001],.t 7 false [.int .i64],.t 8 false [.int .i64],.t 9 false [.int .i64],.r 100000001 5 (.int .u8)],lt 12 43 [.b 10,.r 47,.r 48,.r 1100,.r 100001000,.t 10],false⟩),(14926,⟨[.t 1 false [.own 100001000],.t 7 false [.int .i64],.t 8 false [.int .i64],.r 100001000 5 (.int .u8)],lt 37 18 [.r 47,.r 48,.r 1100,.r 100000001],false⟩)] f212 (C1s C5f):=fun _=>by kernel_rfl
theorem D2L:SQ (C1s B7u):=sF MO (A99 (l:= [(247,257,246)]) F4 ⟨tA t247 ⟨true,L3,16,[(0,1,false),(1,1,false)]⟩ underlying247,trivial⟩) D9 func212 E0o
def B44(f:A9o):Nat×Fn:=(183,⟨[.val false (.sl 5 (.int .u8)) false,.val false .str false],[.val false (.sl 5 (.int .u8))],fun x=>f x.1 x.2.1⟩)
theorem C7K{A0S:A4l}{A3I:A7c}{B3M:B31}{A8d:B4a}:EF cfg [B03 A0S,B3K A3I,B8a B3M,C1s A8d] [] f183 (B44 (B3k A0S A3I B3M A8d)):=fun _=>by kernel_rfl
theorem C7L:SQ (B44 A6k):=sF MO F4 (tc call181 B9l (tc call210 C3o (tc call211 D2K (tc call212 D2L D9)))) func183 C7K
def A30(f:A9m):Nat×Fn:=(180,⟨[.val true (.pair (.int .i64) (.rs 150 C8)) false,.val true C8 false],[.val false (.int .i64),.val false .bool],fun x=>f x.1 x.2.1⟩)
theorem B2e{Q4:Q1}{A0e:A35}:EF (cfgR.withEq [(150,1002)]) [A02 Q4,A7F A0e] [(7,⟨[.t 6 false [.int .i64]],lt 25 12 (lt 7 16 [.b 8,.r 12,.r 40960,.r 57344,.x 18]),false⟩),(58,⟨[.t 6 false [.int .i64],.t 15 false [.int .i64]],lt 25 12 (lt 16 7 [.b 8,.t 7,.t 8,.x 18]),false⟩)] f180 (A30 (B3i Q4 A0e)):=fun _=>by kernel_rfl
theorem B2f:SQ (A30 A9n):=sF MO (C2W (l:= [(150,1002)]) E2G ⟨E2j,trivial⟩) (tc call208 A6D (tc call209 B7C D9)) func180 B2e
def B45(f:A6l):Nat×Fn:=(140,⟨[.ptr A5H,.val false (.sl 5 (.int .u8)) false,.val true C8 false,.val false (.int .i64) false],[.val false (.sl 5 (.int .u8))],fun x=>f x.1 x.2.1 x.2.2.1 x.2.2.2.1⟩)
theorem C7M{A1h:A4k}{B09:A9m}{A0S:A4l}{B6o:B5h}{A73:A9o}:EF cfg [B02 A1h,A30 B09,B03 A0S,C0g B6o,B44 A73] [(7,⟨[],lt 21 5 [],false⟩),(63,⟨[.t 1 false [.own 100001000],.r 100001000 5 (.int .u8)],lt 39 6 [.r 159744,.r 184320],true⟩)] f140 (B45 (B3l A1h B09 A0S B6o A73)):=fun _=>by kernel_rfl
theorem C7N:SQ (B45 A3R):=sF MO F4 (tc call161 B9k (tc call180 B2f (tc call181 B9l (tc call182 D4J (tc call183 C7L D9))))) func140 C7M
def B04(f:A4o):Nat×Fn:=(65,⟨[.val true (.pair (.int .i64) (.rs 150 C8)) false,.val false (.rs 150 C8) false],[.val false (.sl 5 (.int .u8)),.val true A5H],fun x=>f x.1 x.2.1⟩)
theorem C7O{K4:A1K}{H5:W0}{A3d:A6l}:EF cfg [A5U K4,A3c H5,B45 A3d] [(31,⟨[.t 7 false [.own 100000001],.b 6 [.int .i64,.own 100000000],.r 100000000 150 C8,.r 100000001 5 (.int .u8)],lt 17 14 [.b 9,.r 53249,.r 122880,.r 124929,.t 9,.t 10],true⟩),(250,⟨[.t 7 false [.own 100000001],.t 19 false [.int .i64],.b 6 [.int .i64,.own 100000000],.r 100000000 150 C8,.r 100000001 5 (.int .u8)],lt 20 11 [.b 9,.r 53249,.r 122880,.r 124929,.t 9,.t 10],false⟩)] f65 (B04 (B3m K4 H5 A3d)):=fun _=>by kernel_rfl
theorem B9m:SQ (B04 A6m):=sF MO F4 (tc call63 B0c (tc call64 A72 (tc call140 C7N D9))) func65 C7O
def B1U(f:A4H):Nat×Fn:=(141,⟨[.val false (.int .i64) false],[.val false .str],fun x=>f x.1⟩)
theorem C9t:EF (cfg.withAr [(211,6,9)]) [] [] f141 (B1U B5j):=fun _=>by kernel_rfl
theorem C1t:SQ (B1U A0W):=sF MO (A99 (l:= [(211,6,9)]) F4 ⟨tA t211 ⟨false,.str,16,[]⟩ underlying211,trivial⟩) D9 func141 C9t
def B6V(f:B1I):Nat×Fn:=(66,⟨[.val true B0O false],[.val false (.sl 150 C8)],fun x=>f x.1⟩)
theorem C9u{A6G:B1k}{N6:A1J}{A18:A4H}{N7:A1p}:EF cfg [B9H A6G,A4d N6,B1U A18,A8H N7] [] f66 (B6V (B5k A6G N6 A18 N7)):=fun _=>by kernel_rfl
theorem C9v:SQ (B6V B1J):=sF MO F4 (tc call62 C8e (tc call136 B0u (tc call141 C1t (tc call142 B2H D9)))) func66 C9u
def B6W(f:A9B):Nat×Fn:=(145,⟨[.val false (.sl 5 (.int .u8)) false,.val false (.int .i64) false,.val false (.int .i64) false],[.val false (.sl 5 (.int .u8))],fun x=>f x.1 x.2.1 x.2.2.1⟩)
theorem D4K:EF cfg [] [(58,⟨[.t 0 false [.own 100000000],.t 7 false [.int .i64],.r 100000000 5 (.int .u8)],lt 12 13 [.r 23,.r 24,.r 1000],false⟩)] f145 (B6W C0C):=fun _=>by kernel_rfl
theorem C6a:SQ (B6W B20):=sF MO F4 D9 func145 D4K
def A4N(f:U4):Nat×Fn:=(69,⟨[.val false (.sl 5 (.int .u8)) false,.val true (.pair (.int .i64) (.pair (.int .i64) (.pair (.int .i64) (.rs 5 (.int .u8))))) false],[.val false (.sl 5 (.int .u8))],fun x=>f x.1 x.2.1⟩)
theorem C9w{A2q:A9B}:EF cfg [B6W A2q] [] f69 (A4N (B5m A2q)):=fun _=>by kernel_rfl
theorem A8J:SQ (A4N U5):=sF MO F4 (tc call145 C6a D9) func69 C9w
def B05(f:A4p):Nat×Fn:=(67,⟨[.val false (.sl 5 (.int .u8)) false,.val false (.rs 82 W7) false],[.val false (.sl 5 (.int .u8))],fun x=>f x.1 x.2.1⟩)
theorem C7P{I3:U4}:EF cfg [A4N I3] [(26,⟨[.t 0 false [.own 100000000],.t 9 false [.int .i64],.r 100000000 5 (.int .u8)],lt 10 7 [.b 6,.r 1000,.r 65536,.t 6],false⟩)] f67 (B05 (B3n I3)):=fun _=>by kernel_rfl
theorem B9n:SQ (B05 A6n):=sF MO F4 (tc call69 A8J D9) func67 C7P
def J9(f:F3):Nat×Fn:=(144,⟨[.val false (.rs 5 (.int .u8)) false],[.val false (.sl 5 (.int .u8))],fun x=>f x.1⟩)
theorem B46:EF cfg [] [] f144 (J9 A1f):=fun _=>by kernel_rfl
theorem N0:SQ (J9 G2):=sF MO F4 D9 func144 B46
def C1u(f:B4b):Nat×Fn:=(68,⟨[.val false (.int .i64) false,.val false .bool false,.val false (.rs 5 (.int .u8)) false,.val false (.int .i64) false],[.val false (.sl 82 W7)],fun x=>f x.1 x.2.1 x.2.2.1 x.2.2.2.1⟩)
theorem E0p{C2:G9}{B7:F3}:EF (cfg.withCk 143 185) [O1 C2,J9 B7] [(31,⟨[.b 9 [.own 20],.r 20 82 W7],lt 21 4 [.x 23],true⟩),(63,⟨[.b 9 [.own 100001000],.r 100001000 82 W7],lt 25 30 [.r 20,.r 43,.r 44,.r 217088,.t 10,.t 11,.x 33,.x 49],true⟩),(506,⟨[.b 9 [.own 100001000],.r 100001000 82 W7],lt 28 27 [.r 20,.r 43,.r 44,.r 217088,.t 10,.t 11,.x 33,.x 49],false⟩)] f68 (C1u (C5g C2 B7)):=fun _=>by kernel_rfl
theorem D2M:SQ (C1u B7v):=sF MO (D6u F4 (fun args w=>call143 args w) E2I) (tc call61 Q6 (tc call144 N0 D9)) func68 E0p
def B8b(f:B33):Nat×Fn:=(15,⟨[.val true (.pair (.int .i64) (.rs 150 C8)) false,.val false (.int .i64) false,.val true B0O false,.val false (.rs 5 (.int .u8)) false,.val false (.int .i64) false],[.val false (.sl 5 (.int .u8)),.val true A5H],fun x=>f x.1 x.2.1 x.2.2.1 x.2.2.2.1 x.2.2.2.2.1⟩)
theorem D2N{C2:G9}{A6G:B1k}{K4:A1K}{H5:W0}{A1i:A4o}{B1e:B1I}{A1j:A4p}{A8e:B4b}{I3:U4}:EF cfg [O1 C2,B9H A6G,A5U K4,A3c H5,B04 A1i,B6V B1e,B05 A1j,C1u A8e,A4N I3] [(3,⟨[],lt 17 13 [],false⟩),(63,⟨[.t 14 false [.own 100001000],.r 100001000 5 (.int .u8)],lt 50 22 [.b 16,.r 204800,.r 294912,.t 3,.t 15,.t 16],true⟩),(252,⟨[.t 3 false [.ro 5 (.int .u8)],.t 14 false [.own 100001000],.r 100001000 5 (.int .u8)],lt 50 22 [.b 16,.r 204800,.r 294912,.t 15,.t 16],false⟩)] f15 (B8b (B7w C2 A6G K4 H5 A1i B1e A1j A8e I3)):=fun _=>by kernel_rfl
theorem D2O:SQ (B8b A7e):=sF MO F4 (tc call61 Q6 (tc call62 C8e (tc call63 B0c (tc call64 A72 (tc call65 B9m (tc call66 C9v (tc call67 B9n (tc call68 D2M (tc call69 A8J D9))))))))) func15 D2N
def B6a(f:A9C):Nat×Fn:=(155,⟨[.val false (.rs 5 (.int .u8)) false,.val false (.int .i64) false,.val false (.int .i64) false],[.val false (.int .i64),.val false .bool],fun x=>f x.1 x.2.1 x.2.2.1⟩)
theorem D4L{C2:G9}:EF cfg [O1 C2] [(3,⟨[],lt 11 15 [],false⟩),(15,⟨[.t 8 false [.int .i64]],lt 26 17 [.t 10],true⟩),(122,⟨[.t 8 false [.int .i64],.t 33 false [.int .i64]],lt 34 9 [.t 10],false⟩)] f155 (B6a (C0D C2)):=fun _=>by kernel_rfl
theorem C6b:SQ (B6a A9D):=sF MO F4 (tc call61 Q6 D9) func155 D4L
def A8K(f:A1g):Nat×Fn:=(103,⟨[.val false (.rs 5 (.int .u8)) false,.val false (.int .i64) false],[.val true W7,.val false (.int .i64),.val false (.int .i64)],fun x=>f x.1 x.2.1⟩)
theorem D00{B7:F3}{A3e:A9C}:EF cfg [J9 B7,B6a A3e] [(3,⟨[],lt 13 9 [],false⟩)] f103 (A8K (B5o B7 A3e)):=fun _=>by kernel_rfl
theorem B6b:SQ (A8K A3C):=sF MO F4 (tc call144 N0 (tc call155 C6b D9)) func103 D00
def B1V(f:A5m):Nat×Fn:=(104,⟨[.val true (.pair (.int .i64) (.pair .bool (.rs 5 (.int .u8)))) false],[.val false .bool],fun x=>f x.1⟩)
theorem D01{C2:G9}:EF cfg [O1 C2] [] f104 (B1V (B5p C2)):=fun _=>by kernel_rfl
theorem C1v:SQ (B1V A7v):=sF MO F4 (tc call61 Q6 D9) func104 D01
def C0h(f:B5q):Nat×Fn:=(116,⟨[.val true (.pair (.int .i64) (.pair (.rs 5 (.int .u8)) (.pair (.pair (.int .i64) (.pair .bool (.rs 5 (.int .u8)))) (.pair (.pair (.int .i64) (.rs 150 C8)) (.pair (.pair (.int .i64) (.rs 150 C8)) (.pair (.rs 113 O8) L3)))))) false],[.val false .bool],fun x=>f x.1⟩)
theorem D4M{C2:G9}:EF cfg [O1 C2] [(3,⟨[],lt 3 53 [.b 4],false⟩),(26,⟨[.t 8 false [.int .i64]],lt 9 47 [.b 4,.t 3,.t 4],false⟩),(1689,⟨[],lt 13 28 [],false⟩)] f116 (C0h (C0E C2)):=fun _=>by kernel_rfl
theorem D4N:SQ (C0h B5r):=sF MO F4 (tc call61 Q6 D9) func116 D4M
def B6c(f:A9E):Nat×Fn:=(43,⟨[.val true (.pair (.int .i64) (.pair (.rs 5 (.int .u8)) (.pair (.pair (.int .i64) (.pair .bool (.rs 5 (.int .u8)))) (.pair (.pair (.int .i64) (.rs 150 C8)) (.pair (.pair (.int .i64) (.rs 150 C8)) (.pair (.rs 113 O8) L3)))))) false],[.val false .bool],fun x=>f x.1⟩)
theorem D4O{C2:G9}{K4:A1K}{N9:A1g}{A2T:A5m}{B6p:B5q}:EF cfg [O1 C2,A5U K4,A8K N9,B1V A2T,C0h B6p] [(3,⟨[],lt 6 27 [],false⟩),(7,⟨[],lt 33 16 [],false⟩),(15,⟨[],lt 49 31 [],false⟩)] f43 (B6c (C0F C2 K4 N9 A2T B6p)):=fun _=>by kernel_rfl
theorem C6c:SQ (B6c B21):=sF MO F4 (tc call61 Q6 (tc call63 B0c (tc call103 B6b (tc call104 C1v (tc call116 D4N D9))))) func43 D4O
def A8L(f:A3v):Nat×Fn:=(107,⟨[.val true (.pair (.int .i64) (.pair .bool (.rs 5 (.int .u8)))) false],[.val true C4V],fun x=>f x.1⟩)
theorem C6d{B7:F3}:EF cfg [J9 B7] [] f107 (A8L (B22 B7)):=fun _=>by kernel_rfl
theorem B8c:SQ (A8L A5K):=sF MO F4 (tc call144 N0 D9) func107 C6d
def B1W(f:A5n):Nat×Fn:=(82,⟨[.val true (.pair (.int .i64) (.pair (.rs 5 (.int .u8)) (.pair (.pair (.int .i64) (.pair .bool (.rs 5 (.int .u8)))) (.pair (.pair (.int .i64) (.rs 150 C8)) (.pair (.pair (.int .i64) (.rs 150 C8)) (.pair (.rs 113 O8) L3)))))) false],[.val true C5a],fun x=>f x.1⟩)
theorem D02{H5:W0}{T1:A3v}{B7:F3}:EF cfg [A3c H5,A8L T1,J9 B7] [(1018,⟨[.t 27 false [.int .i64],.b 3 [.int .i64,.own 40960,.int .i64,.bool,.own 57346,.int .i64,.own 73729,.int .i64,.own 86017,.own 100000000,.int .i64,.int .i64],.r 40960 5 (.int .u8),.r 57346 5 (.int .u8),.r 73729 150 C8,.r 86017 150 C8,.r 100000000 113 O8],lt 28 14 [.b 5,.r 38,.r 39,.r 139264,.t 5],false⟩)] f82 (B1W (B5s H5 T1 B7)):=fun _=>by kernel_rfl
theorem C1w:SQ (B1W A80):=sF MO F4 (tc call64 A72 (tc call107 B8c (tc call144 N0 D9))) func82 D02
def A8M(f:A0v):Nat×Fn:=(83,⟨[.ptr C5a,.val false (.int .i64) false],[.val false (.int .i64),.val false .bool],fun x=>f x.1 x.2.1⟩)
theorem D03:EF cfg [] [(7,⟨[.t 6 false [.int .i64]],lt 7 21 [.x 20],true⟩),(28,⟨[.t 6 false [.int .i64]],lt 7 21 [.x 20],false⟩)] f83 (A8M B1L):=fun _=>by kernel_rfl
theorem B6d:SQ (A8M A2M):=sF MO F4 D9 func83 D03
def B2I(f:A5L):Nat×Fn:=(84,⟨[.val true L3 false],[.val false .bool],fun x=>f x.1⟩)
theorem D4P{C2:G9}:EF cfg [O1 C2] [] f84 (B2I (C0G C2)):=fun _=>by kernel_rfl
theorem C0i:SQ (B2I A9F):=sF MO F4 (tc call61 Q6 D9) func84 D4P
def A8N(f:A3w):Nat×Fn:=(85,⟨[.val true L3 false],[.val false (.sl 150 C8)],fun x=>f x.1⟩)
theorem C6e{A19:A5L}{N7:A1p}:EF cfg [B2I A19,A8H N7] [] f85 (A8N (B23 A19 N7)):=fun _=>by kernel_rfl
theorem B8d:SQ (A8N A5M):=sF MO F4 (tc call84 C0i (tc call142 B2H D9)) func85 C6e
def A03(f:A0v):Nat×Fn:=(83,⟨[.ptr (.pair (.int .i64) (.pair (.rs 5 (.int .u8)) (.pair (.pair (.int .i64) (.pair .bool (.rs 5 (.int .u8)))) (.pair (.pair (.int .i64) (.rs 150 C8)) (.pair (.pair (.int .i64) (.rs 150 C8)) (.pair (.rs 113 O8) L3)))))),.val false (.int .i64) false],[.val false (.int .i64),.val false .bool],fun x=>f x.1 x.2.1⟩)
theorem A6E:EF cfg [] [(7,⟨[.t 6 false [.int .i64]],lt 7 21 [],true⟩),(28,⟨[.t 6 false [.int .i64]],lt 7 21 [],false⟩)] f83 (A03 B1L):=fun _=>by kernel_rfl
theorem A6F:SQ (A03 A2M):=sF MO F4 D9 func83 A6E
def B2J(f:A82):Nat×Fn:=(26,⟨[.val true (.pair (.int .i64) (.pair (.rs 5 (.int .u8)) (.pair (.pair (.int .i64) (.pair .bool (.rs 5 (.int .u8)))) (.pair (.pair (.int .i64) (.rs 150 C8)) (.pair (.pair (.int .i64) (.rs 150 C8)) (.pair (.rs 113 O8) L3)))))) false,.val false (.int .i64) false,.val true L3 false],[.val true C5a,.val false (.sl 5 (.int .u8)),.val false .bool],fun x=>f x.1 x.2.1 x.2.2.1⟩)
theorem C6f{A4Q:A9E}{A1i:A4o}{A1j:A4p}{A8e:B4b}{A2U:A5n}{M8:A0v}{A19:A5L}{A1A:A3w}{I1:L4}:EF cfg [B6c A4Q,B04 A1i,B05 A1j,C1u A8e,B1W A2U,A03 M8,B2I A19,A8N A1A,A0s I1] [(15,⟨[],lt 21 26 [],false⟩)] f26 (B2J (A83 A4Q A1i A1j A8e A2U M8 A19 A1A I1)):=fun _=>by kernel_rfl
theorem C6g:SQ (B2J A1q):=sF MO F4 (tc call43 C6c (tc call65 B9m (tc call67 B9n (tc call68 D2M (tc call82 C1w (tc call83 A6F (tc call84 C0i (tc call85 B8d (tc call86 A2u D9))))))))) func26 C6f
def D04(f:C4W):Nat×Fn:=(30,⟨[.val false (.rs 5 (.int .u8)) false],[.val false .bool],fun x=>f x.1⟩)
theorem E2K:EF cfg [] [] f30 (D04 C9E):=fun _=>by kernel_rfl
theorem E2L:SQ (D04 C4a):=sF MO F4 D9 func30 E2K
def B8e(f:B34):Nat×Fn:=(128,⟨[.val false (.int .i64) false],[.val false (.int .i64)],fun x=>f x.1⟩)
theorem D2P:EF cfg [] [] f128 (B8e B82):=fun _=>by kernel_rfl
theorem D2Q:SQ (B8e B35):=sF MO F4 D9 func128 D2P
def B8f(f:B39):Nat×Fn:=(156,⟨[.val true (.pair (.int .i64) (.pair (.int .i64) (.pair (.int .i64) (.rs 5 (.int .u8))))) false],[.val false .bool],fun x=>f x.1⟩)
theorem D2R{C2:G9}:EF cfg [O1 C2] [] f156 (B8f (A5N C2)):=fun _=>by kernel_rfl
theorem D2S:SQ (B8f A1r):=sF MO F4 (tc call61 Q6 D9) func156 D2R
def A2g(f:R7):Nat×Fn:=(109,⟨[.val true (.pair (.int .i64) (.pair (.int .i64) (.pair (.int .i64) (.rs 5 (.int .u8))))) false,.val false (.int .i64) false],[.val false .bool],fun x=>f x.1 x.2.1⟩)
theorem C7Q:EF cfg [] [] f109 (A2g B9c):=fun _=>by kernel_rfl
theorem A4u:SQ (A2g A2e):=sF MO F4 D9 func109 C7Q
def C0j(f:B60):Nat×Fn:=(157,⟨[.val true (.pair (.int .i64) (.pair (.int .i64) (.pair (.int .i64) (.rs 5 (.int .u8))))) false],[.val false .bool],fun x=>f x.1⟩)
theorem D4Q{H0:R7}:EF cfg [A2g H0] [(235,⟨[.t 13 false [.bool]],[.t 14,.t 15],true⟩)] f157 (C0j (A7L H0)):=fun _=>by kernel_rfl
theorem D4R:SQ (C0j A2m):=sF MO F4 (tc call109 A4u D9) func157 D4Q
def B06(f:A4q):Nat×Fn:=(105,⟨[.val true (.pair (.int .i64) (.pair (.int .i64) (.pair (.int .i64) (.rs 5 (.int .u8))))) false],[.val false (.int .i64)],fun x=>f x.1⟩)
theorem C7R{B3P:B39}{B6s:B60}:EF cfg [B8f B3P,C0j B6s] [(3,⟨[],lt 3 8 [],false⟩),(58,⟨[.t 13 false [.bool]],lt 14 6 [],true⟩)] f105 (B06 (A3S B3P B6s)):=fun _=>by kernel_rfl
theorem B9o:SQ (B06 R8):=sF MO F4 (tc call156 D2S (tc call157 D4R D9)) func105 C7R
def B47(f:A9p):Nat×Fn:=(106,⟨[.val true (.pair (.int .i64) (.pair .bool (.rs 5 (.int .u8)))) false,.val true (.pair (.int .i64) (.pair (.int .i64) (.pair (.int .i64) (.rs 5 (.int .u8))))) false],[.val false .bool],fun x=>f x.1 x.2.1⟩)
theorem C7S:EF cfg [] [] f106 (B47 B3o):=fun _=>by kernel_rfl
theorem C7T:SQ (B47 A9q):=sF MO F4 D9 func106 C7S
def B9I(f:B1n):Nat×Fn:=(108,⟨[.val true (.pair (.int .i64) (.pair (.int .i64) (.pair (.int .i64) (.rs 5 (.int .u8))))) false],[.val false (.sl 5 (.int .u8)),.val false .bool],fun x=>f x.1⟩)
theorem D7n{H0:R7}{B7:F3}:EF cfg [A2g H0,J9 B7] [(7,⟨[.t 4 false [.ro 5 (.int .u8)],.t 5 false [.int .i64]],lt 9 11 [],false⟩),(31,⟨[.t 6 false [.int .i64]],lt 20 7 [],true⟩)] f108 (B9I (C2e H0 B7)):=fun _=>by kernel_rfl
theorem C8f:SQ (B9I B4d):=sF MO F4 (tc call109 A4u (tc call144 N0 D9)) func108 D7n
def C20(f:B4e):Nat×Fn:=(38,⟨[.val true (.pair (.int .i64) (.pair .bool (.rs 5 (.int .u8)))) false,.val true (.pair (.int .i64) (.pair (.int .i64) (.pair (.int .i64) (.rs 5 (.int .u8))))) false],[.val true C4V,.val false (.sl 5 (.int .u8)),.val false (.int .i64)],fun x=>f x.1 x.2.1⟩)
theorem E0q{A2T:A5m}{A1k:A4q}{B0A:A9p}{T1:A3v}{A6I:B1n}{H0:R7}:EF cfg [B1V A2T,B06 A1k,B47 B0A,A8L T1,B9I A6I,A2g H0] [(3,⟨[],lt 10 14 [],false⟩),(6,⟨[.t 23 false [.bool]],lt 10 13 [],true⟩),(15,⟨[.b 7 [.int .i64,.bool,.own 100002000],.r 100002000 5 (.int .u8)],lt 42 14 (lt 31 9 [.r 54,.r 114690,.r 147456,.t 8,.t 9,.t 28,.t 29]),false⟩)] f38 (C20 (C5h A2T A1k B0A T1 A6I H0)):=fun _=>by kernel_rfl
theorem D2T:SQ (C20 B4f):=sF MO F4 (tc call104 C1v (tc call105 B9o (tc call106 C7T (tc call107 B8c (tc call108 C8f (tc call109 A4u D9)))))) func38 E0q
def B2K(f:A84):Nat×Fn:=(217,⟨[.val false (.int .i64) false],[.val true C8,.val false .bool],fun x=>f x.1⟩)
theorem C6h{C2:G9}{A0e:A35}:EF cfg [O1 C2,A7F A0e] [] f217 (B2K (B24 C2 A0e)):=fun _=>by kernel_rfl
theorem C6i:SQ (B2K B25):=sF MO F4 (tc call61 Q6 (tc call209 B7C D9)) func217 C6h
def B8g(f:B3A):Nat×Fn:=(191,⟨[.val true (.pair (.int .i64) (.rs 150 C8)) false,.val false (.int .i64) false],[.val true C8,.val false .bool],fun x=>f x.1 x.2.1⟩)
theorem D2U{A8f:A84}:EF cfg [B2K A8f] [] f191 (B8g (B85 A8f)):=fun _=>by kernel_rfl
theorem D2V:SQ (B8g B3B):=sF MO F4 (tc call217 C6i D9) func191 D2U
def B07(f:A4r):Nat×Fn:=(192,⟨[.val false (.rs 5 (.int .u8)) false,.val false (.int .i64) false,.val false (.int .i64) false],[.val false (.int .i64),.val false (.int .i64),.val false .bool],fun x=>f x.1 x.2.1 x.2.2.1⟩)
theorem C7U{C2:G9}:EF cfg [O1 C2] [(3,⟨[],lt 13 11 [],false⟩),(127,⟨[],lt 42 27 (lt 10 3 [.t 1]),false⟩),(1018,⟨[.t 1 false [.int .i64],.t 10 false [.int .i64],.t 11 false [.int .i64]],lt 42 27 [.t 12],false⟩),(2036,⟨[],lt 42 8 [],false⟩)] f192 (B07 (B3p C2)):=fun _=>by kernel_rfl
theorem B9p:SQ (B07 A6o):=sF MO F4 (tc call61 Q6 D9) func192 C7U
def D4S:Nat->Option Jn:=B17 [(63,⟨[.t 8 false [.own 100000001],.r 100000001 5 (.int .u8)],lt 71 8 (lt 28 41 (lt 11 4 [.b 9,.r 75,.r 76,.r 100001000])),false⟩),(506,⟨[.t 8 false [.own 100000001],.t 30 false [.int .i64],.b 9 [.int .i64,.int .i64],.r 100000001 5 (.int .u8)],lt 71 8 (lt 31 38 (lt 11 4 [.r 75,.r 76,.r 100001000])),false⟩),(129638,⟨[.t 8 false [.own 100001000],.t 12 false [.int .i64],.b 9 [.int .i64,.int .i64],.r 100001000 5 (.int .u8)],lt 71 7 (lt 34 35 [.r 75,.r 76,.r 100000001,.t 13,.t 14]),false⟩),(16593703,⟨[],lt 59 10 [],false⟩)]
abbrev D4T:List PK:= [.val false (.pa 257 L3) false,.val false (.rs 5 (.int .u8)) false]
abbrev D4U:List RK:= [.val false .str]
def C6j(f:B61):Nat×Fn:=(265,⟨D4T,D4U,fun x=>f x.1 x.2.1⟩)
def D4V:Fn:=(C6j B62).2
theorem D4W:∀ x,E3i D4S x=C0K x.1 x.2.1:=by intro x;kernel_rfl
theorem D4a:A2I prog 265 D4V:=E0m D4W
def B48(f:A9r):Nat×Fn:=(266,⟨[.val false (.rs 5 (.int .u8)) false,.val false (.rs 5 (.int .u8)) false],[.val false .bool],fun x=>f x.1 x.2.1⟩)
theorem C7V:EF cfg [] [] f266 (B48 B3q):=fun _=>by kernel_rfl
theorem C7W:SQ (B48 B3r):=sF MO F4 D9 func266 C7V
def C0k(f:B63):Nat×Fn:=(242,⟨[.val false (.rs 5 (.int .u8)) false],[.val false .str,.val false .bool],fun x=>f x.1⟩)
theorem D4b{A3I:A7c}{A8d:B4a}{B6t:B61}{B0B:A9r}:EF cfg [B3K A3I,C1s A8d,C6j B6t,B48 B0B] [] f242 (C0k (C0L A3I A8d B6t B0B)):=fun _=>by kernel_rfl
theorem D4c:SQ (C0k B64):=sF MO F4 (tc call210 C3o (tc call212 D2L (tc call265 D4a (tc call266 C7W D9)))) func242 D4b
def B49(f:A9s):Nat×Fn:=(218,⟨[.val false (.rs 5 (.int .u8)) false,.val false (.int .i64) false],[.val false .str,.val false (.int .i64),.val false .bool],fun x=>f x.1 x.2.1⟩)
theorem C7a{A1l:A4r}{B6u:B63}:EF cfg [B07 A1l,C0k B6u] [(7,⟨[],lt 19 14 [],false⟩)] f218 (B49 (B3s A1l B6u)):=fun _=>by kernel_rfl
theorem C7b:SQ (B49 A9t):=sF MO F4 (tc call192 B9p (tc call242 D4c D9)) func218 C7a
def C0l(f:B65):Nat×Fn:=(196,⟨[.val true (.pair (.int .i64) (.rs 150 C8)) false,.val false (.int .i64) false],[.val true A5H],fun x=>f x.1 x.2.1⟩)
theorem D4d{C2:G9}{K4:A1K}{H5:W0}{A17:A3u}:EF cfg [O1 C2,A5U K4,A3c H5,A8I A17] [(7,⟨[],lt 8 8 [],false⟩)] f196 (C0l (C0M C2 K4 H5 A17)):=fun _=>by kernel_rfl
theorem D4e:SQ (C0l B66):=sF MO F4 (tc call61 Q6 (tc call63 B0c (tc call64 A72 (tc call195 B8W D9)))) func196 D4d
def P1(f:K2):Nat×Fn:=(163,⟨[.ptr (.pair (.rs 5 (.int .u8)) (.pair (.int .i64) (.pair (.int .i64) (.pair A5H (.sl 150 C8))))),.val false (.int .i64) false],[],fun x=>f x.1 x.2.1⟩)
theorem B2g:EF cfg [] [] f163 (P1 V6):=fun _=>by kernel_rfl
theorem A0B:SQ (P1 K3):=sF MO F4 D9 func163 B2g
def U9(f:P5):Nat×Fn:=(159,⟨[.ptr (.pair (.rs 5 (.int .u8)) (.pair (.int .i64) (.pair (.int .i64) (.pair A5H (.sl 150 C8))))),.val false (.int .i64) false],[.val false (.int .i64)],fun x=>f x.1 x.2.1⟩)
theorem B1a{F0:K2}{A1l:A4r}:EF cfg [P1 F0,B07 A1l] [] f159 (U9 (A4I F0 A1l)):=fun _=>by kernel_rfl
theorem A2R:SQ (U9 A00):=sF MO F4 (tc call163 A0B (tc call192 B9p D9)) func159 B1a
def A14(f:A0K):Nat×Fn:=(158,⟨[.ptr (.pair (.rs 5 (.int .u8)) (.pair (.int .i64) (.pair (.int .i64) (.pair A5H (.sl 150 C8))))),.val false (.int .i64) false],[.val true C8],fun x=>f x.1 x.2.1⟩)
theorem B2L{F0:K2}{B3Q:B3A}:EF cfg [P1 F0,B8g B3Q] [] f158 (A14 (A52 F0 B3Q)):=fun _=>by kernel_rfl
theorem A5V:SQ (A14 U1):=sF MO F4 (tc call163 A0B (tc call191 D2V D9)) func158 B2L
def A31(f:A3D):Nat×Fn:=(193,⟨[.ptr (.pair (.rs 5 (.int .u8)) (.pair (.int .i64) (.pair (.int .i64) (.pair A5H (.sl 150 C8)))))],[.val false .str],fun x=>f x.1⟩)
theorem B2h{F0:K2}{B0C:A9s}:EF cfg [P1 F0,B49 B0C] [] f193 (A31 (A3E F0 B0C)):=fun _=>by kernel_rfl
theorem B2i:SQ (A31 A0k):=sF MO F4 (tc call163 A0B (tc call218 C7b D9)) func193 B2h
def A2F(f:A0a):Nat×Fn:=(160,⟨[.ptr (.pair (.rs 5 (.int .u8)) (.pair (.int .i64) (.pair (.int .i64) (.pair A5H (.sl 150 C8))))),.val false (.int .i64) false],[.val true C8],fun x=>f x.1 x.2.1⟩)
theorem B0v{O0:A0K}{I4:P5}{A1s:A3D}:EF cfg [A14 O0,U9 I4,A31 A1s] [(15,⟨[.b 6 [.str,.str],.b 1000 [.ro 5 (.int .u8),.int .i64,.int .i64,.int .i64,.own 100000000,.own 100000001],.r 100000000 150 C8,.r 100000001 150 C8],lt 22 6 (lt 10 11 [.r 43012,.r 43013,.r 55300,.r 55301,.r 112644,.r 112645]),false⟩)] f160 (A2F (A2B O0 I4 A1s)):=fun _=>by kernel_rfl
theorem B0w:SQ (A2F A0b):=sF MO F4 (tc call158 A5V (tc call159 A2R (tc call193 B2i D9))) func160 B0v
def A2S(f:A0n):Nat×Fn:=(162,⟨[.ptr (.pair (.rs 5 (.int .u8)) (.pair (.int .i64) (.pair (.int .i64) (.pair A5H (.sl 150 C8))))),.val false (.int .i64) false],[],fun x=>f x.1 x.2.1⟩)
theorem B1b{I4:P5}{F0:K2}{B6v:B65}:EF cfg [U9 I4,P1 F0,C0l B6v] [(3,⟨[.b 1000 [.ro 5 (.int .u8),.int .i64,.int .i64,.int .i64,.own 100000000,.own 100000001],.r 100000000 150 C8,.r 100000001 150 C8],lt 7 13 [.r 30724,.r 30725,.r 83972,.r 83973],true⟩)] f162 (A2S (A2N I4 F0 B6v)):=fun _=>by kernel_rfl
theorem B1c:SQ (A2S A2O):=sF MO F4 (tc call159 A2R (tc call163 A0B (tc call196 D4e D9))) func162 B1b
def A32(f:A09):Nat×Fn:=(110,⟨[.ptr (.pair (.rs 5 (.int .u8)) (.pair (.int .i64) (.pair (.int .i64) (.pair A5H (.sl 150 C8))))),.val false (.int .i64) false],[],fun x=>f x.1 x.2.1⟩)
theorem B2j{O0:A0K}{I4:P5}{T2:A0a}{A1h:A4k}{A0r:A0n}{F0:K2}:EF cfg [A14 O0,U9 I4,A2F T2,B02 A1h,A2S A0r,P1 F0] [(7,⟨[.b 5 [.str,.str],.b 1000 [.ro 5 (.int .u8),.int .i64,.int .i64,.int .i64,.own 100000000,.own 100000001],.r 100000000 150 C8,.r 100000001 150 C8],lt 16 27 [.r 1004,.r 1005,.r 75780,.r 75781,.r 100356,.r 100357,.r 104452,.r 104453,.r 124932,.r 124933,.r 165889],false⟩)] f110 (A32 (A2v O0 I4 T2 A1h A0r F0)):=fun _=>by kernel_rfl
theorem B2k:SQ (A32 S2):=sF MO F4 (tc call158 A5V (tc call159 A2R (tc call160 B0w (tc call161 B9k (tc call162 B1c (tc call163 A0B D9)))))) func110 B2j
def B08(f:A4s):Nat×Fn:=(39,⟨[.val true (.pair (.int .i64) (.rs 150 C8)) false,.val false (.int .i64) false,.val false (.rs 5 (.int .u8)) false],[.val false (.sl 150 C8),.val true A5H,.val false (.int .i64)],fun x=>f x.1 x.2.1 x.2.2.1⟩)
theorem C7c{C2:G9}{K4:A1K}{H5:W0}{S3:A09}:EF cfg [O1 C2,A5U K4,A3c H5,A32 S3] [(3,⟨[],lt 10 8 [],false⟩),(6,⟨[.t 17 false [.bool]],lt 10 7 [],true⟩),(15,⟨[.b 9 [.ro 5 (.int .u8),.int .i64,.int .i64,.int .i64,.own 100002000,.own 100002001],.r 100002000 150 C8,.r 100002001 150 C8],lt 24 12 [.r 94209,.r 149508,.r 149509],true⟩),(60,⟨[.b 9 [.ro 5 (.int .u8),.int .i64,.int .i64,.int .i64,.own 100002000,.own 100002001],.r 100002000 150 C8,.r 100002001 150 C8],lt 24 12 [.r 94209,.r 149508,.r 149509],false⟩)] f39 (B08 (B3t C2 K4 H5 S3)):=fun _=>by kernel_rfl
theorem B9q:SQ (B08 A3T):=sF MO F4 (tc call61 Q6 (tc call63 B0c (tc call64 A72 (tc call110 B2k D9)))) func39 C7c
def B6e(f:B1N):Nat×Fn:=(261,⟨[.val false (.int .i64) false],[.val false (.int .i64),.val false (.int .i64)],fun x=>f x.1⟩)
theorem D05:EF cfg [] [(26,⟨[.t 5 false [.bool]],[.t 6,.t 7],true⟩)] f261 (B6e B67):=fun _=>by kernel_rfl
theorem D06:SQ (B6e B1O):=sF MO F4 D9 func261 D05
def B6f(f:B1P):Nat×Fn:=(262,⟨[.val false (.int .i64) false],[.val false (.int .i64),.val false (.int .i64)],fun x=>f x.1⟩)
theorem D07:EF cfg [] [(26,⟨[.t 5 false [.bool]],[.t 6,.t 7],true⟩),(107,⟨[.t 8 false [.bool]],[.t 9,.t 10],true⟩),(431,⟨[.t 11 false [.bool]],[.t 12,.t 13],true⟩)] f262 (B6f B68):=fun _=>by kernel_rfl
theorem D08:SQ (B6f B1Q):=sF MO F4 D9 func262 D07
def A8O(f:A56):Nat×Fn:=(263,⟨[.val false (.int .i64) false],[.val false (.int .i64),.val false (.int .i64)],fun x=>f x.1⟩)
theorem C21:EF cfg [] [(26,⟨[.t 5 false [.bool]],lt 6 4 [],true⟩)] f263 (A8O A86):=fun _=>by kernel_rfl
theorem C22:SQ (A8O A57):=sF MO F4 D9 func263 C21
def A9U(f:A5o):Nat×Fn:=(264,⟨[.val false (.int .i64) false],[.val false (.int .i64),.val false (.int .i64)],fun x=>f x.1⟩)
theorem C31:EF cfg [] [(26,⟨[.t 5 false [.bool]],lt 6 4 [],true⟩)] f264 (A9U A9H):=fun _=>by kernel_rfl
theorem C32:SQ (A9U A5p):=sF MO F4 D9 func264 C31
def A8P(f:A40):Nat×Fn:=(240,⟨[.val false (.int .i64) false,.val false (.int .i64) false],[.val false (.int .i64),.val false (.int .i64)],fun x=>f x.1 x.2.1⟩)
theorem C6k{C2:G9}{B1f:B1N}{B1g:B1P}{A5B:A56}{A6J:A5o}:EF cfg [O1 C2,B6e B1f,B6f B1g,A8O A5B,A9U A6J] [] f240 (A8P (B26 C2 B1f B1g A5B A6J)):=fun _=>by kernel_rfl
theorem B8h:SQ (A8P A0O):=sF MO F4 (tc call61 Q6 (tc call261 D06 (tc call262 D08 (tc call263 C22 (tc call264 C32 D9))))) func240 C6k
def A9V(f:A5q):Nat×Fn:=(241,⟨[.ptr A3j,.val true (.pair (.int .i64) (.pair (.int .i64) (.pair B0O (.rs 5 (.int .u8))))) false],[],fun x=>f x.1 x.2.1⟩)
theorem C33{B7:F3}:EF cfg [J9 B7] [] f241 (A9V (A9I B7)):=fun _=>by kernel_rfl
theorem C34:SQ (A9V A5r):=sF MO F4 (tc call144 N0 D9) func241 C33
abbrev B6g:List PK:= [.ptr A3j,.val true (.pair (.int .i64) (.pair (.int .i64) B0O)) false,.val false (.int .i64) false]
abbrev A8Q:List RK:= []
def A8R(f:A2P):Nat×Fn:=(241,⟨B6g,A8Q,fun x=>f x.1 x.2.1 x.2.2.1⟩)
def B6h:Fn:=(A8R A0w).2
theorem B6i(B7:F3):∀ x,E2V cfg [J9 B7] (B17 []) 24 [] (f241.body.getD .skip) A3j (.pair (.int .i64) (.pair (.int .i64) B0O)) (kr:=O8) 9 5 (fun x0=>x0.1.2.2.2.2.2.1) A8Q x=A4J B7 x.1 x.2.1 x.2.2.1:=by intro x;kernel_rfl
theorem B6j:C09 prog ⟨241,B6h,9,6,5⟩:=E3u MO F4 (tc call144 N0 D9) func241 (by kernel_rfl) (lq:=9) (off:=5) (by decide) (by decide) (fun x0=>rfl) (fun x0=>rfl) (fun x1=>rfl) (B6i G2)
abbrev B2M:List PK:= [.ptr A3j,.val false (.int .i64) false,.val false (.int .i64) false]
abbrev B2N:List RK:= [.val false (.int .i64)]
def A7S(f:A1W):Nat×Fn:=(216,⟨B2M,B2N,fun x=>f x.1 x.2.1 x.2.2.1⟩)
def C0m:Fn:=(A7S A2n).2
theorem C0n(A1C:A40)(A2V:A2P):∀ x,(D9a cfg [A8P A1C] ⟨241,(A8R A2V).2,9,6,5⟩ (B17 []) 40 [.tmp 6] (f216.body.getD .skip) B2M B2N).fn x=A7M A1C A2V x.1 x.2.1 x.2.2.1:=by intro x;kernel_rfl
theorem B2O:A2I prog 216 C0m:=smA MO F4 (tc call240 B8h D9) B6j call241 func216 (by kernel_rfl) (by decide) (C0n A0O A0w)
def C0o(f:B69):Nat×Fn:=(238,⟨[.val false .bool false],[.val false (.int .i64)],fun x=>f x.1⟩)
theorem D4f:EF cfg [] [] f238 (C0o C5i):=fun _=>by kernel_rfl
theorem D4g:SQ (C0o B6A):=sF MO F4 D9 func238 D4f
def B1d(f:A5s):Nat×Fn:=(164,⟨[.val false .str false,.val false (.int .i64) false],[.val false (.int .i64),.val false .bool],fun x=>f x.1 x.2.1⟩)
theorem D09{C2:G9}{N7:A1p}:EF cfg [O1 C2,A8H N7] [(15,⟨[.t 6 false [.int .i64]],lt 12 24 [.t 7],false⟩),(122,⟨[.t 6 false [.int .i64],.t 7 false [.int .i64]],lt 12 24 [],false⟩),(1956,⟨[],lt 18 10 [],false⟩)] f164 (B1d (B6B C2 N7)):=fun _=>by kernel_rfl
theorem C23:SQ (B1d A87):=sF MO F4 (tc call61 Q6 (tc call142 B2H D9)) func164 D09
def B3L(f:A4A):Nat×Fn:=(258,⟨[.val false (.rs 150 C8) false,.val false .str false],[.val false .str,.val false (.int .i64)],fun x=>f x.1 x.2.1⟩)
theorem D2W:EF cfg [] [(7,⟨[.t 6 false [.str],.t 7 false [.int .i64]],lt 9 18 [.b 9],true⟩),(58,⟨[.t 6 false [.str],.t 7 false [.int .i64],.t 12 false [.int .i64]],lt 13 14 [.b 9,.t 9],false⟩)] f258 (B3L B86):=fun _=>by kernel_rfl
theorem C3p:SQ (B3L T9):=sF MO F4 D9 func258 D2W
def C0p(f:B27):Nat×Fn:=(285,⟨[.val false .str false],[.val false .bool],fun x=>f x.1⟩)
theorem D4h:EF cfg [] [(3,⟨[],lt 3 17 [],false⟩),(26,⟨[.t 3 false [.int .i64]],lt 4 16 [],false⟩)] f285 (C0p C0N):=fun _=>by kernel_rfl
theorem D4i:SQ (C0p A7N):=sF MO F4 D9 func285 D4h
def A2G(f:A0c):Nat×Fn:=(306,⟨[.val false (.rs 9 .str) false,.val false .str false],[.val false (.int .i64)],fun x=>f x.1 x.2.1⟩)
theorem B10:EF cfg [] [(26,⟨[.t 8 false [.int .i64]],lt 9 8 [.t 5,.t 18],false⟩)] f306 (A2G A2C):=fun _=>by kernel_rfl
theorem B11:SQ (A2G A2D):=sF MO F4 D9 func306 B10
end
end Go.Proofs.YthnfghmjipikhaaGreatDoor.Ev
