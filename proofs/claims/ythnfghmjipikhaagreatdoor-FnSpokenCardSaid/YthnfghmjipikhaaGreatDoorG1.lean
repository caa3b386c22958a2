/- Each function of the program does what its plain function says. -/
import Derived.Test.YthnfghmjipikhaaGreatDoorTy
import Derived.Test.YthnfghmjipikhaaGreatDoorPu
import Derived.Test.YthnfghmjipikhaaGreatDoorIns
import Derived.Test.YthnfghmjipikhaaGreatDoorLibT
import Derived.Test.YthnfghmjipikhaaGreatDoorLibB
import Derived.Test.YthnfghmjipikhaaGreatDoorUnHuff
set_option linter.unusedVariables false
set_option maxRecDepth 100000
namespace Go.Proofs.YthnfghmjipikhaaGreatDoor.Ev
open Tryz
noncomputable section
abbrev C4V:List PK:= [.val false .str false,.val false .str false]
abbrev C4W:List RK:= [.val false (.sl 9 .str)]
def B15(f:A2P):Nat×Fn:=(231,⟨C4V,C4W,fun x=>f x.1 x.2.1⟩)
def C4a:Fn:=(B15 B0v).2
theorem B7T:A1R prog 231 C4a:=D2d
abbrev C7v:List PK:= [.val false .str false,.val false .str false]
abbrev C7w:List RK:= [.val false .str,.val false .str,.val false .bool]
def B9w(f:A6D):Nat×Fn:=(232,⟨C7v,C7w,fun x=>f x.1 x.2.1⟩)
def C80:Fn:=(B9w B9q).2
theorem C81:A1R prog 232 C80:=D7r
abbrev C76:List PK:= [.val false .str false]
abbrev C77:List RK:= [.val false (.int .i64),.val false (.fnc 999999999)]
def B8b(f:A4e):Nat×Fn:=(233,⟨C76,C77,fun x=>f x.1⟩)
def C78:Fn:=(B8b B88).2
theorem C79:A1R prog 233 C78:=D4J
abbrev A5U:List PK:= [.val false (.sl 150 D9) false,.val false (.int .i64) false,.val false (.sl 150 D9) false]
abbrev A5V:List RK:= [.val false (.sl 150 D9)]
def A1E(f:O2):Nat×Fn:=(194,⟨A5U,A5V,fun x=>f x.1 x.2.1 x.2.2.1⟩)
def A5W:Fn:=(A1E O3).2
theorem A5a:A1R prog 194 A5W:=C0k D9 (by decide)
abbrev C7A:List PK:= [.val false (.int .i64) false]
abbrev C7B:List RK:= [.val false .str]
def B8c(f:A7f):Nat×Fn:=(142,⟨C7A,C7B,fun x=>f x.1⟩)
def C7C:Fn:=(B8c A7g).2
theorem C7D:A1R prog 142 C7C:=D4I
abbrev A7U:List PK:= [.val false (.sl 113 N8) false,.val false (.int .i64) false,.val false (.int .i64) false]
abbrev A7V:List RK:= [.val false (.sl 113 N8)]
def A2J(f:Q7):Nat×Fn:=(86,⟨A7U,A7V,fun x=>f x.1 x.2.1 x.2.2.1⟩)
def A7W:Fn:=(A2J Q8).2
theorem A7a:A1R prog 86 A7W:=C3C N8 (by decide)
abbrev B5B:List PK:= [.val false (.sl 5 (.int .u8)) false,.val false (.int .i64) false]
abbrev B5C:List RK:= [.val false (.sl 5 (.int .u8))]
def A7T(f:A1D):Nat×Fn:=(153,⟨B5B,B5C,fun x=>f x.1 x.2.1⟩)
def B5D:Fn:=(A7T A3C).2
theorem B5E:A1R prog 153 B5D:=C4U
abbrev C7E:List PK:= [.val false (.int .i64) false]
abbrev C7F:List RK:= [.val false .str]
def B8d(f:A7h):Nat×Fn:=(132,⟨C7E,C7F,fun x=>f x.1⟩)
def C7G:Fn:=(B8d B2I).2
theorem C7H:A1R prog 132 C7G:=fun x y h=>by cases h
def D0d(f:C5D):Nat×Fn:=(30,⟨[.val false (.rs 5 (.int .u8)) false],[.val false .bool],fun x=>f x.1⟩)
theorem E2I:EF cfg [] [] f30 (D0d D01):=fun _=>by kernel_rfl
theorem E2J:SQ (D0d C5E):=sF MO E2 C6 func30 E2I
def T5(f:I6):Nat×Fn:=(61,⟨[.val false (.int .i64) false,.val false (.int .i64) false,.val false (.int .i64) false],[.val false .bool],fun x=>f x.1 x.2.1 x.2.2.1⟩)
theorem D2f:EF cfg [] [] f61 (T5 C45):=fun _=>by kernel_rfl
theorem A09:SQ (T5 R3):=sF MO E2 C6 func61 D2f
def B6l(f:A4f):Nat×Fn:=(179,⟨[.val true D9 false],[.val false (.int .i64)],fun x=>f x.1⟩)
theorem D4K:EF cfg [] [] f179 (B6l C6D):=fun _=>by kernel_rfl
theorem C7I:SQ (B6l A8o):=sF MO E2 C6 func179 D4K
def C0l(f:B5p):Nat×Fn:=(138,⟨[.val true (.pair (.int .i64) (.rs 150 D9)) false],[.val false (.int .i64)],fun x=>f x.1⟩)
theorem D4L{A0t:A4f}:EF cfg [B6l A0t] [(58,⟨[.t 3 false [.int .i64],.t 9 false [.int .i64]],lt 10 8 [.b 5,.t 5],false⟩)] f138 (C0l (C0J A0t)):=fun _=>by kernel_rfl
theorem D4M:SQ (C0l B5q):=sF MO E2 (tc call179 C7I C6) func138 D4L
def B0m(f:A3Q):Nat×Fn:=(63,⟨[.val true (.pair (.int .i64) (.rs 150 D9)) false],[.val false .bool],fun x=>f x.1⟩)
theorem D2g{D3:I6}{B78:B5p}:EF cfg [T5 D3,C0l B78] [] f63 (B0m (B89 D3 B78)):=fun _=>by kernel_rfl
theorem B8e:SQ (B0m A7L):=sF MO E2 (tc call61 A09 (tc call138 D4M C6)) func63 D2g
def K6(f:F7):Nat×Fn:=(144,⟨[.val false (.rs 5 (.int .u8)) false],[.val false (.sl 5 (.int .u8))],fun x=>f x.1⟩)
theorem B4J:EF cfg [] [] f144 (K6 A0w):=fun _=>by kernel_rfl
theorem N9:SQ (K6 G7):=sF MO E2 C6 func144 B4J
def B6m(f:A8p):Nat×Fn:=(155,⟨[.val false (.rs 5 (.int .u8)) false,.val false (.int .i64) false,.val false (.int .i64) false],[.val false (.int .i64),.val false .bool],fun x=>f x.1 x.2.1 x.2.2.1⟩)
theorem D4N{D3:I6}:EF cfg [T5 D3] [(3,⟨[],lt 11 15 [],false⟩),(15,⟨[.t 8 false [.int .i64]],lt 26 17 [.t 10],true⟩),(122,⟨[.t 8 false [.int .i64],.t 33 false [.int .i64]],lt 34 9 [.t 10],false⟩)] f155 (B6m (C0K D3)):=fun _=>by kernel_rfl
theorem C7J:SQ (B6m A8q):=sF MO E2 (tc call61 A09 C6) func155 D4N
def B1n(f:A3b):Nat×Fn:=(103,⟨[.val false (.rs 5 (.int .u8)) false,.val false (.int .i64) false],[.val true B0u,.val false (.int .i64),.val false (.int .i64)],fun x=>f x.1 x.2.1⟩)
theorem D0e{C1:F7}{A2u:A8p}:EF cfg [K6 C1,B6m A2u] [(3,⟨[],lt 13 9 [],false⟩)] f103 (B1n (B5r C1 A2u)):=fun _=>by kernel_rfl
theorem C29:SQ (B1n A51):=sF MO E2 (tc call144 N9 (tc call155 C7J C6)) func103 D0e
def B1o(f:A52):Nat×Fn:=(104,⟨[.val true (.pair (.int .i64) (.pair .bool (.rs 5 (.int .u8)))) false],[.val false .bool],fun x=>f x.1⟩)
theorem D0f{D3:I6}:EF cfg [T5 D3] [] f104 (B1o (B5s D3)):=fun _=>by kernel_rfl
theorem C2A:SQ (B1o A7j):=sF MO E2 (tc call61 A09 C6) func104 D0f
def C0m(f:B5t):Nat×Fn:=(116,⟨[.val true (.pair (.int .i64) (.pair (.rs 5 (.int .u8)) (.pair (.pair (.int .i64) (.pair .bool (.rs 5 (.int .u8)))) (.pair (.pair (.int .i64) (.rs 150 D9)) (.pair (.pair (.int .i64) (.rs 150 D9)) (.pair (.rs 113 N8) Q0)))))) false],[.val false .bool],fun x=>f x.1⟩)
theorem D4O{D3:I6}:EF cfg [T5 D3] [(3,⟨[],lt 3 53 [.b 4],false⟩),(26,⟨[.t 8 false [.int .i64]],lt 9 47 [.b 4,.t 3,.t 4],false⟩),(1689,⟨[],lt 13 28 [],false⟩)] f116 (C0m (C0L D3)):=fun _=>by kernel_rfl
theorem D4P:SQ (C0m B5u):=sF MO E2 (tc call61 A09 C6) func116 D4O
def B6n(f:A8r):Nat×Fn:=(43,⟨[.val true (.pair (.int .i64) (.pair (.rs 5 (.int .u8)) (.pair (.pair (.int .i64) (.pair .bool (.rs 5 (.int .u8)))) (.pair (.pair (.int .i64) (.rs 150 D9)) (.pair (.pair (.int .i64) (.rs 150 D9)) (.pair (.rs 113 N8) Q0)))))) false],[.val false .bool],fun x=>f x.1⟩)
theorem D4Q{D3:I6}{T6:A3Q}{A0Q:A3b}{A1k:A52}{B79:B5t}:EF cfg [T5 D3,B0m T6,B1n A0Q,B1o A1k,C0m B79] [(3,⟨[],lt 6 27 [],false⟩),(7,⟨[],lt 33 16 [],false⟩),(15,⟨[],lt 49 31 [],false⟩)] f43 (B6n (C0M D3 T6 A0Q A1k B79)):=fun _=>by kernel_rfl
theorem C7K:SQ (B6n A8s):=sF MO E2 (tc call61 A09 (tc call63 B8e (tc call103 C29 (tc call104 C2A (tc call116 D4P C6))))) func43 D4Q
def O8(f:I5):Nat×Fn:=(139,⟨[.val false (.rs 150 D9) false],[.val false (.sl 150 D9)],fun x=>f x.1⟩)
theorem A67:EF cfg [] [] f139 (O8 V0):=fun _=>by kernel_rfl
theorem A1W:SQ (O8 J3):=sF MO E2 C6 func139 A67
def A6Q(f:A1p):Nat×Fn:=(64,⟨[.val true (.pair (.int .i64) (.rs 150 D9)) false],[.val true A6w],fun x=>f x.1⟩)
theorem C82{F9:I5}:EF cfg [O8 F9] [] f64 (A6Q (B42 F9)):=fun _=>by kernel_rfl
theorem B4K:SQ (A6Q A47):=sF MO E2 (tc call139 A1W C6) func64 C82
def A85(f:A3D):Nat×Fn:=(107,⟨[.val true (.pair (.int .i64) (.pair .bool (.rs 5 (.int .u8)))) false],[.val true C5C],fun x=>f x.1⟩)
theorem C7L{C1:F7}:EF cfg [K6 C1] [] f107 (A85 (B2J C1)):=fun _=>by kernel_rfl
theorem B8f:SQ (A85 A4g):=sF MO E2 (tc call144 N9 C6) func107 C7L
def B6o(f:B1W):Nat×Fn:=(82,⟨[.val true (.pair (.int .i64) (.pair (.rs 5 (.int .u8)) (.pair (.pair (.int .i64) (.pair .bool (.rs 5 (.int .u8)))) (.pair (.pair (.int .i64) (.rs 150 D9)) (.pair (.pair (.int .i64) (.rs 150 D9)) (.pair (.rs 113 N8) Q0)))))) false],[.val true C94],fun x=>f x.1⟩)
theorem D0g{L2:A1p}{Q3:A3D}{C1:F7}:EF cfg [A6Q L2,A85 Q3,K6 C1] [(1018,⟨[.t 27 false [.int .i64],.b 3 [.int .i64,.own 40960,.int .i64,.bool,.own 57346,.int .i64,.own 73729,.int .i64,.own 86017,.own 100000000,.int .i64,.int .i64],.r 40960 5 (.int .u8),.r 57346 5 (.int .u8),.r 73729 150 D9,.r 86017 150 D9,.r 100000000 113 N8],lt 28 14 [.b 5,.r 38,.r 39,.r 139264,.t 5],false⟩)] f82 (B6o (B5v L2 Q3 C1)):=fun _=>by kernel_rfl
theorem D0h:SQ (B6o B1a):=sF MO E2 (tc call64 B4K (tc call107 B8f (tc call144 N9 C6))) func82 D0g
def B8g(f:B3G):Nat×Fn:=(156,⟨[.val true (.pair (.int .i64) (.pair (.int .i64) (.pair (.int .i64) (.rs 5 (.int .u8))))) false],[.val false .bool],fun x=>f x.1⟩)
theorem D2h{D3:I6}:EF cfg [T5 D3] [] f156 (B8g (A7M D3)):=fun _=>by kernel_rfl
theorem D2i:SQ (B8g A1q):=sF MO E2 (tc call61 A09 C6) func156 D2h
def A1u(f:P0):Nat×Fn:=(109,⟨[.val true (.pair (.int .i64) (.pair (.int .i64) (.pair (.int .i64) (.rs 5 (.int .u8))))) false,.val false (.int .i64) false],[.val false .bool],fun x=>f x.1 x.2.1⟩)
theorem C83:EF cfg [] [] f109 (A1u B9r):=fun _=>by kernel_rfl
theorem A4F:SQ (A1u A1r):=sF MO E2 C6 func109 C83
def C0n(f:B5w):Nat×Fn:=(157,⟨[.val true (.pair (.int .i64) (.pair (.int .i64) (.pair (.int .i64) (.rs 5 (.int .u8))))) false],[.val false .bool],fun x=>f x.1⟩)
theorem D4R{H0:P0}:EF cfg [A1u H0] [(235,⟨[.t 13 false [.bool]],[.t 14,.t 15],true⟩)] f157 (C0n (A8t H0)):=fun _=>by kernel_rfl
theorem D4S:SQ (C0n A2o):=sF MO E2 (tc call109 A4F C6) func157 D4R
def B0F(f:A48):Nat×Fn:=(105,⟨[.val true (.pair (.int .i64) (.pair (.int .i64) (.pair (.int .i64) (.rs 5 (.int .u8))))) false],[.val false (.int .i64)],fun x=>f x.1⟩)
theorem C84{B3i:B3G}{B7A:B5w}:EF cfg [B8g B3i,C0n B7A] [(3,⟨[],lt 3 8 [],false⟩),(58,⟨[.t 13 false [.bool]],lt 14 6 [],true⟩)] f105 (B0F (A49 B3i B7A)):=fun _=>by kernel_rfl
theorem C00:SQ (B0F T8):=sF MO E2 (tc call156 D2i (tc call157 D4S C6)) func105 C84
def B4L(f:A9q):Nat×Fn:=(106,⟨[.val true (.pair (.int .i64) (.pair .bool (.rs 5 (.int .u8)))) false,.val true (.pair (.int .i64) (.pair (.int .i64) (.pair (.int .i64) (.rs 5 (.int .u8))))) false],[.val false .bool],fun x=>f x.1 x.2.1⟩)
theorem C85:EF cfg [] [] f106 (B4L B43):=fun _=>by kernel_rfl
theorem C86:SQ (B4L A9r):=sF MO E2 C6 func106 C85
def B9S(f:B27):Nat×Fn:=(108,⟨[.val true (.pair (.int .i64) (.pair (.int .i64) (.pair (.int .i64) (.rs 5 (.int .u8))))) false],[.val false (.sl 5 (.int .u8)),.val false .bool],fun x=>f x.1⟩)
theorem D7t{H0:P0}{C1:F7}:EF cfg [A1u H0,K6 C1] [(7,⟨[.t 4 false [.ro 5 (.int .u8)],.t 5 false [.int .i64]],lt 9 11 [],false⟩),(31,⟨[.t 6 false [.int .i64]],lt 20 7 [],true⟩)] f108 (B9S (C2l H0 C1)):=fun _=>by kernel_rfl
theorem C9O:SQ (B9S B4r):=sF MO E2 (tc call109 A4F (tc call144 N9 C6)) func108 D7t
def C7M(f:C1b):Nat×Fn:=(38,⟨[.val true (.pair (.int .i64) (.pair .bool (.rs 5 (.int .u8)))) false,.val true (.pair (.int .i64) (.pair (.int .i64) (.pair (.int .i64) (.rs 5 (.int .u8))))) false],[.val true C5C,.val false (.sl 5 (.int .u8)),.val false (.int .i64)],fun x=>f x.1 x.2.1⟩)
theorem E0i{A1k:A52}{A11:A48}{B0J:A9q}{Q3:A3D}{A5d:B27}{H0:P0}:EF cfg [B1o A1k,B0F A11,B4L B0J,A85 Q3,B9S A5d,A1u H0] [(3,⟨[],lt 10 14 [],false⟩),(6,⟨[.t 23 false [.bool]],lt 10 13 [],true⟩),(15,⟨[.b 7 [.int .i64,.bool,.own 100002000],.r 100002000 5 (.int .u8)],lt 42 14 (lt 31 9 [.r 54,.r 114690,.r 147456,.t 8,.t 9,.t 28,.t 29]),false⟩)] f38 (C7M (C6E A1k A11 B0J Q3 A5d H0)):=fun _=>by kernel_rfl
theorem E0j:SQ (C7M C1c):=sF MO E2 (tc call104 C2A (tc call105 C00 (tc call106 C86 (tc call107 B8f (tc call108 C9O (tc call109 A4F C6)))))) func38 E0i
def B16(f:A6V):Nat×Fn:=(209,⟨[],[.val false (.sl 150 D9)],fun x=>f⟩)
theorem C4b{W7:A2P}{A4G:A6D}:EF cfg [B15 W7,B9w A4G] [(58,⟨[.t 1 false [.own 100000000],.t 9 false [.int .i64],.r 100000000 150 D9],lt 10 16 (lt 3 4 [.r 23,.r 24,.x 11]),false⟩)] f209 (B16 (B7P W7 A4G)):=fun _=>by kernel_rfl
theorem C4c:SQ (B16 A6W):=sF MO E2 (tc call231 B7T (tc call232 C81 C6)) func209 C4b
def B2e(f:A7l):Nat×Fn:=(217,⟨[.val false (.int .i64) false],[.val true D9,.val false .bool],fun x=>f x.1⟩)
theorem C7N{D3:I6}{A6o:A6V}:EF cfg [T5 D3,B16 A6o] [] f217 (B2e (B2K D3 A6o)):=fun _=>by kernel_rfl
theorem C7O:SQ (B2e B2L):=sF MO E2 (tc call61 A09 (tc call209 C4c C6)) func217 C7N
def B8h(f:B3H):Nat×Fn:=(191,⟨[.val true (.pair (.int .i64) (.rs 150 D9)) false,.val false (.int .i64) false],[.val true D9,.val false .bool],fun x=>f x.1 x.2.1⟩)
theorem D2j{A8K:A7l}:EF cfg [B2e A8K] [] f191 (B8h (B8A A8K)):=fun _=>by kernel_rfl
theorem D2k:SQ (B8h B3I):=sF MO E2 (tc call217 C7O C6) func191 D2j
def B0G(f:A4A):Nat×Fn:=(192,⟨[.val false (.rs 5 (.int .u8)) false,.val false (.int .i64) false,.val false (.int .i64) false],[.val false (.int .i64),.val false (.int .i64),.val false .bool],fun x=>f x.1 x.2.1 x.2.2.1⟩)
theorem C87{D3:I6}:EF cfg [T5 D3] [(3,⟨[],lt 13 11 [],false⟩),(127,⟨[],lt 42 27 (lt 10 3 [.t 1]),false⟩),(1018,⟨[.t 1 false [.int .i64],.t 10 false [.int .i64],.t 11 false [.int .i64]],lt 42 27 [.t 12],false⟩),(2036,⟨[],lt 42 8 [],false⟩)] f192 (B0G (B44 D3)):=fun _=>by kernel_rfl
theorem C01:SQ (B0G A6E):=sF MO E2 (tc call61 A09 C6) func192 C87
def B8i(f:B3J):Nat×Fn:=(210,⟨[],[.val false (.pa 257 Q0)],fun x=>f⟩)
theorem D2l{W7:A2P}{A3K:A4e}:EF (cfg.withAr [(247,257,246)]) [B15 W7,B8b A3K] [(7,⟨[.r 1 247 Q0],lt 7 16 [.r 32768,.t 2,.t 3,.x 12,.x 20],true⟩),(58,⟨[.t 9 false [.int .i64],.r 1 247 Q0],lt 10 13 [.t 2,.t 3,.x 12,.x 20],false⟩),(250,⟨[.t 4 false [.int .i64],.t 5 false [.int .i64],.r 1 247 Q0],lt 23 22 [.t 6,.x 33,.x 40],false⟩),(32038,⟨[.t 4 false [.int .i64],.t 29 false [.int .i64],.r 1 247 Q0],lt 30 15 [.t 6,.x 33,.x 40],false⟩)] f210 (B8i (C46 W7 A3K)):=fun _=>by kernel_rfl
theorem D2m:SQ (B8i B0f):=sF MO (B26 (l:= [(247,257,246)]) E2 ⟨tA t247 ⟨true,Q0,16,[(0,1,false),(1,1,false)]⟩ underlying247,trivial⟩) (tc call231 B7T (tc call233 C79 C6)) func210 D2l
def C7P(f:C1d):Nat×Fn:=(212,⟨[.val false (.pa 257 Q0) false,.val false (.sl 5 (.int .u8)) false,.val false .str false],[.val false (.sl 5 (.int .u8))],fun x=>f x.1 x.2.1 x.2.2.1⟩)
theorem E0k:EF (cfg.withAr [(247,257,246)]) [] [(7,⟨[.t 1 false [.own 100000001],.t 7 false [.int .i64],.t 8 false [.int .i64],.r 100000001 5 (.int .u8)],lt 12 43 [.b 10,.r 47,.r 48,.r 1100,.r 100001000,.t 9,.t 10],true⟩),(58,⟨[.t 1 false [.own 100000001],.t 7 false [.int .i64],.t 8 false [.int .i64],.t 9 false [.int .i64],.r 100000001 5 (.int .u8)],lt 12 43 [.b 10,.r 47,.r 48,.r 1100,.r 100001000,.t 10],false⟩),(14926,⟨[.t 1 false [.own 100001000],.t 7 false [.int .i64],.t 8 false [.int .i64],.r 100001000 5 (.int .u8)],lt 37 18 [.r 47,.r 48,.r 1100,.r 100000001],false⟩)] f212 (C7P C6G):=fun _=>by kernel_rfl
theorem E0l:SQ (C7P C1e):=sF MO (B26 (l:= [(247,257,246)]) E2 ⟨tA t247 ⟨true,Q0,16,[(0,1,false),(1,1,false)]⟩ underlying247,trivial⟩) C6 func212 E0k
def D4T:Nat->Option Jn:=B1L [(63,⟨[.t 8 false [.own 100000001],.r 100000001 5 (.int .u8)],lt 71 8 (lt 28 41 (lt 11 4 [.b 9,.r 75,.r 76,.r 100001000])),false⟩),(506,⟨[.t 8 false [.own 100000001],.t 30 false [.int .i64],.b 9 [.int .i64,.int .i64],.r 100000001 5 (.int .u8)],lt 71 8 (lt 31 38 (lt 11 4 [.r 75,.r 76,.r 100001000])),false⟩),(129638,⟨[.t 8 false [.own 100001000],.t 12 false [.int .i64],.b 9 [.int .i64,.int .i64],.r 100001000 5 (.int .u8)],lt 71 7 (lt 34 35 [.r 75,.r 76,.r 100000001,.t 13,.t 14]),false⟩),(16593703,⟨[],lt 59 10 [],false⟩)]
abbrev D4U:List PK:= [.val false (.pa 257 Q0) false,.val false (.rs 5 (.int .u8)) false]
abbrev D4V:List RK:= [.val false .str]
def C7Q(f:B61):Nat×Fn:=(265,⟨D4U,D4V,fun x=>f x.1 x.2.1⟩)
def D4W:Fn:=(C7Q B62).2
theorem D4a:∀ x,E3T D4T x=C0N x.1 x.2.1:=by intro x;kernel_rfl
theorem D4b:A1R prog 265 D4W:=E0h D4a
def B4M(f:A9s):Nat×Fn:=(266,⟨[.val false (.rs 5 (.int .u8)) false,.val false (.rs 5 (.int .u8)) false],[.val false .bool],fun x=>f x.1 x.2.1⟩)
theorem C88:EF cfg [] [] f266 (B4M B45):=fun _=>by kernel_rfl
theorem C89:SQ (B4M B46):=sF MO E2 C6 func266 C88
def C0o(f:B63):Nat×Fn:=(242,⟨[.val false (.rs 5 (.int .u8)) false],[.val false .str,.val false .bool],fun x=>f x.1⟩)
theorem D4c{B3k:B3J}{C2L:C1d}{B7B:B61}{B0K:A9s}:EF cfg [B8i B3k,C7P C2L,C7Q B7B,B4M B0K] [] f242 (C0o (C0O B3k C2L B7B B0K)):=fun _=>by kernel_rfl
theorem D4d:SQ (C0o B64):=sF MO E2 (tc call210 D2m (tc call212 E0l (tc call265 D4b (tc call266 C89 C6)))) func242 D4c
def B4N(f:A9t):Nat×Fn:=(218,⟨[.val false (.rs 5 (.int .u8)) false,.val false (.int .i64) false],[.val false .str,.val false (.int .i64),.val false .bool],fun x=>f x.1 x.2.1⟩)
theorem C8A{A12:A4A}{B7C:B63}:EF cfg [B0G A12,C0o B7C] [(7,⟨[],lt 19 14 [],false⟩)] f218 (B4N (B47 A12 B7C)):=fun _=>by kernel_rfl
theorem C8B:SQ (B4N A9u):=sF MO E2 (tc call192 C01 (tc call242 D4d C6)) func218 C8A
def A86(f:A3E):Nat×Fn:=(195,⟨[.ptr A6w],[],fun x=>f x.1⟩)
theorem C7R{F9:I5}{A0t:A4f}:EF cfg [O8 F9,B6l A0t] [(14,⟨[.t 2 false [.int .i64],.t 14 false [.int .i64]],lt 15 10 [.b 4,.t 3,.t 4,.t 35,.x 17],false⟩)] f195 (A86 (B2M F9 A0t)):=fun _=>by kernel_rfl
theorem B8j:SQ (A86 A15):=sF MO E2 (tc call139 A1W (tc call179 C7I C6)) func195 C7R
def B4O(f:A9v):Nat×Fn:=(161,⟨[.ptr A6w,.val true D9 false],[],fun x=>f x.1 x.2.1⟩)
theorem C8C{O4:O2}{A0R:A3E}:EF cfg [A1E O4,A86 A0R] [] f161 (B4O (A9w O4 A0R)):=fun _=>by kernel_rfl
theorem C8D:SQ (B4O A1s):=sF MO E2 (tc call194 A5a (tc call195 B8j C6)) func161 C8C
def C0p(f:B65):Nat×Fn:=(196,⟨[.val true (.pair (.int .i64) (.rs 150 D9)) false,.val false (.int .i64) false],[.val true A6w],fun x=>f x.1 x.2.1⟩)
theorem D4e{D3:I6}{T6:A3Q}{L2:A1p}{A0R:A3E}:EF cfg [T5 D3,B0m T6,A6Q L2,A86 A0R] [(7,⟨[],lt 8 8 [],false⟩)] f196 (C0p (C0P D3 T6 L2 A0R)):=fun _=>by kernel_rfl
theorem D4f:SQ (C0p B66):=sF MO E2 (tc call61 A09 (tc call63 B8e (tc call64 B4K (tc call195 B8j C6)))) func196 D4e
def M8(f:J5):Nat×Fn:=(163,⟨[.ptr (.pair (.rs 5 (.int .u8)) (.pair (.int .i64) (.pair (.int .i64) (.pair A6w (.sl 150 D9))))),.val false (.int .i64) false],[],fun x=>f x.1 x.2.1⟩)
theorem B2v:EF cfg [] [] f163 (M8 T1):=fun _=>by kernel_rfl
theorem U9:SQ (M8 J6):=sF MO E2 C6 func163 B2v
def S5(f:N1):Nat×Fn:=(159,⟨[.ptr (.pair (.rs 5 (.int .u8)) (.pair (.int .i64) (.pair (.int .i64) (.pair A6w (.sl 150 D9))))),.val false (.int .i64) false],[.val false (.int .i64)],fun x=>f x.1 x.2.1⟩)
theorem B1p{E7:J5}{A12:A4A}:EF cfg [M8 E7,B0G A12] [] f159 (S5 (A3c E7 A12)):=fun _=>by kernel_rfl
theorem A1i:SQ (S5 U1):=sF MO E2 (tc call163 U9 (tc call192 C01 C6)) func159 B1p
def A0N(f:V4):Nat×Fn:=(158,⟨[.ptr (.pair (.rs 5 (.int .u8)) (.pair (.int .i64) (.pair (.int .i64) (.pair A6w (.sl 150 D9))))),.val false (.int .i64) false],[.val true D9],fun x=>f x.1 x.2.1⟩)
theorem B2f{E7:J5}{B3j:B3H}:EF cfg [M8 E7,B8h B3j] [] f158 (A0N (A4L E7 B3j)):=fun _=>by kernel_rfl
theorem A4o:SQ (A0N R7):=sF MO E2 (tc call163 U9 (tc call191 D2k C6)) func158 B2f
def A2M(f:A2U):Nat×Fn:=(193,⟨[.ptr (.pair (.rs 5 (.int .u8)) (.pair (.int .i64) (.pair (.int .i64) (.pair A6w (.sl 150 D9)))))],[.val false .str],fun x=>f x.1⟩)
theorem B2w{E7:J5}{B0L:A9t}:EF cfg [M8 E7,B4N B0L] [] f193 (A2M (A2V E7 B0L)):=fun _=>by kernel_rfl
theorem B30:SQ (A2M A06):=sF MO E2 (tc call163 U9 (tc call218 C8B C6)) func193 B2w
def A1P(f:W3):Nat×Fn:=(160,⟨[.ptr (.pair (.rs 5 (.int .u8)) (.pair (.int .i64) (.pair (.int .i64) (.pair A6w (.sl 150 D9))))),.val false (.int .i64) false],[.val true D9],fun x=>f x.1 x.2.1⟩)
theorem B17{M2:V4}{I0:N1}{A16:A2U}:EF cfg [A0N M2,S5 I0,A2M A16] [(15,⟨[.b 6 [.str,.str],.b 1000 [.ro 5 (.int .u8),.int .i64,.int .i64,.int .i64,.own 100000000,.own 100000001],.r 100000000 150 D9,.r 100000001 150 D9],lt 22 6 (lt 10 11 [.r 43012,.r 43013,.r 55300,.r 55301,.r 112644,.r 112645]),false⟩)] f160 (A1P (A1M M2 I0 A16)):=fun _=>by kernel_rfl
theorem B18:SQ (A1P W4):=sF MO E2 (tc call158 A4o (tc call159 A1i (tc call193 B30 C6))) func160 B17
def A1j(f:A0C):Nat×Fn:=(162,⟨[.ptr (.pair (.rs 5 (.int .u8)) (.pair (.int .i64) (.pair (.int .i64) (.pair A6w (.sl 150 D9))))),.val false (.int .i64) false],[],fun x=>f x.1 x.2.1⟩)
theorem B1q{I0:N1}{E7:J5}{B7D:B65}:EF cfg [S5 I0,M8 E7,C0p B7D] [(3,⟨[.b 1000 [.ro 5 (.int .u8),.int .i64,.int .i64,.int .i64,.own 100000000,.own 100000001],.r 100000000 150 D9,.r 100000001 150 D9],lt 7 13 [.r 30724,.r 30725,.r 83972,.r 83973],true⟩)] f162 (A1j (A1c I0 E7 B7D)):=fun _=>by kernel_rfl
theorem B1r:SQ (A1j A1d):=sF MO E2 (tc call159 A1i (tc call163 U9 (tc call196 D4f C6))) func162 B1q
def A2N(f:U8):Nat×Fn:=(110,⟨[.ptr (.pair (.rs 5 (.int .u8)) (.pair (.int .i64) (.pair (.int .i64) (.pair A6w (.sl 150 D9))))),.val false (.int .i64) false],[],fun x=>f x.1 x.2.1⟩)
theorem B31{M2:V4}{I0:N1}{Q4:W3}{B0M:A9v}{A0F:A0C}{E7:J5}:EF cfg [A0N M2,S5 I0,A1P Q4,B4O B0M,A1j A0F,M8 E7] [(7,⟨[.b 5 [.str,.str],.b 1000 [.ro 5 (.int .u8),.int .i64,.int .i64,.int .i64,.own 100000000,.own 100000001],.r 100000000 150 D9,.r 100000001 150 D9],lt 16 27 [.r 1004,.r 1005,.r 75780,.r 75781,.r 100356,.r 100357,.r 104452,.r 104453,.r 124932,.r 124933,.r 165889],false⟩)] f110 (A2N (A2K M2 I0 Q4 B0M A0F E7)):=fun _=>by kernel_rfl
theorem B32:SQ (A2N P4):=sF MO E2 (tc call158 A4o (tc call159 A1i (tc call160 B18 (tc call161 C8D (tc call162 B1r (tc call163 U9 C6)))))) func110 B31
def B4P(f:B00):Nat×Fn:=(39,⟨[.val true (.pair (.int .i64) (.rs 150 D9)) false,.val false (.int .i64) false,.val false (.rs 5 (.int .u8)) false],[.val false (.sl 150 D9),.val true A6w,.val false (.int .i64)],fun x=>f x.1 x.2.1 x.2.2.1⟩)
theorem C8E{D3:I6}{T6:A3Q}{L2:A1p}{P5:U8}:EF cfg [T5 D3,B0m T6,A6Q L2,A2N P5] [(3,⟨[],lt 10 8 [],false⟩),(6,⟨[.t 17 false [.bool]],lt 10 7 [],true⟩),(15,⟨[.b 9 [.ro 5 (.int .u8),.int .i64,.int .i64,.int .i64,.own 100002000,.own 100002001],.r 100002000 150 D9,.r 100002001 150 D9],lt 24 12 [.r 94209,.r 149508,.r 149509],true⟩),(60,⟨[.b 9 [.ro 5 (.int .u8),.int .i64,.int .i64,.int .i64,.own 100002000,.own 100002001],.r 100002000 150 D9,.r 100002001 150 D9],lt 24 12 [.r 94209,.r 149508,.r 149509],false⟩)] f39 (B4P (B48 D3 T6 L2 P5)):=fun _=>by kernel_rfl
theorem C8F:SQ (B4P B01):=sF MO E2 (tc call61 A09 (tc call63 B8e (tc call64 B4K (tc call110 B32 C6)))) func39 C8E
def A87(f:A2W):Nat×Fn:=(83,⟨[.ptr C94,.val false (.int .i64) false],[.val false (.int .i64),.val false .bool],fun x=>f x.1 x.2.1⟩)
theorem D0i:EF cfg [] [(7,⟨[.t 6 false [.int .i64]],lt 7 21 [.x 20],true⟩),(28,⟨[.t 6 false [.int .i64]],lt 7 21 [.x 20],false⟩)] f83 (A87 B67):=fun _=>by kernel_rfl
theorem B6p:SQ (A87 A3d):=sF MO E2 C6 func83 D0i
def B6q(f:B1c):Nat×Fn:=(261,⟨[.val false (.int .i64) false],[.val false (.int .i64),.val false (.int .i64)],fun x=>f x.1⟩)
theorem D0j:EF cfg [] [(26,⟨[.t 5 false [.bool]],[.t 6,.t 7],true⟩)] f261 (B6q B68):=fun _=>by kernel_rfl
theorem D0k:SQ (B6q B1d):=sF MO E2 C6 func261 D0j
def B6r(f:B1e):Nat×Fn:=(262,⟨[.val false (.int .i64) false],[.val false (.int .i64),.val false (.int .i64)],fun x=>f x.1⟩)
theorem D0l:EF cfg [] [(26,⟨[.t 5 false [.bool]],[.t 6,.t 7],true⟩),(107,⟨[.t 8 false [.bool]],[.t 9,.t 10],true⟩),(431,⟨[.t 11 false [.bool]],[.t 12,.t 13],true⟩)] f262 (B6r B69):=fun _=>by kernel_rfl
theorem D0m:SQ (B6r B1f):=sF MO E2 C6 func262 D0l
def A88(f:A4P):Nat×Fn:=(263,⟨[.val false (.int .i64) false],[.val false (.int .i64),.val false (.int .i64)],fun x=>f x.1⟩)
theorem C2B:EF cfg [] [(26,⟨[.t 5 false [.bool]],lt 6 4 [],true⟩)] f263 (A88 A7o):=fun _=>by kernel_rfl
theorem C2C:SQ (A88 A4Q):=sF MO E2 C6 func263 C2B
def A9P(f:A54):Nat×Fn:=(264,⟨[.val false (.int .i64) false],[.val false (.int .i64),.val false (.int .i64)],fun x=>f x.1⟩)
theorem C3D:EF cfg [] [(26,⟨[.t 5 false [.bool]],lt 6 4 [],true⟩)] f264 (A9P A8u):=fun _=>by kernel_rfl
theorem C3E:SQ (A9P A55):=sF MO E2 C6 func264 C3D
def A89(f:A3F):Nat×Fn:=(240,⟨[.val false (.int .i64) false,.val false (.int .i64) false],[.val false (.int .i64),.val false (.int .i64)],fun x=>f x.1 x.2.1⟩)
theorem C7S{D3:I6}{B1u:B1c}{B1v:B1e}{A4V:A4P}{A5e:A54}:EF cfg [T5 D3,B6q B1u,B6r B1v,A88 A4V,A9P A5e] [] f240 (A89 (B2N D3 B1u B1v A4V A5e)):=fun _=>by kernel_rfl
theorem B8k:SQ (A89 A0G):=sF MO E2 (tc call61 A09 (tc call261 D0k (tc call262 D0m (tc call263 C2C (tc call264 C3E C6))))) func240 C7S
def A9Q(f:A56):Nat×Fn:=(241,⟨[.ptr A31,.val true (.pair (.int .i64) (.pair (.int .i64) (.pair C7n (.rs 5 (.int .u8))))) false],[],fun x=>f x.1 x.2.1⟩)
theorem C3F{C1:F7}:EF cfg [K6 C1] [] f241 (A9Q (A8v C1)):=fun _=>by kernel_rfl
theorem C3G:SQ (A9Q A57):=sF MO E2 (tc call144 N9 C6) func241 C3F
abbrev B6s:List PK:= [.ptr A31,.val true (.pair (.int .i64) (.pair (.int .i64) C7n)) false,.val false (.int .i64) false]
abbrev A8A:List RK:= []
def A8B(f:A1e):Nat×Fn:=(241,⟨B6s,A8A,fun x=>f x.1 x.2.1 x.2.2.1⟩)
def B6t:Fn:=(A8B A0H).2
theorem B6u(C1:F7):∀ x,E2T cfg [K6 C1] (B1L []) 24 [] (f241.body.getD .skip) A31 (.pair (.int .i64) (.pair (.int .i64) C7n)) (kr:=N8) 9 5 (fun x0=>x0.1.2.2.2.2.2.1) A8A x=A3e C1 x.1 x.2.1 x.2.2.1:=by intro x;kernel_rfl
theorem B6v:C0I prog ⟨241,B6t,9,6,5⟩:=E3j MO E2 (tc call144 N9 C6) func241 (by kernel_rfl) (lq:=9) (off:=5) (by decide) (by decide) (fun x0=>rfl) (fun x0=>rfl) (fun x1=>rfl) (B6u G7)
abbrev B2g:List PK:= [.ptr A31,.val false (.int .i64) false,.val false (.int .i64) false]
abbrev B2h:List RK:= [.val false (.int .i64)]
def A7B(f:A0o):Nat×Fn:=(216,⟨B2g,B2h,fun x=>f x.1 x.2.1 x.2.2.1⟩)
def C0q:Fn:=(A7B A24).2
theorem C0r(A0S:A3F)(A1l:A1e):∀ x,(D9j cfg [A89 A0S] ⟨241,(A8B A1l).2,9,6,5⟩ (B1L []) 40 [.tmp 6] (f216.body.getD .skip) B2g B2h).fn x=A70 A0S A1l x.1 x.2.1 x.2.2.1:=by intro x;kernel_rfl
theorem B2i:A1R prog 216 C0q:=smA MO E2 (tc call240 B8k C6) B6v call241 func216 (by kernel_rfl) (by decide) (C0r A0G A0H)
def C0s(f:B6A):Nat×Fn:=(238,⟨[.val false .bool false],[.val false (.int .i64)],fun x=>f x.1⟩)
theorem D4g:EF cfg [] [] f238 (C0s C6H):=fun _=>by kernel_rfl
theorem D4h:SQ (C0s B6B):=sF MO E2 C6 func238 D4g
def B19(f:A6a):Nat×Fn:=(136,⟨[.val false (.int .i64) false],[.val false .str,.val false (.int .i64)],fun x=>f x.1⟩)
theorem C4d:EF cfg [] [] f136 (B19 B0w):=fun _=>by kernel_rfl
theorem C4e:SQ (B19 A6b):=sF MO E2 C6 func136 C4d
def C7T(f:C1f):Nat×Fn:=(137,⟨[.val false .str false],[.val false .bool],fun x=>f x.1⟩)
theorem E0m{D3:I6}:EF cfg [T5 D3] [(3,⟨[],lt 3 30 [],false⟩),(26,⟨[.t 3 false [.int .i64]],lt 4 29 [],false⟩)] f137 (C7T (C6I D3)):=fun _=>by kernel_rfl
theorem E0n:SQ (C7T C1g):=sF MO E2 (tc call61 A09 C6) func137 E0m
def B6w(f:B1g):Nat×Fn:=(164,⟨[.val false .str false,.val false (.int .i64) false],[.val false (.int .i64),.val false .bool],fun x=>f x.1 x.2.1⟩)
theorem D0n{D3:I6}{A8L:A7f}:EF cfg [T5 D3,B8c A8L] [(15,⟨[.t 6 false [.int .i64]],lt 12 24 [.t 7],false⟩),(122,⟨[.t 6 false [.int .i64],.t 7 false [.int .i64]],lt 12 24 [],false⟩),(1956,⟨[],lt 18 10 [],false⟩)] f164 (B6w (B6D D3 A8L)):=fun _=>by kernel_rfl
theorem D0o:SQ (B6w B1h):=sF MO E2 (tc call61 A09 (tc call142 C7D C6)) func164 D0n
def B3f(f:A3R):Nat×Fn:=(258,⟨[.val false (.rs 150 D9) false,.val false .str false],[.val false .str,.val false (.int .i64)],fun x=>f x.1 x.2.1⟩)
theorem D2n:EF cfg [] [(7,⟨[.t 6 false [.str],.t 7 false [.int .i64]],lt 9 18 [.b 9],true⟩),(58,⟨[.t 6 false [.str],.t 7 false [.int .i64],.t 12 false [.int .i64]],lt 13 14 [.b 9,.t 9],false⟩)] f258 (B3f B8B):=fun _=>by kernel_rfl
theorem C4M:SQ (B3f R4):=sF MO E2 C6 func258 D2n
def C0t(f:B2O):Nat×Fn:=(285,⟨[.val false .str false],[.val false .bool],fun x=>f x.1⟩)
theorem D4i:EF cfg [] [(3,⟨[],lt 3 17 [],false⟩),(26,⟨[.t 3 false [.int .i64]],lt 4 16 [],false⟩)] f285 (C0t C0Q):=fun _=>by kernel_rfl
theorem D4j:SQ (C0t A71):=sF MO E2 C6 func285 D4i
def A1Q(f:W5):Nat×Fn:=(306,⟨[.val false (.rs 9 .str) false,.val false .str false],[.val false (.int .i64)],fun x=>f x.1 x.2.1⟩)
theorem B1A:EF cfg [] [(26,⟨[.t 8 false [.int .i64]],lt 9 8 [.t 5,.t 18],false⟩)] f306 (A1Q A1N):=fun _=>by kernel_rfl
theorem B1B:SQ (A1Q A1O):=sF MO E2 C6 func306 B1A
def A0i(f:O6):Nat×Fn:=(286,⟨[.val false (.rs 9 .str) false,.val false .str false],[.val false .bool],fun x=>f x.1 x.2.1⟩)
theorem A8W{W8:W5}:EF cfg [A1Q W8] [] f286 (A0i (A0h W8)):=fun _=>by kernel_rfl
theorem A8a:SQ (A0i J8):=sF MO E2 (tc call306 B1B C6) func286 A8W
def C0u(f:B6F):Nat×Fn:=(257,⟨[.val false (.rs 150 D9) false],[.val false .bool],fun x=>f x.1⟩)
theorem D4k{R6:A3R}{A9i:B2O}{L1:O6}:EF (cfg.withAr [(292,3,9)]) [B3f R6,C0t A9i,A0i L1] [(7,⟨[],lt 13 35 (lt 5 4 [.b 5,.r 27,.t 3]),false⟩),(58,⟨[.t 3 false [.bool],.t 15 false [.int .i64]],lt 16 32 (lt 5 4 [.b 5,.r 27]),false⟩),(122,⟨[.t 49 false [.int .i64]],lt 50 11 (lt 10 3 []),false⟩)] f257 (C0u (C0R R6 A9i L1)):=fun _=>by kernel_rfl
theorem D4l:SQ (C0u B6G):=sF MO (B26 (l:= [(292,3,9)]) E2 ⟨tA t292 ⟨false,.str,16,[]⟩ underlying292,trivial⟩) (tc call258 C4M (tc call285 D4j (tc call286 A8a C6))) func257 D4k
def B70(f:A7p):Nat×Fn:=(141,⟨[.val false (.int .i64) false],[.val false .str],fun x=>f x.1⟩)
theorem D0p:EF (cfg.withAr [(211,6,9)]) [] [] f141 (B70 C1h):=fun _=>by kernel_rfl
theorem D0q:SQ (B70 A1f):=sF MO (B26 (l:= [(211,6,9)]) E2 ⟨tA t211 ⟨false,.str,16,[]⟩ underlying211,trivial⟩) C6 func141 D0p
def C7U(f:C1i):Nat×Fn:=(259,⟨[.val false .str false],[.val false (.int .i64)],fun x=>f x.1⟩)
theorem E0o{A5f:A7p}:EF cfg [B70 A5f] [(26,⟨[.t 3 false [.int .i64]],lt 4 8 [],false⟩)] f259 (C7U (C6J A5f)):=fun _=>by kernel_rfl
theorem E0p:SQ (C7U C1j):=sF MO E2 (tc call141 D0q C6) func259 E0o
def A0O(f:S2):Nat×Fn:=(307,⟨[.val false .str false,.val false .str false],[.val false .bool],fun x=>f x.1 x.2.1⟩)
theorem A8C:EF cfg [] [] f307 (A0O A0I):=fun _=>by kernel_rfl
theorem A8D:SQ (A0O A0J):=sF MO E2 C6 func307 A8C
def A0P(f:S3):Nat×Fn:=(287,⟨[.val false .str false,.val false .str false],[.val false .str,.val false .bool],fun x=>f x.1 x.2.1⟩)
theorem A8E{S6:S2}:EF cfg [A0O S6] [] f287 (A0P (A0K S6)):=fun _=>by kernel_rfl
theorem A8F:SQ (A0P A0L):=sF MO E2 (tc call307 A8D C6) func287 A8E
def A68(f:A32):Nat×Fn:=(260,⟨[.val false .str false,.val false .str false],[.val false .str,.val false .bool],fun x=>f x.1 x.2.1⟩)
theorem B9h{S7:S3}:EF cfg [A0P S7] [] f260 (A68 (A63 S7)):=fun _=>by kernel_rfl
theorem B9i:SQ (A68 A1T):=sF MO E2 (tc call287 A8F C6) func260 B9h
def C3H(f:B9I):Nat×Fn:=(239,⟨[.val false (.rs 150 D9) false],[.val true C7n,.val false (.int .i64)],fun x=>f x.1⟩)
theorem D7u{A6p:A6a}{C2M:C1f}{B1w:B1g}{B7E:B6F}{R6:A3R}{C2N:C1i}{A35:A32}:EF cfg [B19 A6p,C7T C2M,B6w B1w,C0u B7E,B3f R6,C7U C2N,A68 A35] [(255,⟨[],lt 42 7 [],false⟩)] f239 (C3H (C2m A6p C2M B1w B7E R6 C2N A35)):=fun _=>by kernel_rfl
theorem D7v:SQ (C3H B9J):=sF MO E2 (tc call136 C4e (tc call137 E0n (tc call164 D0o (tc call257 D4l (tc call258 C4M (tc call259 E0p (tc call260 B9i C6))))))) func239 D7u
def A9R(f:A5A):Nat×Fn:=(214,⟨[.ptr A31,.val false (.int .i64) false,.val false .bool false,.val false (.rs 5 (.int .u8)) false],[.val false (.int .i64)],fun x=>f x.1 x.2.1 x.2.2.1 x.2.2.2.1⟩)
theorem C3I{B0N:B00}{S8:A2W}{O0:A0o}{B2o:B6A}{B9U:B9I}{A0S:A3F}{A5g:A56}:EF cfg [B4P B0N,A87 S8,A7B O0,C0s B2o,C3H B9U,A89 A0S,A9Q A5g] [(63,⟨[],lt 51 21 [.t 44,.t 45],false⟩),(1011,⟨[.t 51 false [.bool]],lt 52 12 [],true⟩)] f214 (A9R (A8w B0N S8 O0 B2o B9U A0S A5g)):=fun _=>by kernel_rfl
theorem C3J:SQ (A9R A5B):=sF MO E2 (tc call39 C8F (tc call83 B6p (tc call216 B2i (tc call238 D4h (tc call239 D7v (tc call240 B8k (tc call241 C3G C6))))))) func214 C3I
def B1C(f:A6c):Nat×Fn:=(186,⟨[.ptr A31,.val true (.pair (.int .i64) (.pair (.int .i64) (.pair (.int .i64) (.rs 5 (.int .u8))))) false],[.val false (.int .i64)],fun x=>f x.1 x.2.1⟩)
theorem C4f{C2O:C1b}{H0:P0}{A5h:A5A}:EF cfg [C7M C2O,A1u H0,A9R A5h] [(7,⟨[.t 5 false [.int .i64],.t 6 false [.bool]],lt 22 6 [],true⟩),(506,⟨[.t 45 false [.bool]],[.t 46,.t 47],true⟩)] f186 (B1C (B10 C2O H0 A5h)):=fun _=>by kernel_rfl
theorem C4g:SQ (B1C A6d):=sF MO E2 (tc call38 E0j (tc call109 A4F (tc call214 C3J C6))) func186 C4f
def B71(f:A90):Nat×Fn:=(145,⟨[.val false (.sl 5 (.int .u8)) false,.val false (.int .i64) false,.val false (.int .i64) false],[.val false (.sl 5 (.int .u8))],fun x=>f x.1 x.2.1 x.2.2.1⟩)
theorem D4m:EF cfg [] [(58,⟨[.t 0 false [.own 100000000],.t 7 false [.int .i64],.r 100000000 5 (.int .u8)],lt 12 13 [.r 23,.r 24,.r 1000],false⟩)] f145 (B71 C0S):=fun _=>by kernel_rfl
theorem C7V:SQ (B71 B2P):=sF MO E2 C6 func145 D4m
def B1s(f:A5C):Nat×Fn:=(69,⟨[.val false (.sl 5 (.int .u8)) false,.val true (.pair (.int .i64) (.pair (.int .i64) (.pair (.int .i64) (.rs 5 (.int .u8))))) false],[.val false (.sl 5 (.int .u8))],fun x=>f x.1 x.2.1⟩)
theorem D0r{A29:A90}:EF cfg [B71 A29] [] f69 (B1s (B6I A29)):=fun _=>by kernel_rfl
theorem C2D:SQ (B1s A7q):=sF MO E2 (tc call145 C7V C6) func69 D0r
def A8G(f:A4R):Nat×Fn:=(187,⟨[.ptr A31,.val true (.pair (.int .i64) (.pair (.int .i64) (.pair (.int .i64) (.rs 5 (.int .u8))))) false,.val false (.rs 5 (.int .u8)) false],[],fun x=>f x.1 x.2.1 x.2.2.1⟩)
theorem C2E{A1m:A5C}{H0:P0}:EF cfg [B1s A1m,A1u H0] [] f187 (A8G (A7r A1m H0)):=fun _=>by kernel_rfl
theorem C2F:SQ (A8G A4S):=sF MO E2 (tc call69 C2D (tc call109 A4F C6)) func187 C2E
def B72(f:B1i):Nat×Fn:=(188,⟨[.val false (.rs 5 (.int .u8)) false],[.val false (.int .i64),.val false .bool],fun x=>f x.1⟩)
theorem D0s{A2u:A8p}:EF cfg [B6m A2u] [] f188 (B72 (B6J A2u)):=fun _=>by kernel_rfl
theorem D0t:SQ (B72 B1j):=sF MO E2 (tc call155 C7J C6) func188 D0s
def A3k(f:A0p):Nat×Fn:=(215,⟨[.ptr A31,.val true (.pair (.int .i64) (.pair (.int .i64) (.pair (.int .i64) (.rs 5 (.int .u8))))) false],[.val false (.int .i64)],fun x=>f x.1 x.2.1⟩)
theorem C0v:EF cfg [] [] f215 (A3k A72):=fun _=>by kernel_rfl
theorem B2j:SQ (A3k A25):=sF MO E2 C6 func215 C0v
def B1D(f:A6e):Nat×Fn:=(189,⟨[.ptr A31,.val true (.pair (.int .i64) (.pair (.int .i64) (.pair (.int .i64) (.rs 5 (.int .u8))))) false],[.val false (.int .i64)],fun x=>f x.1 x.2.1⟩)
theorem C4h{S8:A2W}{A5d:B27}{H0:P0}{P8:A0p}{O0:A0o}:EF cfg [A87 S8,B9S A5d,A1u H0,A3k P8,A7B O0] [] f189 (B1D (B11 S8 A5d H0 P8 O0)):=fun _=>by kernel_rfl
theorem C4i:SQ (B1D A6f):=sF MO E2 (tc call83 B6p (tc call108 C9O (tc call109 A4F (tc call215 B2j (tc call216 B2i C6))))) func189 C4h
def A9S(f:A5D):Nat×Fn:=(190,⟨[.ptr A31,.val true (.pair (.int .i64) (.pair (.int .i64) (.pair (.int .i64) (.rs 5 (.int .u8))))) false],[.val false (.int .i64)],fun x=>f x.1 x.2.1⟩)
theorem C3K{S8:A2W}{R0:Q7}{P8:A0p}:EF cfg [A87 S8,A2J R0,A3k P8] [] f190 (A9S (A91 S8 R0 P8)):=fun _=>by kernel_rfl
theorem C3L:SQ (A9S A5E):=sF MO E2 (tc call83 B6p (tc call86 A7a (tc call215 B2j C6))) func190 C3K
def A9T(f:A3G):Nat×Fn:=(152,⟨[.ptr A31,.val true (.pair (.int .i64) (.pair (.int .i64) (.pair (.int .i64) (.rs 5 (.int .u8))))) false],[.val false (.int .i64)],fun x=>f x.1 x.2.1⟩)
theorem C3M{A11:A48}{A42:A6c}{A2g:A4R}{B20:B1i}{A6q:A6e}{A5i:A5D}:EF cfg [B0F A11,B1C A42,A8G A2g,B72 B20,B1D A6q,A9S A5i] [(122,⟨[.t 25 false [.bool]],[.t 26,.t 27],true⟩)] f152 (A9T (A92 A11 A42 A2g B20 A6q A5i)):=fun _=>by kernel_rfl
theorem C3N:SQ (A9T A1w):=sF MO E2 (tc call105 C00 (tc call186 C4g (tc call187 C2F (tc call188 D0t (tc call189 C4i (tc call190 C3L C6)))))) func152 C3M
def A8H(f:A4T):Nat×Fn:=(100,⟨[.ptr A31,.val false (.rs 5 (.int .u8)) false],[.val false (.int .i64)],fun x=>f x.1 x.2.1⟩)
theorem C2G{A0Q:A3b}{C1:F7}{A21:A3G}:EF cfg [B1n A0Q,K6 C1,A9T A21] [(14,⟨[.t 5 false [.int .i64],.b 1000 [.int .i64,.own 100000000,.int .i64,.bool,.own 100000001,.int .i64,.own 100000002,.int .i64,.own 100000003,.own 100000004,.int .i64,.int .i64,.own 100000005,.own 100000006],.r 100000000 5 (.int .u8),.r 100000001 5 (.int .u8),.r 100000002 150 D9,.r 100000003 150 D9,.r 100000004 113 N8,.r 100000005 75 A3P,.r 100000006 5 (.int .u8)],lt 28 7 (lt 6 14 [.b 6,.r 1001,.r 1004,.r 1006,.r 1008,.r 1009,.r 1012,.r 1013,.r 57347,.r 137217,.r 137220,.r 137222,.r 137224,.r 137225,.r 137228,.r 137229,.t 36]),false⟩)] f100 (A8H (A7s A0Q C1 A21)):=fun _=>by kernel_rfl
theorem C2H:SQ (A8H A7t):=sF MO E2 (tc call103 C29 (tc call144 N9 (tc call152 C3N C6))) func100 C2G
def A2O(f:A0j):Nat×Fn:=(101,⟨[.val false (.rs 27 (.sl 5 (.int .u8))) false],[.val false (.sl 5 (.int .u8))],fun x=>f x.1⟩)
theorem B33{A1F:A1D}:EF cfg [A7T A1F] [(7,⟨[.t 3 false [.int .i64]],lt 9 12 [.t 5,.t 22],true⟩),(58,⟨[.t 3 false [.int .i64],.t 11 false [.int .i64]],lt 12 9 [.t 5,.t 22],false⟩),(250,⟨[.t 6 false [.own 100002000],.t 27 false [.int .i64],.r 100002000 5 (.int .u8)],lt 28 7 [.r 33,.r 102400,.t 8],false⟩)] f101 (A2O (A2L A1F)):=fun _=>by kernel_rfl
theorem B34:SQ (A2O A0k):=sF MO E2 (tc call153 B5E C6) func101 B33
def B4Q(f:B02):Nat×Fn:=(154,⟨[.val false (.int .i64) false,.val false (.int .i64) false],[.val false (.sl 5 (.int .u8))],fun x=>f x.1 x.2.1⟩)
theorem C8G{A29:A90}:EF cfg [B71 A29] [] f154 (B4Q (B49 A29)):=fun _=>by kernel_rfl
theorem C8H:SQ (B4Q B4A):=sF MO E2 (tc call145 C7V C6) func154 C8G
def B2k(f:A7u):Nat×Fn:=(102,⟨[.ptr A31,.val false (.int .i64) false],[],fun x=>f x.1 x.2.1⟩)
theorem C7W{A1m:A5C}{B0O:B02}:EF cfg [B1s A1m,B4Q B0O] [] f102 (B2k (B2Q A1m B0O)):=fun _=>by kernel_rfl
theorem C7a:SQ (B2k A7v):=sF MO E2 (tc call69 C2D (tc call154 C8H C6)) func102 C7W
end
end Go.Proofs.YthnfghmjipikhaaGreatDoor.Ev
