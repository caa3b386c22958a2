/- Each function of the program does what its plain function says. -/
import Derived.Test.YthnfghmjipikhaaGreatDoorG1
set_option linter.unusedVariables false
set_option maxRecDepth 100000
namespace Go.Proofs.YthnfghmjipikhaaGreatDoor.Ev
open Tryz
noncomputable section
def A5m(f:A2w):Nat×Fn:=(99,⟨[.ptr A3l,.val false (.rs 5 (.int .u8)) false],[.val false (.rs 5 (.int .u8)),.val false (.int .i64)],fun x=>f x.1 x.2.1⟩)
theorem C2I:EF cfg [] [(3,⟨[.t 1 false [.ro 5 (.int .u8)],.b 1000 [.int .i64,.own 1001,.int .i64,.bool,.own 1004,.int .i64,.own 1006,.int .i64,.own 1008,.own 1009,.int .i64,.int .i64,.own 1012,.own 1013],.r 1001 5 (.int .u8),.r 1004 5 (.int .u8),.r 1006 150 C1,.r 1008 150 C1,.r 1009 113 H2,.r 1012 75 A0q,.r 1013 5 (.int .u8)],lt 6 32 [],false⟩),(12,⟨[.t 1 false [.ro 5 (.int .u8)],.b 1000 [.int .i64,.own 1001,.int .i64,.bool,.own 1004,.int .i64,.own 1006,.int .i64,.own 1008,.own 1009,.int .i64,.int .i64,.own 1012,.own 1013],.r 1001 5 (.int .u8),.r 1004 5 (.int .u8),.r 1006 150 C1,.r 1008 150 C1,.r 1009 113 H2,.r 1012 75 A0q,.r 1013 5 (.int .u8)],lt 6 32 [],false⟩),(24,⟨[],lt 6 11 [],false⟩)] f99 (A5m A0B):=fun _=>by kernel_rfl
theorem C2J:SQ (A5m S1):=sF MO C7 B8 func99 C2I
def B9K(f:B3q):Nat×Fn:=(33,⟨[.val true (.pair (.int .i64) (.pair (.rs 5 (.int .u8)) (.pair (.pair (.int .i64) (.pair .bool (.rs 5 (.int .u8)))) (.pair (.pair (.int .i64) (.rs 150 C1)) (.pair (.pair (.int .i64) (.rs 150 C1)) (.pair (.rs 113 H2) L2)))))) false,.val false (.rs 5 (.int .u8)) false],[.val true D3n,.val false (.sl 75 A0q),.val false (.sl 5 (.int .u8))],fun x=>f x.1 x.2.1⟩)
theorem D6O{A4j:B2b}{B6D:B5g}{A3C:A2w}{A70:A6l}{A1m:A1k}{B21:B19}:EF cfg [C25 A4j,C26 B6D,A5m A3C,B1p A70,A3w A1m,B7G B21] [(7,⟨[],lt 13 8 [],false⟩),(31,⟨[.t 9 false [.int .i64],.b 7 [.int .i64,.own 100001000,.int .i64,.bool,.own 100001001,.int .i64,.own 100001002,.int .i64,.own 100001003,.own 100001004,.int .i64,.int .i64,.own 100001005,.own 100001006],.r 100001000 5 (.int .u8),.r 100001001 5 (.int .u8),.r 100001002 150 C1,.r 100001003 150 C1,.r 100001004 113 H2,.r 100001005 75 A0q,.r 100001006 5 (.int .u8)],lt 28 8 [.r 33,.r 108545,.r 108548,.r 108550,.r 108552,.r 108553,.r 108556,.r 108557,.r 143360,.r 149505,.r 149508,.r 149510,.r 149512,.r 149513,.r 149516,.r 149517],true⟩),(63,⟨[.b 7 [.int .i64,.own 100002007,.int .i64,.bool,.own 100002008,.int .i64,.own 100002009,.int .i64,.own 100002010,.own 100002011,.int .i64,.int .i64,.own 100002012,.own 100002013],.r 100002007 5 (.int .u8),.r 100002008 5 (.int .u8),.r 100002009 150 C1,.r 100002010 150 C1,.r 100002011 113 H2,.r 100002012 75 A0q,.r 100002013 5 (.int .u8)],lt 36 4 [.r 165889,.r 165892,.r 165894,.r 165896,.r 165897,.r 165900,.r 165901,.r 100001000,.r 100001001,.r 100001002,.r 100001003,.r 100001004,.r 100001005,.r 100001006],true⟩)] f33 (B9K (B3r A4j B6D A3C A70 A1m B21)):=fun _=>by kernel_rfl
theorem D6P:SQ (B9K A4U):=sF MO C7 (tc call43 D5H (tc call82 D9O (tc call99 C2J (tc call100 C98 (tc call101 B7c (tc call102 D5U B8)))))) func33 D6O
def B4G(f:A4V):Nat×Fn:=(36,⟨[.val false (.rs 5 (.int .u8)) false,.val false (.rs 5 (.int .u8)) false],[.val false .bool],fun x=>f x.1 x.2.1⟩)
theorem D6Q:EF cfg [] [(58,⟨[.t 5 false [.int .i64]],lt 11 15 [],false⟩)] f36 (B4G B8r):=fun _=>by kernel_rfl
theorem C6I:SQ (B4G A4W):=sF MO C7 B8 func36 D6Q
def B7H(f:B1B):Nat×Fn:=(37,⟨[.val false (.rs 5 (.int .u8)) false],[.val false (.sl 82 A9u),.val false (.int .i64),.val false (.int .i64)],fun x=>f x.1⟩)
theorem D5V{O1:A23}:EF cfg [B1c O1] [(30,⟨[.t 5 false [.own 100000000],.t 6 false [.int .i64],.r 100000000 82 A9u],lt 22 5 (lt 7 12 [.b 7,.r 24,.r 25,.r 57347]),false⟩)] f37 (B7H (B6n O1)):=fun _=>by kernel_rfl
theorem D5W:SQ (B7H A7C):=sF MO C7 (tc call103 C24 B8) func37 D5V
def B9L(f:B3s):Nat×Fn:=(42,⟨[.val false (.rs 75 A0q) false,.val false (.rs 75 A0q) false],[.val false .bool],fun x=>f x.1 x.2.1⟩)
theorem D6R{A0U:A4V}:EF (cfg.withEq [(36,2010)]) [B4G A0U] [(58,⟨[.t 5 false [.int .i64]],lt 11 57 [],false⟩)] f42 (B9L (B8s A0U)):=fun _=>by kernel_rfl
theorem D6S:SQ (B9L A9G):=sF MO (D7J (l:= [(36,2010)]) C7 ⟨F4L,trivial⟩) (tc call36 C6I B8) func42 D6R
def A01(f:J1):Nat×Fn:=(53,⟨[.val false (.int .i64) false,.val false (.int .i64) false,.val false (.int .i64) false],[.val false .bool],fun x=>f x.1 x.2.1 x.2.2.1⟩)
theorem F0U:EF cfg [] [] f53 (A01 D3v):=fun _=>by kernel_rfl
theorem A0T:SQ (A01 M9):=sF MO C7 B8 func53 F0U
def D5a(f:C3n):Nat×Fn:=(173,⟨[.val true C1 false],[.val false (.int .i64)],fun x=>f x.1⟩)
theorem F0V:EF cfg [] [] f173 (D5a C8O):=fun _=>by kernel_rfl
theorem F0W:SQ (D5a B6o):=sF MO C7 B8 func173 F0V
def B7I(f:A4a):Nat×Fn:=(126,⟨[.val true (.pair (.int .i64) (.rs 150 C1)) false],[.val false (.int .i64)],fun x=>f x.1⟩)
theorem E46{C0M:C3n}:EF cfg [D5a C0M] [(58,⟨[.t 3 false [.int .i64],.t 4 false [.int .i64]],lt 5 15 [],false⟩)] f126 (B7I (C6r C0M)):=fun _=>by kernel_rfl
theorem C7S:SQ (B7I A7D):=sF MO C7 (tc call173 F0W B8) func126 E46
def A7M(f:A1b):Nat×Fn:=(51,⟨[.val true (.pair (.int .i64) (.rs 150 C1)) false],[.val false .bool],fun x=>f x.1⟩)
theorem E1t{C9:J1}{V1:A4a}:EF cfg [A01 C9,B7I V1] [] f51 (A7M (B4j C9 V1)):=fun _=>by kernel_rfl
theorem B4w:SQ (A7M A0N):=sF MO C7 (tc call53 A0T (tc call126 C7S B8)) func51 E1t
def B66(f:A7u):Nat×Fn:=(120,⟨[.val true (.pair (.int .i64) (.pair .bool (.rs 5 (.int .u8)))) false],[.val false .bool],fun x=>f x.1⟩)
theorem D9e{C9:J1}:EF cfg [A01 C9] [] f120 (B66 (B1C C9)):=fun _=>by kernel_rfl
theorem C99:SQ (B66 A30):=sF MO C7 (tc call53 A0T B8) func120 D9e
def C4c(f:B7t):Nat×Fn:=(121,⟨[.val true (.pair (.int .i64) (.pair (.rs 5 (.int .u8)) (.pair (.pair (.int .i64) (.pair .bool (.rs 5 (.int .u8)))) (.pair (.pair (.int .i64) (.rs 150 C1)) (.pair (.pair (.int .i64) (.rs 150 C1)) (.pair (.rs 113 H2) L2)))))) false],[.val false .bool],fun x=>f x.1⟩)
theorem E1u{C9:J1}:EF cfg [A01 C9] [(3,⟨[],lt 3 58 [.b 4],false⟩),(26,⟨[.t 3 false [.int .i64]],lt 4 57 [.b 4],false⟩)] f121 (C4c (C3o C9)):=fun _=>by kernel_rfl
theorem E1v:SQ (C4c B7u):=sF MO C7 (tc call53 A0T B8) func121 E1u
def C2K(f:B2i):Nat×Fn:=(171,⟨[.val false (.rs 5 (.int .u8)) false,.val false (.int .i64) false,.val false (.int .i64) false],[.val false (.int .i64),.val false .bool],fun x=>f x.1 x.2.1 x.2.2.1⟩)
theorem E47{C9:J1}:EF cfg [A01 C9] [(3,⟨[],lt 10 15 [],false⟩),(15,⟨[.t 8 false [.int .i64]],lt 25 15 [.t 9],true⟩),(122,⟨[.t 8 false [.int .i64],.t 9 false [.int .i64]],lt 25 15 [],false⟩)] f171 (C2K (C6s C9)):=fun _=>by kernel_rfl
theorem D5b:SQ (C2K B2j):=sF MO C7 (tc call53 A0T B8) func171 E47
def B67(f:A7v):Nat×Fn:=(122,⟨[.val false (.rs 5 (.int .u8)) false,.val false (.int .i64) false],[.val true A9u,.val false (.int .i64),.val false (.int .i64)],fun x=>f x.1 x.2.1⟩)
theorem D9f{A4k:B2i}:EF cfg [C2K A4k] [(15,⟨[],lt 39 8 (lt 34 3 (lt 25 7 [])),false⟩),(60,⟨[.t 25 false [.bool]],lt 26 6 [],true⟩)] f122 (B67 (C1Q A4k)):=fun _=>by kernel_rfl
theorem C9A:SQ (B67 A7w):=sF MO C7 (tc call171 D5b B8) func122 D9f
def C2L(f:B2k):Nat×Fn:=(46,⟨[.val true (.pair (.int .i64) (.pair (.rs 5 (.int .u8)) (.pair (.pair (.int .i64) (.pair .bool (.rs 5 (.int .u8)))) (.pair (.pair (.int .i64) (.rs 150 C1)) (.pair (.pair (.int .i64) (.rs 150 C1)) (.pair (.rs 113 H2) L2)))))) false],[.val false .bool],fun x=>f x.1⟩)
theorem E48{L8:A1b}{C9:J1}{A3D:A7u}{B8Q:B7t}{A3E:A7v}:EF cfg [A7M L8,A01 C9,B66 A3D,C4c B8Q,B67 A3E] [(3,⟨[],lt 6 45 [],false⟩),(15,⟨[],lt 58 13 [],false⟩)] f46 (C2L (C1R L8 C9 A3D B8Q A3E)):=fun _=>by kernel_rfl
theorem D5c:SQ (C2L A1r):=sF MO C7 (tc call51 B4w (tc call53 A0T (tc call120 C99 (tc call121 E1v (tc call122 C9A B8))))) func46 E48
def A7N(f:A0l):Nat×Fn:=(54,⟨[.val true (.pair (.int .i64) (.rs 150 C1)) false],[.val true T0],fun x=>f x.1⟩)
theorem E49:EF cfg [] [] f54 (A7N C6t):=fun _=>by kernel_rfl
theorem B3F:SQ (A7N A4b):=sF MO C7 B8 func54 E49
def C2M(f:B2l):Nat×Fn:=(148,⟨[.val true (.pair (.int .i64) (.pair .bool (.rs 5 (.int .u8)))) false],[.val true A1j],fun x=>f x.1⟩)
theorem E4A:EF cfg [] [] f148 (C2M C6u):=fun _=>by kernel_rfl
theorem D5d:SQ (C2M B6p):=sF MO C7 B8 func148 E4A
def C4d(f:B7v):Nat×Fn:=(76,⟨[.val true (.pair (.int .i64) (.pair (.rs 5 (.int .u8)) (.pair (.pair (.int .i64) (.pair .bool (.rs 5 (.int .u8)))) (.pair (.pair (.int .i64) (.rs 150 C1)) (.pair (.pair (.int .i64) (.rs 150 C1)) (.pair (.rs 113 H2) L2)))))) false],[.val true D3n],fun x=>f x.1⟩)
theorem E1w{J8:A0l}{A2j:B2l}:EF cfg [A7N J8,C2M A2j] [(2042,⟨[.t 4 false [.int .i64],.b 3 [.int .i64,.own 10,.int .i64,.bool,.own 61442,.int .i64,.own 77825,.int .i64,.own 94209,.own 100000000,.int .i64,.int .i64],.r 10 5 (.int .u8),.r 61442 5 (.int .u8),.r 77825 150 C1,.r 94209 150 C1,.r 100000000 113 H2],lt 26 23 [.b 5,.r 24,.r 38,.r 41,.r 46,.r 47,.t 5],false⟩)] f76 (C4d (C3p J8 A2j)):=fun _=>by kernel_rfl
theorem E20:SQ (C4d B7w):=sF MO C7 (tc call54 B3F (tc call148 D5d B8)) func76 E1w
def B8F(f:B0M):Nat×Fn:=(133,⟨[.val true (.pair (.int .i64) (.pair (.int .i64) (.pair (.int .i64) (.rs 5 (.int .u8))))) false],[.val false .bool],fun x=>f x.1⟩)
theorem E21{C9:J1}:EF cfg [A01 C9] [] f133 (B8F (C3q C9)):=fun _=>by kernel_rfl
theorem D1p:SQ (B8F B0N):=sF MO C7 (tc call53 A0T B8) func133 E21
def C2N(f:B2m):Nat×Fn:=(134,⟨[.val false (.rs 5 (.int .u8)) false,.val false (.int .i64) false,.val false (.int .i64) false],[.val false (.sl 5 (.int .u8))],fun x=>f x.1 x.2.1 x.2.2.1⟩)
theorem E4B{C9:J1}:EF cfg [A01 C9] [(7,⟨[.t 1 false [.int .i64]],[.t 12,.t 13],true⟩),(250,⟨[.t 7 false [.own 100001000],.t 8 false [.int .i64],.r 100001000 5 (.int .u8)],lt 20 13 [.r 11,.r 31,.r 32],false⟩)] f134 (C2N (C6v C9)):=fun _=>by kernel_rfl
theorem D5e:SQ (C2N B6q):=sF MO C7 (tc call53 A0T B8) func134 E4B
def A5n(f:S2):Nat×Fn:=(59,⟨[.val true (.pair (.int .i64) (.pair (.int .i64) (.pair (.int .i64) (.rs 5 (.int .u8))))) false],[.val false (.sl 5 (.int .u8))],fun x=>f x.1⟩)
theorem D9g{A4I:B0M}{A3i:B2m}:EF cfg [B8F A4I,C2N A3i] [] f59 (A5n (C1S A4I A3i)):=fun _=>by kernel_rfl
theorem B1q:SQ (A5n A0C):=sF MO C7 (tc call133 D1p (tc call134 D5e B8)) func59 D9g
def B9M(f:B3v):Nat×Fn:=(200,⟨[.val false (.int .i64) false,.val false (.int .i64) false],[.val false (.sl 5 (.int .u8))],fun x=>f x.1 x.2.1⟩)
theorem D6T{A3i:B2m}:EF cfg [C2N A3i] [] f200 (B9M (B8t A3i)):=fun _=>by kernel_rfl
theorem D6U:SQ (B9M B8u):=sF MO C7 (tc call134 D5e B8) func200 D6T
def C7T(f:C1T):Nat×Fn:=(221,⟨[.val true (.pair (.int .i64) (.pair (.int .i64) (.pair (.int .i64) (.rs 5 (.int .u8))))) false],[.val false .bool],fun x=>f x.1⟩)
theorem E4C:EF cfg [] [(235,⟨[.t 13 false [.bool]],[.t 14,.t 15],true⟩)] f221 (C7T C6w):=fun _=>by kernel_rfl
theorem E4D:SQ (C7T C1U):=sF MO C7 B8 func221 E4C
def B4H(f:A6K):Nat×Fn:=(201,⟨[.val true (.pair (.int .i64) (.pair (.int .i64) (.pair (.int .i64) (.rs 5 (.int .u8))))) false],[.val false (.int .i64)],fun x=>f x.1⟩)
theorem D6V{A4I:B0M}{C2d:C1T}:EF cfg [B8F A4I,C7T C2d] [(3,⟨[],lt 3 8 [],false⟩),(58,⟨[.t 13 false [.bool]],lt 14 6 [],true⟩)] f201 (B4H (B8v A4I C2d)):=fun _=>by kernel_rfl
theorem C6J:SQ (B4H A9H):=sF MO C7 (tc call133 D1p (tc call221 E4D B8)) func201 D6V
def C5M(f:B6L):Nat×Fn:=(224,⟨[.val true (.pair (.int .i64) (.pair (.int .i64) (.pair (.int .i64) (.rs 5 (.int .u8))))) false],[.val false (.sl 5 (.int .u8)),.val false .bool],fun x=>f x.1⟩)
theorem E7V:EF cfg [] [(7,⟨[.t 4 false [.ro 5 (.int .u8)]],lt 25 9 (lt 7 17 []),false⟩),(30,⟨[.t 42 false [.bool]],lt 34 8 [],true⟩),(58,⟨[],lt 11 13 [],false⟩)] f224 (C5M C9r):=fun _=>by kernel_rfl
theorem D83:SQ (C5M B9m):=sF MO C7 B8 func224 E7V
def D5f(f:C8P):Nat×Fn:=(222,⟨[.val true (.pair (.int .i64) (.pair .bool (.rs 5 (.int .u8)))) false,.val true (.pair (.int .i64) (.pair (.int .i64) (.pair (.int .i64) (.rs 5 (.int .u8))))) false],[.val true A1j,.val false (.sl 5 (.int .u8)),.val false (.int .i64)],fun x=>f x.1 x.2.1⟩)
theorem F0a{A3D:A7u}{A2j:B2l}{A26:A6K}{A8a:B6L}:EF cfg [B66 A3D,C2M A2j,B4H A26,C5M A8a] [(7,⟨[],lt 12 35 [],false⟩),(14,⟨[.t 46 false [.bool]],lt 12 34 [],true⟩),(31,⟨[.b 8 [.int .i64,.bool,.own 100002000],.r 100002000 5 (.int .u8)],lt 68 16 (lt 56 9 [.r 82,.r 212994,.r 249856,.t 9,.t 10,.t 52,.t 53]),false⟩)] f222 (D5f (D3w A3D A2j A26 A8a)):=fun _=>by kernel_rfl
theorem F0b:SQ (D5f C8Q):=sF MO C7 (tc call120 C99 (tc call148 D5d (tc call201 C6J (tc call224 D83 B8)))) func222 F0a
def C0F(f:B0P):Nat×Fn:=(77,⟨[.val true (.pair (.int .i64) (.pair (.rs 5 (.int .u8)) (.pair (.pair (.int .i64) (.pair .bool (.rs 5 (.int .u8)))) (.pair (.pair (.int .i64) (.rs 150 C1)) (.pair (.pair (.int .i64) (.rs 150 C1)) (.pair (.rs 113 H2) L2)))))) false,.val false (.int .i64) false],[.val false (.int .i64)],fun x=>f x.1 x.2.1⟩)
theorem E7W:EF cfg [] [(26,⟨[.t 5 false [.int .i64]],lt 6 15 [],false⟩)] f77 (C0F D7M):=fun _=>by kernel_rfl
theorem D0c:SQ (C0F B2n):=sF MO C7 B8 func77 E7W
def C7U(f:C1V):Nat×Fn:=(270,⟨[.val false (.int .i64) false],[.val false (.int .i64),.val false (.int .i64)],fun x=>f x.1⟩)
theorem E4E:EF cfg [] [(26,⟨[.t 5 false [.bool]],[.t 6,.t 7],true⟩)] f270 (C7U D40):=fun _=>by kernel_rfl
theorem E4F:SQ (C7U D41):=sF MO C7 B8 func270 E4E
def C7V(f:C1W):Nat×Fn:=(271,⟨[.val false (.int .i64) false],[.val false (.int .i64),.val false (.int .i64)],fun x=>f x.1⟩)
theorem E4G:EF cfg [] [(26,⟨[.t 5 false [.bool]],[.t 6,.t 7],true⟩),(107,⟨[.t 8 false [.bool]],[.t 9,.t 10],true⟩),(431,⟨[.t 11 false [.bool]],[.t 12,.t 13],true⟩)] f271 (C7V D42):=fun _=>by kernel_rfl
theorem E4H:SQ (C7V D43):=sF MO C7 B8 func271 E4G
def C4e(f:B81):Nat×Fn:=(272,⟨[.val false (.int .i64) false],[.val false (.int .i64),.val false (.int .i64)],fun x=>f x.1⟩)
theorem E22:EF cfg [] [(26,⟨[.t 5 false [.bool]],lt 6 4 [],true⟩)] f272 (C4e D1U):=fun _=>by kernel_rfl
theorem E23:SQ (C4e D1V):=sF MO C7 B8 func272 E22
def C7W(f:C1a):Nat×Fn:=(273,⟨[.val false (.int .i64) false],[.val false (.int .i64),.val false (.int .i64)],fun x=>f x.1⟩)
theorem E4I:EF cfg [] [(26,⟨[.t 5 false [.bool]],lt 6 4 [],true⟩)] f273 (C7W D44):=fun _=>by kernel_rfl
theorem E4J:SQ (C7W D45):=sF MO C7 B8 func273 E4I
def B7J(f:B1E):Nat×Fn:=(246,⟨[.val false (.int .i64) false,.val false (.int .i64) false],[.val false (.int .i64),.val false (.int .i64)],fun x=>f x.1 x.2.1⟩)
theorem D5g{C9:J1}{C2e:C1V}{C2f:C1W}{B8R:B81}{C2g:C1a}:EF cfg [A01 C9,C7U C2e,C7V C2f,C4e B8R,C7W C2g] [] f246 (B7J (B6r C9 C2e C2f B8R C2g)):=fun _=>by kernel_rfl
theorem D5h:SQ (B7J B1F):=sF MO C7 (tc call53 A0T (tc call270 E4F (tc call271 E4H (tc call272 E23 (tc call273 E4J B8))))) func246 D5g
def D0d(f:C5C):Nat×Fn:=(207,⟨[.val true T0 false],[.val true T0],fun x=>f x.1⟩)
theorem E7a{V1:A4a}:EF cfg [B7I V1] [(12,⟨[.b 1 [.int .i64,.own 100000000],.r 100000000 150 C1],lt 3 13 [.r 1001],false⟩)] f207 (D0d (D7N V1)):=fun _=>by kernel_rfl
theorem E7b:SQ (D0d D7O):=sF MO C7 (tc call126 C7S B8) func207 E7a
def D0e(f:B9n):Nat×Fn:=(178,⟨[.val true (.pair (.int .i64) (.rs 150 C1)) false,.val true C1 false],[.val true T0],fun x=>f x.1 x.2.1⟩)
theorem E7c{C5Q:C5C}:EF cfg [D0d C5Q] [] f178 (D0e (D7P C5Q)):=fun _=>by kernel_rfl
theorem E7d:SQ (D0e C5D):=sF MO C7 (tc call207 E7b B8) func178 E7c
def A6S(f:A17):Nat×Fn:=(288,⟨[.val false (.rs 5 (.int .u8)) false,.val false (.int .i64) false,.val false (.int .i64) false],[.val false (.int .i64),.val false (.int .i64),.val false .bool],fun x=>f x.1 x.2.1 x.2.2.1⟩)
theorem D6W{C9:J1}:EF cfg [A01 C9] [(3,⟨[],lt 13 11 [],false⟩),(63,⟨[],lt 41 31 (lt 10 3 []),false⟩),(506,⟨[.t 10 false [.int .i64],.t 11 false [.int .i64]],lt 41 31 [.t 12],false⟩),(1012,⟨[],lt 41 11 [],false⟩)] f288 (A6S (B8w C9)):=fun _=>by kernel_rfl
theorem B4I:SQ (A6S A4c):=sF MO C7 (tc call53 A0T B8) func288 D6W
def B8G(f:B0Q):Nat×Fn:=(205,⟨[],[.val false (.sl 150 C1)],fun x=>f⟩)
theorem E24:EF cfg [] [] f205 (B8G D1W):=fun _=>by kernel_rfl
theorem D1q:SQ (B8G B4l):=sF MO C7 B8 func205 E24
def B7K(f:B1I):Nat×Fn:=(308,⟨[.val false (.int .i64) false],[.val true C1,.val false .bool],fun x=>f x.1⟩)
theorem D5i{C9:J1}{A4J:B0Q}:EF cfg [A01 C9,B8G A4J] [] f308 (B7K (B6s C9 A4J)):=fun _=>by kernel_rfl
theorem D5j:SQ (B7K B6t):=sF MO C7 (tc call53 A0T (tc call205 D1q B8)) func308 D5i
def B8H(f:B0R):Nat×Fn:=(289,⟨[.val true (.pair (.int .i64) (.rs 150 C1)) false,.val false (.int .i64) false],[.val true C1,.val false .bool],fun x=>f x.1 x.2.1⟩)
theorem E25{B23:B1I}:EF cfg [B7K B23] [] f289 (B8H (C3t B23)):=fun _=>by kernel_rfl
theorem D1r:SQ (B8H B4m):=sF MO C7 (tc call308 D5j B8) func289 E25
def A9l(f:A42):Nat×Fn:=(207,⟨[.val true (.pair (.int .i64) (.rs 150 C1)) false],[.val true (.pair (.int .i64) (.rs 150 C1))],fun x=>f x.1⟩)
theorem D2G{V1:A4a}:EF cfg [B7I V1] [(12,⟨[.b 1 [.int .i64,.ro 150 C1]],lt 3 13 [],false⟩)] f207 (A9l (B5C V1)):=fun _=>by kernel_rfl
theorem C33:SQ (A9l A63):=sF MO C7 (tc call126 C7S B8) func207 D2G
def B3G(f:A82):Nat×Fn:=(309,⟨[.val true (.pair (.int .i64) (.rs 150 C1)) false,.val false (.int .i64) false],[.val true (.pair (.int .i64) (.rs 150 C1))],fun x=>f x.1 x.2.1⟩)
theorem D0f{L8:A1b}{C9:J1}{J8:A0l}{A0f:A42}:EF cfg [A7M L8,A01 C9,A7N J8,A9l A0f] [(7,⟨[],lt 8 8 [],false⟩)] f309 (B3G (B2o L8 C9 J8 A0f)):=fun _=>by kernel_rfl
theorem D0g:SQ (B3G A83):=sF MO C7 (tc call51 B4w (tc call53 A0T (tc call54 B3F (tc call207 C33 B8)))) func309 D0f
def B7L(f:A7E):Nat×Fn:=(228,⟨[],[.val false (.sl 3 (.int .i64))],fun x=>f⟩)
theorem E4K:EF cfg [] [] f228 (B7L D46):=fun _=>by kernel_rfl
theorem C7a:SQ (B7L B6u):=sF MO C7 B8 func228 E4K
def B8I(f:B0S):Nat×Fn:=(229,⟨[],[.val false (.sl 3 (.int .i64))],fun x=>f⟩)
theorem E26{A1K:A7E}:EF cfg [B7L A1K] [(506,⟨[.t 2 false [.own 8],.t 3 false [.int .i64],.t 4 false [.int .i64],.t 5 false [.int .i64],.r 8 3 (.int .i64)],lt 9 28 [.t 6,.x 19,.x 36],false⟩),(32402,⟨[.t 2 false [.own 8],.t 3 false [.int .i64],.t 4 false [.int .i64],.t 6 false [.int .i64],.r 8 3 (.int .i64)],lt 13 24 [.x 19,.x 36],false⟩)] f229 (B8I (C3u A1K)):=fun _=>by kernel_rfl
theorem D1s:SQ (B8I B0T):=sF MO C7 (tc call228 C7a B8) func229 E26
def C7b(f:B6v):Nat×Fn:=(317,⟨[.val false (.rs 3 (.int .i64)) false,.val false (.rs 3 (.int .i64)) false,.val false (.int .i64) false,.val false (.int .i64) false],[.val false (.int .i64)],fun x=>f x.1 x.2.1 x.2.2.1 x.2.2.2.1⟩)
theorem E4L:EF cfg [] [(26,⟨[.t 9 false [.int .i64]],lt 10 18 [],false⟩)] f317 (C7b C70):=fun _=>by kernel_rfl
theorem E4M:SQ (C7b A7F):=sF MO C7 B8 func317 E4L
def C7c(f:C1d):Nat×Fn:=(316,⟨[.val false (.rs 5 (.int .u8)) false],[.val false .str,.val false .bool],fun x=>f x.1⟩)
theorem E4N{A1K:A7E}{A4K:B0S}{B3V:B6v}:EF cfg [B7L A1K,B8I A4K,C7b B3V] [(127,⟨[.t 6 false [.own 100000000],.t 7 false [.int .i64],.t 8 false [.int .i64],.r 100000000 5 (.int .u8)],lt 14 38 [.r 13,.r 50,.r 51,.t 9,.t 10],false⟩),(1018,⟨[.t 6 false [.own 100000000],.t 7 false [.int .i64],.t 8 false [.int .i64],.t 9 false [.int .i64],.r 100000000 5 (.int .u8)],lt 14 38 [.r 13,.r 50,.r 51,.t 10],false⟩)] f316 (C7c (C71 A1K A4K B3V)):=fun _=>by kernel_rfl
theorem E4O:SQ (C7c C1e):=sF MO C7 (tc call228 C7a (tc call229 D1s (tc call317 E4M B8))) func316 E4N
def B9N(f:B40):Nat×Fn:=(310,⟨[.val false (.rs 5 (.int .u8)) false,.val false (.int .i64) false],[.val false .str,.val false (.int .i64),.val false .bool],fun x=>f x.1 x.2.1⟩)
theorem D6a{M5:A17}{C2h:C1d}:EF cfg [A6S M5,C7c C2h] [(7,⟨[],lt 19 14 [],false⟩)] f310 (B9N (B90 M5 C2h)):=fun _=>by kernel_rfl
theorem D6b:SQ (B9N B41):=sF MO C7 (tc call288 B4I (tc call316 E4O B8)) func310 D6a
def B9O(f:B42):Nat×Fn:=(291,⟨[.val true (.pair (.int .i64) (.rs 150 C1)) false,.val false (.rs 5 (.int .u8)) false,.val false (.int .i64) false,.val false (.int .i64) false],[.val true C1,.val false (.int .i64),.val false (.int .i64)],fun x=>f x.1 x.2.1 x.2.2.1 x.2.2.2.1⟩)
theorem D6c{M5:A17}{A4L:B0R}{A9P:B40}:EF cfg [A6S M5,B8H A4L,B9N A9P] [(31,⟨[.t 13 false [.int .i64],.b 11 [.str,.str]],lt 51 3 (lt 42 8 (lt 29 12 (lt 14 3 [.b 15]))),false⟩)] f291 (B9O (B91 M5 A4L A9P)):=fun _=>by kernel_rfl
theorem D6d:SQ (B9O B43):=sF MO C7 (tc call288 B4I (tc call289 D1r (tc call310 D6b B8))) func291 D6c
def A9m(f:A43):Nat×Fn:=(178,⟨[.val true (.pair (.int .i64) (.rs 150 C1)) false,.val true C1 false],[.val true (.pair (.int .i64) (.rs 150 C1))],fun x=>f x.1 x.2.1⟩)
theorem D2H{A0f:A42}:EF cfg [A9l A0f] [] f178 (A9m (B5D A0f)):=fun _=>by kernel_rfl
theorem C34:SQ (A9m A2d):=sF MO C7 (tc call207 C33 B8) func178 D2H
def A7O(f:A4C):Nat×Fn:=(290,⟨[.ptr (.pair (.pair (.int .i64) (.rs 150 C1)) (.pair (.int .i64) (.pair (.rs 5 (.int .u8)) T0)))],[.val false (.int .i64)],fun x=>f x.1⟩)
theorem C4f{M5:A17}{A8b:A82}:EF cfg [A6S M5,B3G A8b] [(7,⟨[],lt 19 18 [],false⟩)] f290 (A7O (A7G M5 A8b)):=fun _=>by kernel_rfl
theorem C4g:SQ (A7O A7H):=sF MO C7 (tc call288 B4I (tc call309 D0g B8)) func290 C4f
def A95(f:A2l):Nat×Fn:=(268,⟨[.ptr (.pair (.pair (.int .i64) (.rs 150 C1)) (.pair (.int .i64) (.pair (.rs 5 (.int .u8)) T0)))],[.val false (.int .i64)],fun x=>f x.1⟩)
theorem C5f{A0g:A43}{M5:A17}{A4L:B0R}{A4M:A4C}{B4S:B42}:EF cfg [A9m A0g,A6S M5,B8H A4L,A7O A4M,B9O B4S] [(7,⟨[],lt 66 7 (lt 23 3 []),false⟩),(31,⟨[.t 9 false [.int .i64]],[.t 75,.t 76],true⟩),(255,⟨[.b 1000 [.int .i64,.ro 150 C1,.int .i64,.ro 5 (.int .u8),.int .i64,.own 1005],.r 1005 150 C1],lt 98 11 [],true⟩)] f268 (A95 (A90 A0g M5 A4L A4M B4S)):=fun _=>by kernel_rfl
theorem C5g:SQ (A95 A1R):=sF MO C7 (tc call178 C34 (tc call288 B4I (tc call289 D1r (tc call290 C4g (tc call291 D6d B8))))) func268 C5f
def C5N(f:B6M):Nat×Fn:=(127,⟨[.val false .str false],[.val false .bool],fun x=>f x.1⟩)
theorem E7e{C9:J1}:EF cfg [A01 C9] [(3,⟨[],lt 3 21 [],false⟩),(26,⟨[.t 3 false [.int .i64]],lt 4 20 [],false⟩)] f127 (C5N (C9s C9)):=fun _=>by kernel_rfl
theorem D84:SQ (C5N B6N):=sF MO C7 (tc call53 A0T B8) func127 E7e
def B50(f:A5S):Nat×Fn:=(128,⟨[.val false (.int .i64) false],[.val false (.int .i64)],fun x=>f x.1⟩)
theorem E27:EF cfg [] [] f128 (B50 B4n):=fun _=>by kernel_rfl
theorem C4h:SQ (B50 A4D):=sF MO C7 B8 func128 E27
def B4J(f:A4d):Nat×Fn:=(130,⟨[.val false (.int .i64) false],[.val false .str],fun x=>f x.1⟩)
theorem D6e:EF cfg [] [] f130 (B4J C61):=fun _=>by kernel_rfl
theorem C6K:SQ (B4J A4e):=sF MO C7 B8 func130 D6e
def B8J(f:B0U):Nat×Fn:=(131,⟨[.val false (.int .i64) false],[.val false .str],fun x=>f x.1⟩)
theorem E28:EF cfg [] [] f131 (B8J C3v):=fun _=>by kernel_rfl
theorem D1t:SQ (B8J B0V):=sF MO C7 B8 func131 E28
def B68(f:A5g):Nat×Fn:=(295,⟨[.val false (.rs 150 C1) false,.val false .str false],[.val false (.int .i64)],fun x=>f x.1 x.2.1⟩)
theorem D9h:EF cfg [] [(58,⟨[.t 5 false [.int .i64],.t 6 false [.int .i64]],lt 7 15 [],false⟩)] f295 (B68 C1f):=fun _=>by kernel_rfl
theorem C9B:SQ (B68 A31):=sF MO C7 B8 func295 D9h
def C4i(f:B83):Nat×Fn:=(292,⟨[.val false (.rs 150 C1) false],[.val false .bool],fun x=>f x.1⟩)
theorem E29{C9:J1}{P3:A5g}:EF cfg [A01 C9,B68 P3] [(7,⟨[],lt 3 56 [],false⟩),(58,⟨[.t 3 false [.bool],.t 4 false [.int .i64]],lt 5 54 [],false⟩),(3731,⟨[],lt 20 11 [.t 6],false⟩),(29850,⟨[.t 6 false [.int .i64]],lt 20 11 [],false⟩)] f292 (C4i (C3w C9 P3)):=fun _=>by kernel_rfl
theorem E2A:SQ (C4i B84):=sF MO C7 (tc call53 A0T (tc call295 C9B B8)) func292 E29
def C2O(f:B1M):Nat×Fn:=(293,⟨[.val false (.rs 150 C1) false,.val false .str false],[.val false .str],fun x=>f x.1 x.2.1⟩)
theorem D9i:EF cfg [] [(26,⟨[.t 5 false [.int .i64]],lt 6 13 [],false⟩)] f293 (C2O C1g):=fun _=>by kernel_rfl
theorem D9j:SQ (C2O A84):=sF MO C7 B8 func293 D9i
def B9P(f:B44):Nat×Fn:=(294,⟨[.val false .str false,.val false (.int .i64) false],[.val false (.int .i64),.val false .bool],fun x=>f x.1 x.2.1⟩)
theorem D6f{C9:J1}:EF cfg [A01 C9] [(7,⟨[],lt 8 14 [],false⟩),(15,⟨[.t 6 false [.int .i64]],lt 22 20 [.t 7],false⟩),(122,⟨[.t 6 false [.int .i64],.t 7 false [.int .i64]],lt 22 20 [],false⟩)] f294 (B9P (B92 C9)):=fun _=>by kernel_rfl
theorem D6g:SQ (B9P B45):=sF MO C7 (tc call53 A0T B8) func294 D6f
def D0h(f:C5E):Nat×Fn:=(269,⟨[.val false (.rs 150 C1) false],[.val true D3m,.val false (.int .i64)],fun x=>f x.1⟩)
theorem E7f{A8c:B6M}{A0O:A5S}{A0V:A4d}{A4O:B0U}{B8S:B83}{A4N:B1M}{B4T:B44}{P3:A5g}:EF cfg [C5N A8c,B50 A0O,B4J A0V,B8J A4O,C4i B8S,C2O A4N,B9P B4T,B68 P3] [(31,⟨[.b 5 [.int .i64,.str,.int .i64]],lt 17 11 [.t 6],true⟩),(127,⟨[],lt 35 15 (lt 30 4 []),false⟩),(250,⟨[.t 6 false [.int .i64],.b 5 [.int .i64,.str,.int .i64]],lt 17 11 [],false⟩)] f269 (D0h (C9t A8c A0O A0V A4O B8S A4N B4T P3)):=fun _=>by kernel_rfl
theorem E7g:SQ (D0h C5F):=sF MO C7 (tc call127 D84 (tc call128 C4h (tc call130 C6K (tc call131 D1t (tc call292 E2A (tc call293 D9j (tc call294 D6g (tc call295 C9B B8)))))))) func269 E7f
def A96(f:A4p):Nat×Fn:=(244,⟨[.val true (.pair (.int .i64) (.rs 150 C1)) false,.val false (.int .i64) false,.val false (.rs 5 (.int .u8)) false],[.val false (.sl 150 C1),.val true (.pair (.int .i64) (.rs 150 C1)),.val false (.int .i64)],fun x=>f x.1 x.2.1 x.2.2.1⟩)
theorem C5h{L8:A1b}{C9:J1}{J8:A0l}{A1T:A2l}:EF cfg [A7M L8,A01 C9,A7N J8,A95 A1T] [(7,⟨[],lt 13 8 [],false⟩),(14,⟨[.t 20 false [.bool]],lt 13 7 [],true⟩),(31,⟨[.b 29 [.int .i64,.ro 150 C1,.int .i64,.ro 5 (.int .u8),.int .i64,.own 100002000],.r 100002000 150 C1],lt 30 21 [.r 106497,.r 161797,.t 11,.t 25,.t 28],false⟩),(124,⟨[.b 29 [.int .i64,.ro 150 C1,.int .i64,.ro 5 (.int .u8),.int .i64,.own 100002000],.r 100002000 150 C1],lt 30 21 [.r 106497,.r 161797,.t 11,.t 25,.t 28],false⟩),(1989,⟨[.t 11 false [.int .i64]],lt 39 10 [],true⟩)] f244 (A96 (A91 L8 C9 J8 A1T)):=fun _=>by kernel_rfl
theorem C5i:SQ (A96 A4q):=sF MO C7 (tc call51 B4w (tc call53 A0T (tc call54 B3F (tc call268 C5g B8)))) func244 C5h
def A8N(f:B0O):Nat×Fn:=(199,⟨[.ptr (.pair (.pair (.int .i64) (.pair (.sl 5 (.int .u8)) (.pair A1j (.pair (.pair (.int .i64) (.rs 150 C1)) (.pair T0 (.pair (.sl 113 H2) L2)))))) (.pair (.sl 75 A0q) (.sl 5 (.int .u8)))),.val true (.pair (.int .i64) (.pair (.int .i64) (.pair (.int .i64) (.rs 5 (.int .u8))))) false],[],fun x=>f x.1 x.2.1⟩)
theorem D0i{I5:S2}:EF cfg [A5n I5] [] f199 (A8N (C3r I5)):=fun _=>by kernel_rfl
theorem C0G:SQ (A8N B4k):=sF MO C7 (tc call59 B1q B8) func199 D0i
def U1(f:Q7):Nat×Fn:=(169,⟨[.ptr (.pair (.pair (.int .i64) (.pair (.sl 5 (.int .u8)) (.pair A1j (.pair (.pair (.int .i64) (.rs 150 C1)) (.pair T0 (.pair (.sl 113 H2) L2)))))) (.pair (.sl 75 A0q) (.sl 5 (.int .u8)))),.val false (.int .i64) false],[],fun x=>f x.1 x.2.1⟩)
theorem D0j{A3N:B0O}{B4R:B3v}:EF cfg [A8N A3N,B9M B4R] [] f169 (U1 (C3s A3N B4R)):=fun _=>by kernel_rfl
theorem A0v:SQ (U1 A2A):=sF MO C7 (tc call199 C0G (tc call200 D6U B8)) func169 D0j
def A6u(f:A80):Nat×Fn:=(247,⟨[.ptr (.pair (.pair (.int .i64) (.pair (.sl 5 (.int .u8)) (.pair A1j (.pair (.pair (.int .i64) (.rs 150 C1)) (.pair T0 (.pair (.sl 113 H2) L2)))))) (.pair (.sl 75 A0q) (.sl 5 (.int .u8)))),.val false (.int .i64) false],[],fun x=>f x.1 x.2.1⟩)
theorem C9C:EF cfg [] [] f247 (A6u C1b):=fun _=>by kernel_rfl
theorem B8K:SQ (A6u B1G):=sF MO C7 B8 func247 C9C
def B0C(f:B46):Nat×Fn:=(245,⟨[.ptr (.pair (.pair (.int .i64) (.pair (.sl 5 (.int .u8)) (.pair A1j (.pair (.pair (.int .i64) (.rs 150 C1)) (.pair T0 (.pair (.sl 113 H2) L2)))))) (.pair (.sl 75 A0q) (.sl 5 (.int .u8)))),.val false (.int .i64) false,.val false .bool false,.val false (.rs 150 C1) false],[],fun x=>f x.1 x.2.1 x.2.2.1 x.2.2.2.1⟩)
theorem C7d{F8:Q7}{A3F:A80}{C5R:C5E}:EF cfg [U1 F8,A6u A3F,D0h C5R] [(1,⟨[],lt 26 8 (lt 11 13 []),false⟩),(4,⟨[.t 11 false [.bool]],lt 12 12 [],true⟩),(63,⟨[.b 10 [.int .i64,.int .i64,.int .i64,.str,.int .i64,.nil]],[.t 63,.t 64],true⟩)] f245 (B0C (B93 F8 A3F C5R)):=fun _=>by kernel_rfl
theorem C7e:SQ (B0C B47):=sF MO C7 (tc call169 A0v (tc call247 B8K (tc call269 E7g B8))) func245 C7d
def A6v(f:A81):Nat×Fn:=(225,⟨[.ptr (.pair (.pair (.int .i64) (.pair (.sl 5 (.int .u8)) (.pair A1j (.pair (.pair (.int .i64) (.rs 150 C1)) (.pair T0 (.pair (.sl 113 H2) L2)))))) (.pair (.sl 75 A0q) (.sl 5 (.int .u8)))),.val false (.int .i64) false,.val false (.int .i64) false],[],fun x=>f x.1 x.2.1 x.2.2.1⟩)
theorem C9D{F8:Q7}{B22:B1E}{A3F:A80}:EF cfg [U1 F8,B7J B22,A6u A3F] [] f225 (A6v (C1c F8 B22 A3F)):=fun _=>by kernel_rfl
theorem B8L:SQ (A6v B1H):=sF MO C7 (tc call169 A0v (tc call246 D5h (tc call247 B8K B8))) func225 C9D
def B1r(f:A6m):Nat×Fn:=(223,⟨[.ptr (.pair (.pair (.int .i64) (.pair (.sl 5 (.int .u8)) (.pair A1j (.pair (.pair (.int .i64) (.rs 150 C1)) (.pair T0 (.pair (.sl 113 H2) L2)))))) (.pair (.sl 75 A0q) (.sl 5 (.int .u8)))),.val false (.int .i64) false,.val false .bool false,.val false (.rs 5 (.int .u8)) false],[],fun x=>f x.1 x.2.1 x.2.2.1 x.2.2.2.1⟩)
theorem C9E{A2P:B0P}{F8:Q7}{A1L:A81}{A4w:A4p}{B4U:B46}:EF cfg [C0F A2P,U1 F8,A6v A1L,A96 A4w,B0C B4U] [] f223 (B1r (B1N A2P F8 A1L A4w B4U)):=fun _=>by kernel_rfl
theorem C9F:SQ (B1r A6n):=sF MO C7 (tc call77 D0c (tc call169 A0v (tc call225 B8L (tc call244 C5i (tc call245 C7e B8))))) func223 C9E
def C2P(f:B5s):Nat×Fn:=(226,⟨[.val false (.rs 5 (.int .u8)) false],[.val false (.int .i64),.val false .bool],fun x=>f x.1⟩)
theorem D9k{A4k:B2i}:EF cfg [C2K A4k] [] f226 (C2P (C1h A4k)):=fun _=>by kernel_rfl
theorem D9l:SQ (C2P B5t):=sF MO C7 (tc call171 D5b B8) func226 D9k
def B3H(f:A85):Nat×Fn:=(202,⟨[.ptr (.pair (.pair (.int .i64) (.pair (.sl 5 (.int .u8)) (.pair A1j (.pair (.pair (.int .i64) (.rs 150 C1)) (.pair T0 (.pair (.sl 113 H2) L2)))))) (.pair (.sl 75 A0q) (.sl 5 (.int .u8)))),.val true (.pair (.int .i64) (.pair (.int .i64) (.pair (.int .i64) (.rs 5 (.int .u8))))) false],[],fun x=>f x.1 x.2.1⟩)
theorem D0k{F8:Q7}{C9Q:C8P}{A71:A6m}:EF cfg [U1 F8,D5f C9Q,B1r A71] [(7,⟨[.t 4 false [.bool]],lt 14 7 [],true⟩),(126,⟨[.t 44 false [.bool]],[.t 45,.t 46],true⟩)] f202 (B3H (B2p F8 C9Q A71)):=fun _=>by kernel_rfl
theorem D0l:SQ (B3H A86):=sF MO C7 (tc call169 A0v (tc call222 F0b (tc call223 C9F B8))) func202 D0k
def B3I(f:B85):Nat×Fn:=(203,⟨[.ptr (.pair (.pair (.int .i64) (.pair (.sl 5 (.int .u8)) (.pair A1j (.pair (.pair (.int .i64) (.rs 150 C1)) (.pair T0 (.pair (.sl 113 H2) L2)))))) (.pair (.sl 75 A0q) (.sl 5 (.int .u8)))),.val true (.pair (.int .i64) (.pair (.int .i64) (.pair (.int .i64) (.rs 5 (.int .u8))))) false],[],fun x=>f x.1 x.2.1⟩)
theorem D0m{A2P:B0P}{F8:Q7}{A8a:B6L}{A1L:A81}:EF cfg [C0F A2P,U1 F8,C5M A8a,A6v A1L] [] f203 (B3I (C40 A2P F8 A8a A1L)):=fun _=>by kernel_rfl
theorem D0n:SQ (B3I B86):=sF MO C7 (tc call77 D0c (tc call169 A0v (tc call224 D83 (tc call225 B8L B8)))) func203 D0m
def B1s(f:A6o):Nat×Fn:=(204,⟨[.ptr (.pair (.pair (.int .i64) (.pair (.sl 5 (.int .u8)) (.pair A1j (.pair (.pair (.int .i64) (.rs 150 C1)) (.pair T0 (.pair (.sl 113 H2) L2)))))) (.pair (.sl 75 A0q) (.sl 5 (.int .u8)))),.val true (.pair (.int .i64) (.pair (.int .i64) (.pair (.int .i64) (.rs 5 (.int .u8))))) false],[],fun x=>f x.1 x.2.1⟩)
theorem C9G{A2P:B0P}{F8:Q7}{A3N:B0O}{B6E:B5s}{A8d:A7c}:EF cfg [C0F A2P,U1 F8,A8N A3N,C2P B6E,C0E A8d] [] f204 (B1s (B1O A2P F8 A3N B6E A8d)):=fun _=>by kernel_rfl
theorem C9H:SQ (B1s A6p):=sF MO C7 (tc call77 D0c (tc call169 A0v (tc call199 C0G (tc call226 D9l (tc call227 D0N B8))))) func204 C9G
def B1t(f:A6q):Nat×Fn:=(170,⟨[.ptr (.pair (.pair (.int .i64) (.pair (.sl 5 (.int .u8)) (.pair A1j (.pair (.pair (.int .i64) (.rs 150 C1)) (.pair T0 (.pair (.sl 113 H2) L2)))))) (.pair (.sl 75 A0q) (.sl 5 (.int .u8)))),.val true (.pair (.int .i64) (.pair (.int .i64) (.pair (.int .i64) (.rs 5 (.int .u8))))) false],[],fun x=>f x.1 x.2.1⟩)
theorem C9I{F8:Q7}{A26:A6K}{A8e:A85}{B8T:B85}{A72:A6o}:EF cfg [U1 F8,B4H A26,B3H A8e,B3I B8T,B1s A72] [(14,⟨[.t 17 false [.bool]],lt 18 17 [],true⟩)] f170 (B1t (B1P F8 A26 A8e B8T A72)):=fun _=>by kernel_rfl
theorem C9J:SQ (B1t A6r):=sF MO C7 (tc call169 A0v (tc call201 C6J (tc call202 D0l (tc call203 D0n (tc call204 C9H B8))))) func170 C9I
def B3J(f:A5A):Nat×Fn:=(119,⟨[.ptr (.pair (.pair (.int .i64) (.pair (.sl 5 (.int .u8)) (.pair A1j (.pair (.pair (.int .i64) (.rs 150 C1)) (.pair T0 (.pair (.sl 113 H2) L2)))))) (.pair (.sl 75 A0q) (.sl 5 (.int .u8)))),.val false (.int .u8) false],[],fun x=>f x.1 x.2.1⟩)
theorem D0o{A3E:A7v}{F8:Q7}{A73:A6q}:EF cfg [B67 A3E,U1 F8,B1t A73] [] f119 (B3J (A87 A3E F8 A73)):=fun _=>by kernel_rfl
theorem D0p:SQ (B3J A1s):=sF MO C7 (tc call122 C9A (tc call169 A0v (tc call170 C9J B8))) func119 D0o
def C5O(f:B6O):Nat×Fn:=(52,⟨[.val true D3m false],[.val false .bool],fun x=>f x.1⟩)
theorem E7h{C9:J1}{A8c:B6M}{A0O:A5S}:EF cfg [A01 C9,C5N A8c,B50 A0O] [(3,⟨[],lt 4 10 [],false⟩)] f52 (C5O (C9v C9 A8c A0O)):=fun _=>by kernel_rfl
theorem D85:SQ (C5O B9o):=sF MO C7 (tc call53 A0T (tc call127 D84 (tc call128 C4h B8))) func52 E7h
def B9Q(f:B48):Nat×Fn:=(174,⟨[.val true (.pair (.int .i64) (.rs 150 C1)) false,.val true C1 false],[.val false (.int .i64),.val false .bool],fun x=>f x.1 x.2.1⟩)
theorem D6h{A4J:B0Q}:EF (cfg.withEq [(150,1002)]) [B8G A4J] [(15,⟨[.t 7 false [.int .i64]],lt 37 10 (lt 11 25 [.b 9,.t 8,.t 9,.x 25]),false⟩),(122,⟨[.t 7 false [.int .i64],.t 8 false [.int .i64]],lt 37 10 (lt 11 25 [.b 9,.t 9,.x 25]),false⟩),(3913,⟨[.b 9 [.str,.str]],lt 20 13 [.x 25],true⟩)] f174 (B9Q (B94 A4J)):=fun _=>by kernel_rfl
theorem D6i:SQ (B9Q B49):=sF MO (D7J (l:= [(150,1002)]) C7 ⟨F3l,trivial⟩) (tc call205 D1q B8) func174 D6h
def B4K(f:A6N):Nat×Fn:=(175,⟨[.val false (.rs 5 (.int .u8)) false,.val false (.int .i64) false,.val false (.int .i64) false,.val false (.int .i64) false],[.val false (.sl 5 (.int .u8))],fun x=>f x.1 x.2.1 x.2.2.1 x.2.2.2.1⟩)
theorem D6j{C9:J1}:EF cfg [A01 C9] [(7,⟨[],lt 14 8 [],false⟩),(15,⟨[.t 3 false [.int .i64]],[.t 23,.t 24],true⟩),(31,⟨[.t 3 false [.int .i64]],[.t 25,.t 26],true⟩),(2047,⟨[.t 3 false [.int .i64],.t 9 false [.own 100003000],.r 100003000 5 (.int .u8)],lt 54 11 [.r 50,.r 61,.r 62],true⟩),(8188,⟨[.t 3 false [.int .i64],.t 9 false [.own 100003000],.r 100003000 5 (.int .u8)],lt 54 11 [.r 50,.r 61,.r 62],false⟩)] f175 (B4K (B95 C9)):=fun _=>by kernel_rfl
theorem C6L:SQ (B4K A6O):=sF MO C7 (tc call53 A0T B8) func175 D6j
def C7f(f:C1i):Nat×Fn:=(176,⟨[.val false (.int .i64) false],[.val false (.int .i64),.val false (.int .i64)],fun x=>f x.1⟩)
theorem E4P:EF cfg [] [] f176 (C7f D47):=fun _=>by kernel_rfl
theorem E4Q:SQ (C7f C73):=sF MO C7 B8 func176 E4P
def D5k(f:C8R):Nat×Fn:=(206,⟨[.val false .str false],[.val false (.sl 5 (.int .u8))],fun x=>f x.1⟩)
theorem F0c{A1K:A7E}{A4K:B0S}:EF cfg [B7L A1K,B8I A4K] [(127,⟨[.t 5 false [.own 100000001],.t 6 false [.int .i64],.t 7 false [.int .i64],.r 100000001 5 (.int .u8)],lt 12 48 [.r 11,.r 52,.r 53,.r 100001000,.t 8,.x 23,.x 31,.x 39],true⟩),(1018,⟨[.t 5 false [.own 100000001],.t 6 false [.int .i64],.t 7 false [.int .i64],.t 8 false [.int .i64],.r 100000001 5 (.int .u8)],lt 12 48 [.r 11,.r 52,.r 53,.r 100001000,.x 23,.x 31,.x 39],false⟩),(130342,⟨[.t 5 false [.own 100001000],.t 6 false [.int .i64],.t 7 false [.int .i64],.r 100001000 5 (.int .u8)],lt 42 18 [.r 11,.r 52,.r 53,.r 100000001],false⟩)] f206 (D5k (D48 A1K A4K)):=fun _=>by kernel_rfl
theorem F0d:SQ (D5k C8S):=sF MO C7 (tc call228 C7a (tc call229 D1s B8)) func206 F0c
def B9R(f:B4A):Nat×Fn:=(177,⟨[.val false (.rs 5 (.int .u8)) false,.val false .str false],[.val false (.sl 5 (.int .u8))],fun x=>f x.1 x.2.1⟩)
theorem D6k{A0W:A6N}{C9R:C8R}:EF cfg [B4K A0W,D5k C9R] [] f177 (B9R (B96 A0W C9R)):=fun _=>by kernel_rfl
theorem D6l:SQ (B9R A9J):=sF MO C7 (tc call175 C6L (tc call206 F0d B8)) func177 D6k
def B0D(f:A3e):Nat×Fn:=(129,⟨[.val true (.pair (.int .i64) (.rs 150 C1)) false,.val true C1 false,.val false (.int .i64) false],[.val false (.sl 5 (.int .u8)),.val true (.pair (.int .i64) (.rs 150 C1))],fun x=>f x.1 x.2.1 x.2.2.1⟩)
theorem C7g{L8:A1b}{C9:J1}{J8:A0l}{B4V:B48}{A0W:A6N}{C2i:C1i}{A9Q:B4A}{A0g:A43}:EF cfg [A7M L8,A01 C9,A7N J8,B9Q B4V,B4K A0W,C7f C2i,B9R A9Q,A9m A0g] [(7,⟨[],lt 16 8 [],false⟩),(31,⟨[],lt 32 5 [],false⟩),(62,⟨[.t 36 false [.bool]],lt 32 4 [],true⟩),(255,⟨[.t 13 false [.own 100003000],.r 100003000 5 (.int .u8)],lt 51 6 [.r 208896,.r 233472],true⟩)] f129 (B0D (B02 L8 C9 J8 B4V A0W C2i A9Q A0g)):=fun _=>by kernel_rfl
theorem C7h:SQ (B0D W9):=sF MO C7 (tc call51 B4w (tc call53 A0T (tc call54 B3F (tc call174 D6i (tc call175 C6L (tc call176 E4Q (tc call177 D6l (tc call178 C34 B8)))))))) func129 C7g
def B3K(f:A88):Nat×Fn:=(132,⟨[.val false (.int .i64) false],[.val false .str],fun x=>f x.1⟩)
theorem D0q{B24:B0t}:EF cfg [C4R B24] [] f132 (B3K (A5B B24)):=fun _=>by kernel_rfl
theorem D0r:SQ (B3K B2r):=sF MO C7 (tc call132 D5E B8) func132 D0q
def B3L(f:A89):Nat×Fn:=(132,⟨[.val false (.int .i64) false],[.val false .str],fun x=>f x.1⟩)
theorem D0s{A8f:A88}:EF cfg [B3K A8f] [] f132 (B3L (B9p A8f)):=fun _=>by kernel_rfl
theorem D0t:SQ (B3L B2s):=sF MO C7 (tc call132 D0r B8) func132 D0s
def B3M(f:A8A):Nat×Fn:=(132,⟨[.val false (.int .i64) false],[.val false .str],fun x=>f x.1⟩)
theorem D0u{A8g:A89}:EF cfg [B3L A8g] [] f132 (B3M (B9q A8g)):=fun _=>by kernel_rfl
theorem D0v:SQ (B3M B2t):=sF MO C7 (tc call132 D0t B8) func132 D0u
def B3N(f:A8B):Nat×Fn:=(132,⟨[.val false (.int .i64) false],[.val false .str],fun x=>f x.1⟩)
theorem D0w{A8h:A8A}:EF cfg [B3M A8h] [] f132 (B3N (B9r A8h)):=fun _=>by kernel_rfl
theorem D10:SQ (B3N B2u):=sF MO C7 (tc call132 D0v B8) func132 D0w
def B3O(f:A8C):Nat×Fn:=(132,⟨[.val false (.int .i64) false],[.val false .str],fun x=>f x.1⟩)
theorem D11{A8i:A8B}:EF cfg [B3N A8i] [] f132 (B3O (B9s A8i)):=fun _=>by kernel_rfl
theorem D12:SQ (B3O B2v):=sF MO C7 (tc call132 D10 B8) func132 D11
def B3P(f:A8D):Nat×Fn:=(132,⟨[.val false (.int .i64) false],[.val false .str],fun x=>f x.1⟩)
theorem D13{A8j:A8C}:EF cfg [B3O A8j] [] f132 (B3P (B9t A8j)):=fun _=>by kernel_rfl
theorem D14:SQ (B3P B2w):=sF MO C7 (tc call132 D12 B8) func132 D13
def B3Q(f:A8E):Nat×Fn:=(132,⟨[.val false (.int .i64) false],[.val false .str],fun x=>f x.1⟩)
theorem D15{A8k:A8D}:EF cfg [B3P A8k] [] f132 (B3Q (B9u A8k)):=fun _=>by kernel_rfl
theorem D16:SQ (B3Q B30):=sF MO C7 (tc call132 D14 B8) func132 D15
def B3R(f:A8F):Nat×Fn:=(132,⟨[.val false (.int .i64) false],[.val false .str],fun x=>f x.1⟩)
theorem D17{A8l:A8E}:EF cfg [B3Q A8l] [] f132 (B3R (B9v A8l)):=fun _=>by kernel_rfl
theorem D18:SQ (B3R B31):=sF MO C7 (tc call132 D16 B8) func132 D17
def B3S(f:A8G):Nat×Fn:=(132,⟨[.val false (.int .i64) false],[.val false .str],fun x=>f x.1⟩)
theorem D19{A8m:A8F}:EF cfg [B3R A8m] [] f132 (B3S (B9w A8m)):=fun _=>by kernel_rfl
theorem D1A:SQ (B3S B32):=sF MO C7 (tc call132 D18 B8) func132 D19
end
end Go.Proofs.YthnfghmjipikhaaGreatDoor.Ev
