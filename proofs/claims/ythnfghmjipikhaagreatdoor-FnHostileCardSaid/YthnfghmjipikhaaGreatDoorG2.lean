/- Each function of the program does what its plain function says. -/
import Derived.Test.YthnfghmjipikhaaGreatDoorG1
set_option linter.unusedVariables false
set_option maxRecDepth 100000
namespace Go.Proofs.YthnfghmjipikhaaGreatDoor.Ev
open Tryz
noncomputable section
def A5k(f:A2v):Nat×Fn:=(99,⟨[.ptr A3k,.val false (.rs 5 (.int .u8)) false],[.val false (.rs 5 (.int .u8)),.val false (.int .i64)],fun x=>f x.1 x.2.1⟩)
theorem C2I:EF cfg [] [(3,⟨[.t 1 false [.ro 5 (.int .u8)],.b 1000 [.int .i64,.own 1001,.int .i64,.bool,.own 1004,.int .i64,.own 1006,.int .i64,.own 1008,.own 1009,.int .i64,.int .i64,.own 1012,.own 1013],.r 1001 5 (.int .u8),.r 1004 5 (.int .u8),.r 1006 150 C1,.r 1008 150 C1,.r 1009 113 H2,.r 1012 75 A0q,.r 1013 5 (.int .u8)],lt 6 32 [],false⟩),(12,⟨[.t 1 false [.ro 5 (.int .u8)],.b 1000 [.int .i64,.own 1001,.int .i64,.bool,.own 1004,.int .i64,.own 1006,.int .i64,.own 1008,.own 1009,.int .i64,.int .i64,.own 1012,.own 1013],.r 1001 5 (.int .u8),.r 1004 5 (.int .u8),.r 1006 150 C1,.r 1008 150 C1,.r 1009 113 H2,.r 1012 75 A0q,.r 1013 5 (.int .u8)],lt 6 32 [],false⟩),(24,⟨[],lt 6 11 [],false⟩)] f99 (A5k A0A):=fun _=>by kernel_rfl
theorem C2J:SQ (A5k S1):=sF MO C6 B7 func99 C2I
def B9J(f:B3n):Nat×Fn:=(33,⟨[.val true (.pair (.int .i64) (.pair (.rs 5 (.int .u8)) (.pair (.pair (.int .i64) (.pair .bool (.rs 5 (.int .u8)))) (.pair (.pair (.int .i64) (.rs 150 C1)) (.pair (.pair (.int .i64) (.rs 150 C1)) (.pair (.rs 113 H2) L2)))))) false,.val false (.rs 5 (.int .u8)) false],[.val true D3m,.val false (.sl 75 A0q),.val false (.sl 5 (.int .u8))],fun x=>f x.1 x.2.1⟩)
theorem D6N{A4j:B2V}{B6B:B5e}{A3B:A2v}{A6u:A6i}{A1l:A1j}{B1v:B16}:EF cfg [C25 A4j,C26 B6B,A5k A3B,B1m A6u,A3v A1l,B7E B1v] [(7,⟨[],lt 13 8 [],false⟩),(31,⟨[.t 9 false [.int .i64],.b 7 [.int .i64,.own 100001000,.int .i64,.bool,.own 100001001,.int .i64,.own 100001002,.int .i64,.own 100001003,.own 100001004,.int .i64,.int .i64,.own 100001005,.own 100001006],.r 100001000 5 (.int .u8),.r 100001001 5 (.int .u8),.r 100001002 150 C1,.r 100001003 150 C1,.r 100001004 113 H2,.r 100001005 75 A0q,.r 100001006 5 (.int .u8)],lt 28 8 [.r 33,.r 108545,.r 108548,.r 108550,.r 108552,.r 108553,.r 108556,.r 108557,.r 143360,.r 149505,.r 149508,.r 149510,.r 149512,.r 149513,.r 149516,.r 149517],true⟩),(63,⟨[.b 7 [.int .i64,.own 100002007,.int .i64,.bool,.own 100002008,.int .i64,.own 100002009,.int .i64,.own 100002010,.own 100002011,.int .i64,.int .i64,.own 100002012,.own 100002013],.r 100002007 5 (.int .u8),.r 100002008 5 (.int .u8),.r 100002009 150 C1,.r 100002010 150 C1,.r 100002011 113 H2,.r 100002012 75 A0q,.r 100002013 5 (.int .u8)],lt 36 4 [.r 165889,.r 165892,.r 165894,.r 165896,.r 165897,.r 165900,.r 165901,.r 100001000,.r 100001001,.r 100001002,.r 100001003,.r 100001004,.r 100001005,.r 100001006],true⟩)] f33 (B9J (B3o A4j B6B A3B A6u A1l B1v)):=fun _=>by kernel_rfl
theorem D6O:SQ (B9J A4U):=sF MO C6 (tc call43 D5G (tc call82 D9N (tc call99 C2J (tc call100 C97 (tc call101 B7a (tc call102 D5T B7)))))) func33 D6N
def B4D(f:A4V):Nat×Fn:=(36,⟨[.val false (.rs 5 (.int .u8)) false,.val false (.rs 5 (.int .u8)) false],[.val false .bool],fun x=>f x.1 x.2.1⟩)
theorem D6P:EF cfg [] [(58,⟨[.t 5 false [.int .i64]],lt 11 15 [],false⟩)] f36 (B4D B8q):=fun _=>by kernel_rfl
theorem C6G:SQ (B4D A4W):=sF MO C6 B7 func36 D6P
def B7F(f:B18):Nat×Fn:=(37,⟨[.val false (.rs 5 (.int .u8)) false],[.val false (.sl 82 A9s),.val false (.int .i64),.val false (.int .i64)],fun x=>f x.1⟩)
theorem D5U{O1:A22}:EF cfg [B1W O1] [(30,⟨[.t 5 false [.own 100000000],.t 6 false [.int .i64],.r 100000000 82 A9s],lt 22 5 (lt 7 12 [.b 7,.r 24,.r 25,.r 57347]),false⟩)] f37 (B7F (B6l O1)):=fun _=>by kernel_rfl
theorem D5V:SQ (B7F A79):=sF MO C6 (tc call103 C24 B7) func37 D5U
def B9K(f:B3p):Nat×Fn:=(42,⟨[.val false (.rs 75 A0q) false,.val false (.rs 75 A0q) false],[.val false .bool],fun x=>f x.1 x.2.1⟩)
theorem D6Q{A0U:A4V}:EF (cfg.withEq [(36,2010)]) [B4D A0U] [(58,⟨[.t 5 false [.int .i64]],lt 11 57 [],false⟩)] f42 (B9K (B8r A0U)):=fun _=>by kernel_rfl
theorem D6R:SQ (B9K A9F):=sF MO (D7I (l:= [(36,2010)]) C6 ⟨F46,trivial⟩) (tc call36 C6G B7) func42 D6Q
def A00(f:J1):Nat×Fn:=(53,⟨[.val false (.int .i64) false,.val false (.int .i64) false,.val false (.int .i64) false],[.val false .bool],fun x=>f x.1 x.2.1 x.2.2.1⟩)
theorem F0I:EF cfg [] [] f53 (A00 D3u):=fun _=>by kernel_rfl
theorem A0T:SQ (A00 M9):=sF MO C6 B7 func53 F0I
def D5W(f:C3n):Nat×Fn:=(173,⟨[.val true C1 false],[.val false (.int .i64)],fun x=>f x.1⟩)
theorem F0J:EF cfg [] [] f173 (D5W C8N):=fun _=>by kernel_rfl
theorem F0K:SQ (D5W B6m):=sF MO C6 B7 func173 F0J
def B7G(f:A4a):Nat×Fn:=(126,⟨[.val true (.pair (.int .i64) (.rs 150 C1)) false],[.val false (.int .i64)],fun x=>f x.1⟩)
theorem E40{C0L:C3n}:EF cfg [D5W C0L] [(58,⟨[.t 3 false [.int .i64],.t 4 false [.int .i64]],lt 5 15 [],false⟩)] f126 (B7G (C6q C0L)):=fun _=>by kernel_rfl
theorem C7R:SQ (B7G A7A):=sF MO C6 (tc call173 F0K B7) func126 E40
def A7J(f:A1a):Nat×Fn:=(51,⟨[.val true (.pair (.int .i64) (.rs 150 C1)) false],[.val false .bool],fun x=>f x.1⟩)
theorem E1n{C8:J1}{V1:A4a}:EF cfg [A00 C8,B7G V1] [] f51 (A7J (B4f C8 V1)):=fun _=>by kernel_rfl
theorem B4t:SQ (A7J A0M):=sF MO C6 (tc call53 A0T (tc call126 C7R B7)) func51 E1n
def B64(f:A7s):Nat×Fn:=(120,⟨[.val true (.pair (.int .i64) (.pair .bool (.rs 5 (.int .u8)))) false],[.val false .bool],fun x=>f x.1⟩)
theorem D9d{C8:J1}:EF cfg [A00 C8] [] f120 (B64 (B19 C8)):=fun _=>by kernel_rfl
theorem C98:SQ (B64 A2w):=sF MO C6 (tc call53 A0T B7) func120 D9d
def C4c(f:B7s):Nat×Fn:=(121,⟨[.val true (.pair (.int .i64) (.pair (.rs 5 (.int .u8)) (.pair (.pair (.int .i64) (.pair .bool (.rs 5 (.int .u8)))) (.pair (.pair (.int .i64) (.rs 150 C1)) (.pair (.pair (.int .i64) (.rs 150 C1)) (.pair (.rs 113 H2) L2)))))) false],[.val false .bool],fun x=>f x.1⟩)
theorem E1o{C8:J1}:EF cfg [A00 C8] [(3,⟨[],lt 3 58 [.b 4],false⟩),(26,⟨[.t 3 false [.int .i64]],lt 4 57 [.b 4],false⟩)] f121 (C4c (C3o C8)):=fun _=>by kernel_rfl
theorem E1p:SQ (C4c B7t):=sF MO C6 (tc call53 A0T B7) func121 E1o
def C2K(f:B2f):Nat×Fn:=(171,⟨[.val false (.rs 5 (.int .u8)) false,.val false (.int .i64) false,.val false (.int .i64) false],[.val false (.int .i64),.val false .bool],fun x=>f x.1 x.2.1 x.2.2.1⟩)
theorem E41{C8:J1}:EF cfg [A00 C8] [(3,⟨[],lt 10 15 [],false⟩),(15,⟨[.t 8 false [.int .i64]],lt 25 15 [.t 9],true⟩),(122,⟨[.t 8 false [.int .i64],.t 9 false [.int .i64]],lt 25 15 [],false⟩)] f171 (C2K (C6r C8)):=fun _=>by kernel_rfl
theorem D5a:SQ (C2K B2g):=sF MO C6 (tc call53 A0T B7) func171 E41
def B65(f:A7t):Nat×Fn:=(122,⟨[.val false (.rs 5 (.int .u8)) false,.val false (.int .i64) false],[.val true A9s,.val false (.int .i64),.val false (.int .i64)],fun x=>f x.1 x.2.1⟩)
theorem D9e{A4k:B2f}:EF cfg [C2K A4k] [(15,⟨[],lt 39 8 (lt 34 3 (lt 25 7 [])),false⟩),(60,⟨[.t 25 false [.bool]],lt 26 6 [],true⟩)] f122 (B65 (C1Q A4k)):=fun _=>by kernel_rfl
theorem C99:SQ (B65 A7u):=sF MO C6 (tc call171 D5a B7) func122 D9e
def C2L(f:B2h):Nat×Fn:=(46,⟨[.val true (.pair (.int .i64) (.pair (.rs 5 (.int .u8)) (.pair (.pair (.int .i64) (.pair .bool (.rs 5 (.int .u8)))) (.pair (.pair (.int .i64) (.rs 150 C1)) (.pair (.pair (.int .i64) (.rs 150 C1)) (.pair (.rs 113 H2) L2)))))) false],[.val false .bool],fun x=>f x.1⟩)
theorem E42{L8:A1a}{C8:J1}{A3C:A7s}{B8P:B7s}{A3D:A7t}:EF cfg [A7J L8,A00 C8,B64 A3C,C4c B8P,B65 A3D] [(3,⟨[],lt 6 45 [],false⟩),(15,⟨[],lt 58 13 [],false⟩)] f46 (C2L (C1R L8 C8 A3C B8P A3D)):=fun _=>by kernel_rfl
theorem D5b:SQ (C2L A1q):=sF MO C6 (tc call51 B4t (tc call53 A0T (tc call120 C98 (tc call121 E1p (tc call122 C99 B7))))) func46 E42
def A7K(f:A0l):Nat×Fn:=(54,⟨[.val true (.pair (.int .i64) (.rs 150 C1)) false],[.val true T0],fun x=>f x.1⟩)
theorem E43:EF cfg [] [] f54 (A7K C6s):=fun _=>by kernel_rfl
theorem B3C:SQ (A7K A4b):=sF MO C6 B7 func54 E43
def C2M(f:B2i):Nat×Fn:=(148,⟨[.val true (.pair (.int .i64) (.pair .bool (.rs 5 (.int .u8)))) false],[.val true A1i],fun x=>f x.1⟩)
theorem E44:EF cfg [] [] f148 (C2M C6t):=fun _=>by kernel_rfl
theorem D5c:SQ (C2M B6n):=sF MO C6 B7 func148 E44
def C4d(f:B7u):Nat×Fn:=(76,⟨[.val true (.pair (.int .i64) (.pair (.rs 5 (.int .u8)) (.pair (.pair (.int .i64) (.pair .bool (.rs 5 (.int .u8)))) (.pair (.pair (.int .i64) (.rs 150 C1)) (.pair (.pair (.int .i64) (.rs 150 C1)) (.pair (.rs 113 H2) L2)))))) false],[.val true D3m],fun x=>f x.1⟩)
theorem E1q{J8:A0l}{A2i:B2i}:EF cfg [A7K J8,C2M A2i] [(2042,⟨[.t 4 false [.int .i64],.b 3 [.int .i64,.own 10,.int .i64,.bool,.own 61442,.int .i64,.own 77825,.int .i64,.own 94209,.own 100000000,.int .i64,.int .i64],.r 10 5 (.int .u8),.r 61442 5 (.int .u8),.r 77825 150 C1,.r 94209 150 C1,.r 100000000 113 H2],lt 26 23 [.b 5,.r 24,.r 38,.r 41,.r 46,.r 47,.t 5],false⟩)] f76 (C4d (C3p J8 A2i)):=fun _=>by kernel_rfl
theorem E1r:SQ (C4d B7v):=sF MO C6 (tc call54 B3C (tc call148 D5c B7)) func76 E1q
def B8E(f:B0K):Nat×Fn:=(133,⟨[.val true (.pair (.int .i64) (.pair (.int .i64) (.pair (.int .i64) (.rs 5 (.int .u8))))) false],[.val false .bool],fun x=>f x.1⟩)
theorem E1s{C8:J1}:EF cfg [A00 C8] [] f133 (B8E (C3q C8)):=fun _=>by kernel_rfl
theorem D1m:SQ (B8E B0L):=sF MO C6 (tc call53 A0T B7) func133 E1s
def C2N(f:B2j):Nat×Fn:=(134,⟨[.val false (.rs 5 (.int .u8)) false,.val false (.int .i64) false,.val false (.int .i64) false],[.val false (.sl 5 (.int .u8))],fun x=>f x.1 x.2.1 x.2.2.1⟩)
theorem E45{C8:J1}:EF cfg [A00 C8] [(7,⟨[.t 1 false [.int .i64]],[.t 12,.t 13],true⟩),(250,⟨[.t 7 false [.own 100001000],.t 8 false [.int .i64],.r 100001000 5 (.int .u8)],lt 20 13 [.r 11,.r 31,.r 32],false⟩)] f134 (C2N (C6u C8)):=fun _=>by kernel_rfl
theorem D5d:SQ (C2N B6o):=sF MO C6 (tc call53 A0T B7) func134 E45
def A5l(f:S2):Nat×Fn:=(59,⟨[.val true (.pair (.int .i64) (.pair (.int .i64) (.pair (.int .i64) (.rs 5 (.int .u8))))) false],[.val false (.sl 5 (.int .u8))],fun x=>f x.1⟩)
theorem D9f{A4I:B0K}{A3h:B2j}:EF cfg [B8E A4I,C2N A3h] [] f59 (A5l (C1S A4I A3h)):=fun _=>by kernel_rfl
theorem B1n:SQ (A5l A0B):=sF MO C6 (tc call133 D1m (tc call134 D5d B7)) func59 D9f
def B9L(f:B3s):Nat×Fn:=(200,⟨[.val false (.int .i64) false,.val false (.int .i64) false],[.val false (.sl 5 (.int .u8))],fun x=>f x.1 x.2.1⟩)
theorem D6S{A3h:B2j}:EF cfg [C2N A3h] [] f200 (B9L (B8s A3h)):=fun _=>by kernel_rfl
theorem D6T:SQ (B9L B8t):=sF MO C6 (tc call134 D5d B7) func200 D6S
def C7S(f:C1T):Nat×Fn:=(221,⟨[.val true (.pair (.int .i64) (.pair (.int .i64) (.pair (.int .i64) (.rs 5 (.int .u8))))) false],[.val false .bool],fun x=>f x.1⟩)
theorem E46:EF cfg [] [(235,⟨[.t 13 false [.bool]],[.t 14,.t 15],true⟩)] f221 (C7S C6v):=fun _=>by kernel_rfl
theorem E47:SQ (C7S C1U):=sF MO C6 B7 func221 E46
def B4E(f:A6H):Nat×Fn:=(201,⟨[.val true (.pair (.int .i64) (.pair (.int .i64) (.pair (.int .i64) (.rs 5 (.int .u8))))) false],[.val false (.int .i64)],fun x=>f x.1⟩)
theorem D6U{A4I:B0K}{C2d:C1T}:EF cfg [B8E A4I,C7S C2d] [(3,⟨[],lt 3 8 [],false⟩),(58,⟨[.t 13 false [.bool]],lt 14 6 [],true⟩)] f201 (B4E (B8u A4I C2d)):=fun _=>by kernel_rfl
theorem C6H:SQ (B4E A9G):=sF MO C6 (tc call133 D1m (tc call221 E47 B7)) func201 D6U
def C5L(f:B6J):Nat×Fn:=(224,⟨[.val true (.pair (.int .i64) (.pair (.int .i64) (.pair (.int .i64) (.rs 5 (.int .u8))))) false],[.val false (.sl 5 (.int .u8)),.val false .bool],fun x=>f x.1⟩)
theorem E7L:EF cfg [] [(7,⟨[.t 4 false [.ro 5 (.int .u8)]],lt 25 9 (lt 7 17 []),false⟩),(30,⟨[.t 42 false [.bool]],lt 34 8 [],true⟩),(58,⟨[],lt 11 13 [],false⟩)] f224 (C5L C9q):=fun _=>by kernel_rfl
theorem D82:SQ (C5L B9l):=sF MO C6 B7 func224 E7L
def D5e(f:C8O):Nat×Fn:=(222,⟨[.val true (.pair (.int .i64) (.pair .bool (.rs 5 (.int .u8)))) false,.val true (.pair (.int .i64) (.pair (.int .i64) (.pair (.int .i64) (.rs 5 (.int .u8))))) false],[.val true A1i,.val false (.sl 5 (.int .u8)),.val false (.int .i64)],fun x=>f x.1 x.2.1⟩)
theorem F0L{A3C:A7s}{A2i:B2i}{A25:A6H}{A8V:B6J}:EF cfg [B64 A3C,C2M A2i,B4E A25,C5L A8V] [(7,⟨[],lt 12 35 [],false⟩),(14,⟨[.t 46 false [.bool]],lt 12 34 [],true⟩),(31,⟨[.b 8 [.int .i64,.bool,.own 100002000],.r 100002000 5 (.int .u8)],lt 68 16 (lt 56 9 [.r 82,.r 212994,.r 249856,.t 9,.t 10,.t 52,.t 53]),false⟩)] f222 (D5e (D3v A3C A2i A25 A8V)):=fun _=>by kernel_rfl
theorem F0M:SQ (D5e C8P):=sF MO C6 (tc call120 C98 (tc call148 D5c (tc call201 C6H (tc call224 D82 B7)))) func222 F0L
def C0E(f:B0N):Nat×Fn:=(77,⟨[.val true (.pair (.int .i64) (.pair (.rs 5 (.int .u8)) (.pair (.pair (.int .i64) (.pair .bool (.rs 5 (.int .u8)))) (.pair (.pair (.int .i64) (.rs 150 C1)) (.pair (.pair (.int .i64) (.rs 150 C1)) (.pair (.rs 113 H2) L2)))))) false,.val false (.int .i64) false],[.val false (.int .i64)],fun x=>f x.1 x.2.1⟩)
theorem E7M:EF cfg [] [(26,⟨[.t 5 false [.int .i64]],lt 6 15 [],false⟩)] f77 (C0E D7L):=fun _=>by kernel_rfl
theorem D0W:SQ (C0E B2k):=sF MO C6 B7 func77 E7M
def C7T(f:C1V):Nat×Fn:=(270,⟨[.val false (.int .i64) false],[.val false (.int .i64),.val false (.int .i64)],fun x=>f x.1⟩)
theorem E48:EF cfg [] [(26,⟨[.t 5 false [.bool]],[.t 6,.t 7],true⟩)] f270 (C7T D3w):=fun _=>by kernel_rfl
theorem E49:SQ (C7T D40):=sF MO C6 B7 func270 E48
def C7U(f:C1W):Nat×Fn:=(271,⟨[.val false (.int .i64) false],[.val false (.int .i64),.val false (.int .i64)],fun x=>f x.1⟩)
theorem E4A:EF cfg [] [(26,⟨[.t 5 false [.bool]],[.t 6,.t 7],true⟩),(107,⟨[.t 8 false [.bool]],[.t 9,.t 10],true⟩),(431,⟨[.t 11 false [.bool]],[.t 12,.t 13],true⟩)] f271 (C7U D41):=fun _=>by kernel_rfl
theorem E4B:SQ (C7U D42):=sF MO C6 B7 func271 E4A
def C4e(f:B80):Nat×Fn:=(272,⟨[.val false (.int .i64) false],[.val false (.int .i64),.val false (.int .i64)],fun x=>f x.1⟩)
theorem E1t:EF cfg [] [(26,⟨[.t 5 false [.bool]],lt 6 4 [],true⟩)] f272 (C4e D1R):=fun _=>by kernel_rfl
theorem E1u:SQ (C4e D1S):=sF MO C6 B7 func272 E1t
def C7V(f:C1a):Nat×Fn:=(273,⟨[.val false (.int .i64) false],[.val false (.int .i64),.val false (.int .i64)],fun x=>f x.1⟩)
theorem E4C:EF cfg [] [(26,⟨[.t 5 false [.bool]],lt 6 4 [],true⟩)] f273 (C7V D43):=fun _=>by kernel_rfl
theorem E4D:SQ (C7V D44):=sF MO C6 B7 func273 E4C
def B7H(f:B1B):Nat×Fn:=(246,⟨[.val false (.int .i64) false,.val false (.int .i64) false],[.val false (.int .i64),.val false (.int .i64)],fun x=>f x.1 x.2.1⟩)
theorem D5f{C8:J1}{C2e:C1V}{C2f:C1W}{B8Q:B80}{C2g:C1a}:EF cfg [A00 C8,C7T C2e,C7U C2f,C4e B8Q,C7V C2g] [] f246 (B7H (B6p C8 C2e C2f B8Q C2g)):=fun _=>by kernel_rfl
theorem D5g:SQ (B7H B1C):=sF MO C6 (tc call53 A0T (tc call270 E49 (tc call271 E4B (tc call272 E1u (tc call273 E4D B7))))) func246 D5f
def D0a(f:C5B):Nat×Fn:=(207,⟨[.val true T0 false],[.val true T0],fun x=>f x.1⟩)
theorem E7N{V1:A4a}:EF cfg [B7G V1] [(12,⟨[.b 1 [.int .i64,.own 100000000],.r 100000000 150 C1],lt 3 13 [.r 1001],false⟩)] f207 (D0a (D7M V1)):=fun _=>by kernel_rfl
theorem E7O:SQ (D0a D7N):=sF MO C6 (tc call126 C7R B7) func207 E7N
def D0b(f:B9m):Nat×Fn:=(178,⟨[.val true (.pair (.int .i64) (.rs 150 C1)) false,.val true C1 false],[.val true T0],fun x=>f x.1 x.2.1⟩)
theorem E7P{C5P:C5B}:EF cfg [D0a C5P] [] f178 (D0b (D7O C5P)):=fun _=>by kernel_rfl
theorem E7Q:SQ (D0b C5C):=sF MO C6 (tc call207 E7O B7) func178 E7P
def A6P(f:A17):Nat×Fn:=(288,⟨[.val false (.rs 5 (.int .u8)) false,.val false (.int .i64) false,.val false (.int .i64) false],[.val false (.int .i64),.val false (.int .i64),.val false .bool],fun x=>f x.1 x.2.1 x.2.2.1⟩)
theorem D6V{C8:J1}:EF cfg [A00 C8] [(3,⟨[],lt 13 11 [],false⟩),(63,⟨[],lt 41 31 (lt 10 3 []),false⟩),(506,⟨[.t 10 false [.int .i64],.t 11 false [.int .i64]],lt 41 31 [.t 12],false⟩),(1012,⟨[],lt 41 11 [],false⟩)] f288 (A6P (B8v C8)):=fun _=>by kernel_rfl
theorem B4F:SQ (A6P A4c):=sF MO C6 (tc call53 A0T B7) func288 D6V
def B8F(f:B0O):Nat×Fn:=(205,⟨[],[.val false (.sl 150 C1)],fun x=>f⟩)
theorem E1v:EF cfg [] [] f205 (B8F D1T):=fun _=>by kernel_rfl
theorem D1n:SQ (B8F B4h):=sF MO C6 B7 func205 E1v
def B7I(f:B1F):Nat×Fn:=(308,⟨[.val false (.int .i64) false],[.val true C1,.val false .bool],fun x=>f x.1⟩)
theorem D5h{C8:J1}{A4J:B0O}:EF cfg [A00 C8,B8F A4J] [] f308 (B7I (B6q C8 A4J)):=fun _=>by kernel_rfl
theorem D5i:SQ (B7I B6r):=sF MO C6 (tc call53 A0T (tc call205 D1n B7)) func308 D5h
def B8G(f:B0P):Nat×Fn:=(289,⟨[.val true (.pair (.int .i64) (.rs 150 C1)) false,.val false (.int .i64) false],[.val true C1,.val false .bool],fun x=>f x.1 x.2.1⟩)
theorem E1w{B20:B1F}:EF cfg [B7I B20] [] f289 (B8G (C3t B20)):=fun _=>by kernel_rfl
theorem D1o:SQ (B8G B4i):=sF MO C6 (tc call308 D5i B7) func289 E1w
def A9k(f:A41):Nat×Fn:=(207,⟨[.val true (.pair (.int .i64) (.rs 150 C1)) false],[.val true (.pair (.int .i64) (.rs 150 C1))],fun x=>f x.1⟩)
theorem D2F{V1:A4a}:EF cfg [B7G V1] [(12,⟨[.b 1 [.int .i64,.ro 150 C1]],lt 3 13 [],false⟩)] f207 (A9k (B59 V1)):=fun _=>by kernel_rfl
theorem C33:SQ (A9k A61):=sF MO C6 (tc call126 C7R B7) func207 D2F
def B3D(f:A80):Nat×Fn:=(309,⟨[.val true (.pair (.int .i64) (.rs 150 C1)) false,.val false (.int .i64) false],[.val true (.pair (.int .i64) (.rs 150 C1))],fun x=>f x.1 x.2.1⟩)
theorem D0c{L8:A1a}{C8:J1}{J8:A0l}{A0f:A41}:EF cfg [A7J L8,A00 C8,A7K J8,A9k A0f] [(7,⟨[],lt 8 8 [],false⟩)] f309 (B3D (B2l L8 C8 J8 A0f)):=fun _=>by kernel_rfl
theorem D0d:SQ (B3D A81):=sF MO C6 (tc call51 B4t (tc call53 A0T (tc call54 B3C (tc call207 C33 B7)))) func309 D0c
def B7J(f:A7B):Nat×Fn:=(228,⟨[],[.val false (.sl 3 (.int .i64))],fun x=>f⟩)
theorem E4E:EF cfg [] [] f228 (B7J D45):=fun _=>by kernel_rfl
theorem C7W:SQ (B7J B6s):=sF MO C6 B7 func228 E4E
def B8H(f:B0Q):Nat×Fn:=(229,⟨[],[.val false (.sl 3 (.int .i64))],fun x=>f⟩)
theorem E20{A1K:A7B}:EF cfg [B7J A1K] [(506,⟨[.t 2 false [.own 8],.t 3 false [.int .i64],.t 4 false [.int .i64],.t 5 false [.int .i64],.r 8 3 (.int .i64)],lt 9 28 [.t 6,.x 19,.x 36],false⟩),(32402,⟨[.t 2 false [.own 8],.t 3 false [.int .i64],.t 4 false [.int .i64],.t 6 false [.int .i64],.r 8 3 (.int .i64)],lt 13 24 [.x 19,.x 36],false⟩)] f229 (B8H (C3u A1K)):=fun _=>by kernel_rfl
theorem D1p:SQ (B8H B4j):=sF MO C6 (tc call228 C7W B7) func229 E20
def C7a(f:B6t):Nat×Fn:=(317,⟨[.val false (.rs 3 (.int .i64)) false,.val false (.rs 3 (.int .i64)) false,.val false (.int .i64) false,.val false (.int .i64) false],[.val false (.int .i64)],fun x=>f x.1 x.2.1 x.2.2.1 x.2.2.2.1⟩)
theorem E4F:EF cfg [] [(26,⟨[.t 9 false [.int .i64]],lt 10 18 [],false⟩)] f317 (C7a C6w):=fun _=>by kernel_rfl
theorem E4G:SQ (C7a A7C):=sF MO C6 B7 func317 E4F
def C7b(f:C1d):Nat×Fn:=(316,⟨[.val false (.rs 5 (.int .u8)) false],[.val false .str,.val false .bool],fun x=>f x.1⟩)
theorem E4H{A1K:A7B}{A4K:B0Q}{B3S:B6t}:EF cfg [B7J A1K,B8H A4K,C7a B3S] [(127,⟨[.t 6 false [.own 100000000],.t 7 false [.int .i64],.t 8 false [.int .i64],.r 100000000 5 (.int .u8)],lt 14 38 [.r 13,.r 50,.r 51,.t 9,.t 10],false⟩),(1018,⟨[.t 6 false [.own 100000000],.t 7 false [.int .i64],.t 8 false [.int .i64],.t 9 false [.int .i64],.r 100000000 5 (.int .u8)],lt 14 38 [.r 13,.r 50,.r 51,.t 10],false⟩)] f316 (C7b (C70 A1K A4K B3S)):=fun _=>by kernel_rfl
theorem E4I:SQ (C7b C1e):=sF MO C6 (tc call228 C7W (tc call229 D1p (tc call317 E4G B7))) func316 E4H
def B9M(f:B3u):Nat×Fn:=(310,⟨[.val false (.rs 5 (.int .u8)) false,.val false (.int .i64) false],[.val false .str,.val false (.int .i64),.val false .bool],fun x=>f x.1 x.2.1⟩)
theorem D6W{M5:A17}{C2h:C1d}:EF cfg [A6P M5,C7b C2h] [(7,⟨[],lt 19 14 [],false⟩)] f310 (B9M (B8w M5 C2h)):=fun _=>by kernel_rfl
theorem D6a:SQ (B9M B3v):=sF MO C6 (tc call288 B4F (tc call316 E4I B7)) func310 D6W
def B9N(f:B3w):Nat×Fn:=(291,⟨[.val true (.pair (.int .i64) (.rs 150 C1)) false,.val false (.rs 5 (.int .u8)) false,.val false (.int .i64) false,.val false (.int .i64) false],[.val true C1,.val false (.int .i64),.val false (.int .i64)],fun x=>f x.1 x.2.1 x.2.2.1 x.2.2.2.1⟩)
theorem D6b{M5:A17}{A4L:B0P}{A9O:B3u}:EF cfg [A6P M5,B8G A4L,B9M A9O] [(31,⟨[.t 13 false [.int .i64],.b 11 [.str,.str]],lt 51 3 (lt 42 8 (lt 29 12 (lt 14 3 [.b 15]))),false⟩)] f291 (B9N (B90 M5 A4L A9O)):=fun _=>by kernel_rfl
theorem D6c:SQ (B9N B40):=sF MO C6 (tc call288 B4F (tc call289 D1o (tc call310 D6a B7))) func291 D6b
def A9l(f:A42):Nat×Fn:=(178,⟨[.val true (.pair (.int .i64) (.rs 150 C1)) false,.val true C1 false],[.val true (.pair (.int .i64) (.rs 150 C1))],fun x=>f x.1 x.2.1⟩)
theorem D2G{A0f:A41}:EF cfg [A9k A0f] [] f178 (A9l (B5A A0f)):=fun _=>by kernel_rfl
theorem C34:SQ (A9l A2c):=sF MO C6 (tc call207 C33 B7) func178 D2G
def A7L(f:A4C):Nat×Fn:=(290,⟨[.ptr (.pair (.pair (.int .i64) (.rs 150 C1)) (.pair (.int .i64) (.pair (.rs 5 (.int .u8)) T0)))],[.val false (.int .i64)],fun x=>f x.1⟩)
theorem C4f{M5:A17}{A8W:A80}:EF cfg [A6P M5,B3D A8W] [(7,⟨[],lt 19 18 [],false⟩)] f290 (A7L (A7D M5 A8W)):=fun _=>by kernel_rfl
theorem C4g:SQ (A7L A7E):=sF MO C6 (tc call288 B4F (tc call309 D0d B7)) func290 C4f
def A92(f:A2k):Nat×Fn:=(268,⟨[.ptr (.pair (.pair (.int .i64) (.rs 150 C1)) (.pair (.int .i64) (.pair (.rs 5 (.int .u8)) T0)))],[.val false (.int .i64)],fun x=>f x.1⟩)
theorem C5d{A0g:A42}{M5:A17}{A4L:B0P}{A4M:A4C}{B4P:B3w}:EF cfg [A9l A0g,A6P M5,B8G A4L,A7L A4M,B9N B4P] [(7,⟨[],lt 66 7 (lt 23 3 []),false⟩),(31,⟨[.t 9 false [.int .i64]],[.t 75,.t 76],true⟩),(255,⟨[.b 1000 [.int .i64,.ro 150 C1,.int .i64,.ro 5 (.int .u8),.int .i64,.own 1005],.r 1005 150 C1],lt 98 11 [],true⟩)] f268 (A92 (A8u A0g M5 A4L A4M B4P)):=fun _=>by kernel_rfl
theorem C5e:SQ (A92 A1R):=sF MO C6 (tc call178 C34 (tc call288 B4F (tc call289 D1o (tc call290 C4g (tc call291 D6c B7))))) func268 C5d
def C5M(f:B6K):Nat×Fn:=(127,⟨[.val false .str false],[.val false .bool],fun x=>f x.1⟩)
theorem E7R{C8:J1}:EF cfg [A00 C8] [(3,⟨[],lt 3 21 [],false⟩),(26,⟨[.t 3 false [.int .i64]],lt 4 20 [],false⟩)] f127 (C5M (C9r C8)):=fun _=>by kernel_rfl
theorem D83:SQ (C5M B6L):=sF MO C6 (tc call53 A0T B7) func127 E7R
def B4u(f:A5Q):Nat×Fn:=(128,⟨[.val false (.int .i64) false],[.val false (.int .i64)],fun x=>f x.1⟩)
theorem E21:EF cfg [] [] f128 (B4u B4k):=fun _=>by kernel_rfl
theorem C4h:SQ (B4u A4D):=sF MO C6 B7 func128 E21
def B4G(f:A4d):Nat×Fn:=(130,⟨[.val false (.int .i64) false],[.val false .str],fun x=>f x.1⟩)
theorem D6d:EF cfg [] [] f130 (B4G C5w):=fun _=>by kernel_rfl
theorem C6I:SQ (B4G A4e):=sF MO C6 B7 func130 D6d
def B8I(f:B0R):Nat×Fn:=(131,⟨[.val false (.int .i64) false],[.val false .str],fun x=>f x.1⟩)
theorem E22:EF cfg [] [] f131 (B8I C3v):=fun _=>by kernel_rfl
theorem D1q:SQ (B8I B0S):=sF MO C6 B7 func131 E22
def B66(f:A5e):Nat×Fn:=(295,⟨[.val false (.rs 150 C1) false,.val false .str false],[.val false (.int .i64)],fun x=>f x.1 x.2.1⟩)
theorem D9g:EF cfg [] [(58,⟨[.t 5 false [.int .i64],.t 6 false [.int .i64]],lt 7 15 [],false⟩)] f295 (B66 C1f):=fun _=>by kernel_rfl
theorem C9A:SQ (B66 A30):=sF MO C6 B7 func295 D9g
def C4i(f:B82):Nat×Fn:=(292,⟨[.val false (.rs 150 C1) false],[.val false .bool],fun x=>f x.1⟩)
theorem E23{C8:J1}{P3:A5e}:EF cfg [A00 C8,B66 P3] [(7,⟨[],lt 3 56 [],false⟩),(58,⟨[.t 3 false [.bool],.t 4 false [.int .i64]],lt 5 54 [],false⟩),(3731,⟨[],lt 20 11 [.t 6],false⟩),(29850,⟨[.t 6 false [.int .i64]],lt 20 11 [],false⟩)] f292 (C4i (C3w C8 P3)):=fun _=>by kernel_rfl
theorem E24:SQ (C4i B83):=sF MO C6 (tc call53 A0T (tc call295 C9A B7)) func292 E23
def C2O(f:B1J):Nat×Fn:=(293,⟨[.val false (.rs 150 C1) false,.val false .str false],[.val false .str],fun x=>f x.1 x.2.1⟩)
theorem D9h:EF cfg [] [(26,⟨[.t 5 false [.int .i64]],lt 6 13 [],false⟩)] f293 (C2O C1g):=fun _=>by kernel_rfl
theorem D9i:SQ (C2O A82):=sF MO C6 B7 func293 D9h
def B9O(f:B41):Nat×Fn:=(294,⟨[.val false .str false,.val false (.int .i64) false],[.val false (.int .i64),.val false .bool],fun x=>f x.1 x.2.1⟩)
theorem D6e{C8:J1}:EF cfg [A00 C8] [(7,⟨[],lt 8 14 [],false⟩),(15,⟨[.t 6 false [.int .i64]],lt 22 20 [.t 7],false⟩),(122,⟨[.t 6 false [.int .i64],.t 7 false [.int .i64]],lt 22 20 [],false⟩)] f294 (B9O (B91 C8)):=fun _=>by kernel_rfl
theorem D6f:SQ (B9O B42):=sF MO C6 (tc call53 A0T B7) func294 D6e
def D0e(f:C5D):Nat×Fn:=(269,⟨[.val false (.rs 150 C1) false],[.val true D3l,.val false (.int .i64)],fun x=>f x.1⟩)
theorem E7S{A8a:B6K}{A0N:A5Q}{A0V:A4d}{A4O:B0R}{B8R:B82}{A4N:B1J}{B4Q:B41}{P3:A5e}:EF cfg [C5M A8a,B4u A0N,B4G A0V,B8I A4O,C4i B8R,C2O A4N,B9O B4Q,B66 P3] [(31,⟨[.b 5 [.int .i64,.str,.int .i64]],lt 17 11 [.t 6],true⟩),(127,⟨[],lt 35 15 (lt 30 4 []),false⟩),(250,⟨[.t 6 false [.int .i64],.b 5 [.int .i64,.str,.int .i64]],lt 17 11 [],false⟩)] f269 (D0e (C9s A8a A0N A0V A4O B8R A4N B4Q P3)):=fun _=>by kernel_rfl
theorem E7T:SQ (D0e C5E):=sF MO C6 (tc call127 D83 (tc call128 C4h (tc call130 C6I (tc call131 D1q (tc call292 E24 (tc call293 D9i (tc call294 D6f (tc call295 C9A B7)))))))) func269 E7S
def A93(f:A4p):Nat×Fn:=(244,⟨[.val true (.pair (.int .i64) (.rs 150 C1)) false,.val false (.int .i64) false,.val false (.rs 5 (.int .u8)) false],[.val false (.sl 150 C1),.val true (.pair (.int .i64) (.rs 150 C1)),.val false (.int .i64)],fun x=>f x.1 x.2.1 x.2.2.1⟩)
theorem C5f{L8:A1a}{C8:J1}{J8:A0l}{A1S:A2k}:EF cfg [A7J L8,A00 C8,A7K J8,A92 A1S] [(7,⟨[],lt 13 8 [],false⟩),(14,⟨[.t 20 false [.bool]],lt 13 7 [],true⟩),(31,⟨[.b 29 [.int .i64,.ro 150 C1,.int .i64,.ro 5 (.int .u8),.int .i64,.own 100002000],.r 100002000 150 C1],lt 30 21 [.r 106497,.r 161797,.t 11,.t 25,.t 28],false⟩),(124,⟨[.b 29 [.int .i64,.ro 150 C1,.int .i64,.ro 5 (.int .u8),.int .i64,.own 100002000],.r 100002000 150 C1],lt 30 21 [.r 106497,.r 161797,.t 11,.t 25,.t 28],false⟩),(1989,⟨[.t 11 false [.int .i64]],lt 39 10 [],true⟩)] f244 (A93 (A8v L8 C8 J8 A1S)):=fun _=>by kernel_rfl
theorem C5g:SQ (A93 A4q):=sF MO C6 (tc call51 B4t (tc call53 A0T (tc call54 B3C (tc call268 C5e B7)))) func244 C5f
def A8L(f:B0M):Nat×Fn:=(199,⟨[.ptr (.pair (.pair (.int .i64) (.pair (.sl 5 (.int .u8)) (.pair A1i (.pair (.pair (.int .i64) (.rs 150 C1)) (.pair T0 (.pair (.sl 113 H2) L2)))))) (.pair (.sl 75 A0q) (.sl 5 (.int .u8)))),.val true (.pair (.int .i64) (.pair (.int .i64) (.pair (.int .i64) (.rs 5 (.int .u8))))) false],[],fun x=>f x.1 x.2.1⟩)
theorem D0f{I5:S2}:EF cfg [A5l I5] [] f199 (A8L (C3r I5)):=fun _=>by kernel_rfl
theorem C0F:SQ (A8L B4g):=sF MO C6 (tc call59 B1n B7) func199 D0f
def U1(f:Q7):Nat×Fn:=(169,⟨[.ptr (.pair (.pair (.int .i64) (.pair (.sl 5 (.int .u8)) (.pair A1i (.pair (.pair (.int .i64) (.rs 150 C1)) (.pair T0 (.pair (.sl 113 H2) L2)))))) (.pair (.sl 75 A0q) (.sl 5 (.int .u8)))),.val false (.int .i64) false],[],fun x=>f x.1 x.2.1⟩)
theorem D0g{A3M:B0M}{B4O:B3s}:EF cfg [A8L A3M,B9L B4O] [] f169 (U1 (C3s A3M B4O)):=fun _=>by kernel_rfl
theorem A0v:SQ (U1 A29):=sF MO C6 (tc call199 C0F (tc call200 D6T B7)) func169 D0g
def A6r(f:A7v):Nat×Fn:=(247,⟨[.ptr (.pair (.pair (.int .i64) (.pair (.sl 5 (.int .u8)) (.pair A1i (.pair (.pair (.int .i64) (.rs 150 C1)) (.pair T0 (.pair (.sl 113 H2) L2)))))) (.pair (.sl 75 A0q) (.sl 5 (.int .u8)))),.val false (.int .i64) false],[],fun x=>f x.1 x.2.1⟩)
theorem C9B:EF cfg [] [] f247 (A6r C1b):=fun _=>by kernel_rfl
theorem B8J:SQ (A6r B1D):=sF MO C6 B7 func247 C9B
def B0A(f:B43):Nat×Fn:=(245,⟨[.ptr (.pair (.pair (.int .i64) (.pair (.sl 5 (.int .u8)) (.pair A1i (.pair (.pair (.int .i64) (.rs 150 C1)) (.pair T0 (.pair (.sl 113 H2) L2)))))) (.pair (.sl 75 A0q) (.sl 5 (.int .u8)))),.val false (.int .i64) false,.val false .bool false,.val false (.rs 150 C1) false],[],fun x=>f x.1 x.2.1 x.2.2.1 x.2.2.2.1⟩)
theorem C7c{F8:Q7}{A3E:A7v}{C5Q:C5D}:EF cfg [U1 F8,A6r A3E,D0e C5Q] [(1,⟨[],lt 26 8 (lt 11 13 []),false⟩),(4,⟨[.t 11 false [.bool]],lt 12 12 [],true⟩),(63,⟨[.b 10 [.int .i64,.int .i64,.int .i64,.str,.int .i64,.nil]],[.t 63,.t 64],true⟩)] f245 (B0A (B92 F8 A3E C5Q)):=fun _=>by kernel_rfl
theorem C7d:SQ (B0A B44):=sF MO C6 (tc call169 A0v (tc call247 B8J (tc call269 E7T B7))) func245 C7c
def A6s(f:A7w):Nat×Fn:=(225,⟨[.ptr (.pair (.pair (.int .i64) (.pair (.sl 5 (.int .u8)) (.pair A1i (.pair (.pair (.int .i64) (.rs 150 C1)) (.pair T0 (.pair (.sl 113 H2) L2)))))) (.pair (.sl 75 A0q) (.sl 5 (.int .u8)))),.val false (.int .i64) false,.val false (.int .i64) false],[],fun x=>f x.1 x.2.1 x.2.2.1⟩)
theorem C9C{F8:Q7}{B1w:B1B}{A3E:A7v}:EF cfg [U1 F8,B7H B1w,A6r A3E] [] f225 (A6s (C1c F8 B1w A3E)):=fun _=>by kernel_rfl
theorem B8K:SQ (A6s B1E):=sF MO C6 (tc call169 A0v (tc call246 D5g (tc call247 B8J B7))) func225 C9C
def B1o(f:A6j):Nat×Fn:=(223,⟨[.ptr (.pair (.pair (.int .i64) (.pair (.sl 5 (.int .u8)) (.pair A1i (.pair (.pair (.int .i64) (.rs 150 C1)) (.pair T0 (.pair (.sl 113 H2) L2)))))) (.pair (.sl 75 A0q) (.sl 5 (.int .u8)))),.val false (.int .i64) false,.val false .bool false,.val false (.rs 5 (.int .u8)) false],[],fun x=>f x.1 x.2.1 x.2.2.1 x.2.2.2.1⟩)
theorem C9D{A2O:B0N}{F8:Q7}{A1L:A7w}{A4w:A4p}{B4R:B43}:EF cfg [C0E A2O,U1 F8,A6s A1L,A93 A4w,B0A B4R] [] f223 (B1o (B1K A2O F8 A1L A4w B4R)):=fun _=>by kernel_rfl
theorem C9E:SQ (B1o A6k):=sF MO C6 (tc call77 D0W (tc call169 A0v (tc call225 B8K (tc call244 C5g (tc call245 C7d B7))))) func223 C9D
def C2P(f:B5q):Nat×Fn:=(226,⟨[.val false (.rs 5 (.int .u8)) false],[.val false (.int .i64),.val false .bool],fun x=>f x.1⟩)
theorem D9j{A4k:B2f}:EF cfg [C2K A4k] [] f226 (C2P (C1h A4k)):=fun _=>by kernel_rfl
theorem D9k:SQ (C2P B5r):=sF MO C6 (tc call171 D5a B7) func226 D9j
def B3E(f:A83):Nat×Fn:=(202,⟨[.ptr (.pair (.pair (.int .i64) (.pair (.sl 5 (.int .u8)) (.pair A1i (.pair (.pair (.int .i64) (.rs 150 C1)) (.pair T0 (.pair (.sl 113 H2) L2)))))) (.pair (.sl 75 A0q) (.sl 5 (.int .u8)))),.val true (.pair (.int .i64) (.pair (.int .i64) (.pair (.int .i64) (.rs 5 (.int .u8))))) false],[],fun x=>f x.1 x.2.1⟩)
theorem D0h{F8:Q7}{C9P:C8O}{A6v:A6j}:EF cfg [U1 F8,D5e C9P,B1o A6v] [(7,⟨[.t 4 false [.bool]],lt 14 7 [],true⟩),(126,⟨[.t 44 false [.bool]],[.t 45,.t 46],true⟩)] f202 (B3E (B2m F8 C9P A6v)):=fun _=>by kernel_rfl
theorem D0i:SQ (B3E A84):=sF MO C6 (tc call169 A0v (tc call222 F0M (tc call223 C9E B7))) func202 D0h
def B3F(f:B84):Nat×Fn:=(203,⟨[.ptr (.pair (.pair (.int .i64) (.pair (.sl 5 (.int .u8)) (.pair A1i (.pair (.pair (.int .i64) (.rs 150 C1)) (.pair T0 (.pair (.sl 113 H2) L2)))))) (.pair (.sl 75 A0q) (.sl 5 (.int .u8)))),.val true (.pair (.int .i64) (.pair (.int .i64) (.pair (.int .i64) (.rs 5 (.int .u8))))) false],[],fun x=>f x.1 x.2.1⟩)
theorem D0j{A2O:B0N}{F8:Q7}{A8V:B6J}{A1L:A7w}:EF cfg [C0E A2O,U1 F8,C5L A8V,A6s A1L] [] f203 (B3F (C40 A2O F8 A8V A1L)):=fun _=>by kernel_rfl
theorem D0k:SQ (B3F B85):=sF MO C6 (tc call77 D0W (tc call169 A0v (tc call224 D82 (tc call225 B8K B7)))) func203 D0j
def B1p(f:A6l):Nat×Fn:=(204,⟨[.ptr (.pair (.pair (.int .i64) (.pair (.sl 5 (.int .u8)) (.pair A1i (.pair (.pair (.int .i64) (.rs 150 C1)) (.pair T0 (.pair (.sl 113 H2) L2)))))) (.pair (.sl 75 A0q) (.sl 5 (.int .u8)))),.val true (.pair (.int .i64) (.pair (.int .i64) (.pair (.int .i64) (.rs 5 (.int .u8))))) false],[],fun x=>f x.1 x.2.1⟩)
theorem C9F{A2O:B0N}{F8:Q7}{A3M:B0M}{B6C:B5q}{A8b:A7a}:EF cfg [C0E A2O,U1 F8,A8L A3M,C2P B6C,C0D A8b] [] f204 (B1p (B1L A2O F8 A3M B6C A8b)):=fun _=>by kernel_rfl
theorem C9G:SQ (B1p A6m):=sF MO C6 (tc call77 D0W (tc call169 A0v (tc call199 C0F (tc call226 D9k (tc call227 D0K B7))))) func204 C9F
def B1q(f:A6n):Nat×Fn:=(170,⟨[.ptr (.pair (.pair (.int .i64) (.pair (.sl 5 (.int .u8)) (.pair A1i (.pair (.pair (.int .i64) (.rs 150 C1)) (.pair T0 (.pair (.sl 113 H2) L2)))))) (.pair (.sl 75 A0q) (.sl 5 (.int .u8)))),.val true (.pair (.int .i64) (.pair (.int .i64) (.pair (.int .i64) (.rs 5 (.int .u8))))) false],[],fun x=>f x.1 x.2.1⟩)
theorem C9H{F8:Q7}{A25:A6H}{A8c:A83}{B8S:B84}{A6w:A6l}:EF cfg [U1 F8,B4E A25,B3E A8c,B3F B8S,B1p A6w] [(14,⟨[.t 17 false [.bool]],lt 18 17 [],true⟩)] f170 (B1q (B1M F8 A25 A8c B8S A6w)):=fun _=>by kernel_rfl
theorem C9I:SQ (B1q A6o):=sF MO C6 (tc call169 A0v (tc call201 C6H (tc call202 D0i (tc call203 D0k (tc call204 C9G B7))))) func170 C9H
def B3G(f:A59):Nat×Fn:=(119,⟨[.ptr (.pair (.pair (.int .i64) (.pair (.sl 5 (.int .u8)) (.pair A1i (.pair (.pair (.int .i64) (.rs 150 C1)) (.pair T0 (.pair (.sl 113 H2) L2)))))) (.pair (.sl 75 A0q) (.sl 5 (.int .u8)))),.val false (.int .u8) false],[],fun x=>f x.1 x.2.1⟩)
theorem D0l{A3D:A7t}{F8:Q7}{A70:A6n}:EF cfg [B65 A3D,U1 F8,B1q A70] [] f119 (B3G (A85 A3D F8 A70)):=fun _=>by kernel_rfl
theorem D0m:SQ (B3G A1r):=sF MO C6 (tc call122 C99 (tc call169 A0v (tc call170 C9I B7))) func119 D0l
def C5N(f:B6M):Nat×Fn:=(52,⟨[.val true D3l false],[.val false .bool],fun x=>f x.1⟩)
theorem E7U{C8:J1}{A8a:B6K}{A0N:A5Q}:EF cfg [A00 C8,C5M A8a,B4u A0N] [(3,⟨[],lt 4 10 [],false⟩)] f52 (C5N (C9u C8 A8a A0N)):=fun _=>by kernel_rfl
theorem D84:SQ (C5N B9n):=sF MO C6 (tc call53 A0T (tc call127 D83 (tc call128 C4h B7))) func52 E7U
def B9P(f:B45):Nat×Fn:=(174,⟨[.val true (.pair (.int .i64) (.rs 150 C1)) false,.val true C1 false],[.val false (.int .i64),.val false .bool],fun x=>f x.1 x.2.1⟩)
theorem D6g{A4J:B0O}:EF (cfg.withEq [(150,1002)]) [B8F A4J] [(15,⟨[.t 7 false [.int .i64]],lt 37 10 (lt 11 25 [.b 9,.t 8,.t 9,.x 25]),false⟩),(122,⟨[.t 7 false [.int .i64],.t 8 false [.int .i64]],lt 37 10 (lt 11 25 [.b 9,.t 9,.x 25]),false⟩),(3913,⟨[.b 9 [.str,.str]],lt 20 13 [.x 25],true⟩)] f174 (B9P (B93 A4J)):=fun _=>by kernel_rfl
theorem D6h:SQ (B9P B46):=sF MO (D7I (l:= [(150,1002)]) C6 ⟨F3U,trivial⟩) (tc call205 D1n B7) func174 D6g
def B4H(f:A6K):Nat×Fn:=(175,⟨[.val false (.rs 5 (.int .u8)) false,.val false (.int .i64) false,.val false (.int .i64) false,.val false (.int .i64) false],[.val false (.sl 5 (.int .u8))],fun x=>f x.1 x.2.1 x.2.2.1 x.2.2.2.1⟩)
theorem D6i{C8:J1}:EF cfg [A00 C8] [(7,⟨[],lt 14 8 [],false⟩),(15,⟨[.t 3 false [.int .i64]],[.t 23,.t 24],true⟩),(31,⟨[.t 3 false [.int .i64]],[.t 25,.t 26],true⟩),(2047,⟨[.t 3 false [.int .i64],.t 9 false [.own 100003000],.r 100003000 5 (.int .u8)],lt 54 11 [.r 50,.r 61,.r 62],true⟩),(8188,⟨[.t 3 false [.int .i64],.t 9 false [.own 100003000],.r 100003000 5 (.int .u8)],lt 54 11 [.r 50,.r 61,.r 62],false⟩)] f175 (B4H (B94 C8)):=fun _=>by kernel_rfl
theorem C6J:SQ (B4H A6L):=sF MO C6 (tc call53 A0T B7) func175 D6i
def C7e(f:C1i):Nat×Fn:=(176,⟨[.val false (.int .i64) false],[.val false (.int .i64),.val false (.int .i64)],fun x=>f x.1⟩)
theorem E4J:EF cfg [] [] f176 (C7e D46):=fun _=>by kernel_rfl
theorem E4K:SQ (C7e C72):=sF MO C6 B7 func176 E4J
def D5j(f:C8Q):Nat×Fn:=(206,⟨[.val false .str false],[.val false (.sl 5 (.int .u8))],fun x=>f x.1⟩)
theorem F0N{A1K:A7B}{A4K:B0Q}:EF cfg [B7J A1K,B8H A4K] [(127,⟨[.t 5 false [.own 100000001],.t 6 false [.int .i64],.t 7 false [.int .i64],.r 100000001 5 (.int .u8)],lt 12 48 [.r 11,.r 52,.r 53,.r 100001000,.t 8,.x 23,.x 31,.x 39],true⟩),(1018,⟨[.t 5 false [.own 100000001],.t 6 false [.int .i64],.t 7 false [.int .i64],.t 8 false [.int .i64],.r 100000001 5 (.int .u8)],lt 12 48 [.r 11,.r 52,.r 53,.r 100001000,.x 23,.x 31,.x 39],false⟩),(130342,⟨[.t 5 false [.own 100001000],.t 6 false [.int .i64],.t 7 false [.int .i64],.r 100001000 5 (.int .u8)],lt 42 18 [.r 11,.r 52,.r 53,.r 100000001],false⟩)] f206 (D5j (D47 A1K A4K)):=fun _=>by kernel_rfl
theorem F0O:SQ (D5j C8R):=sF MO C6 (tc call228 C7W (tc call229 D1p B7)) func206 F0N
def B9Q(f:B47):Nat×Fn:=(177,⟨[.val false (.rs 5 (.int .u8)) false,.val false .str false],[.val false (.sl 5 (.int .u8))],fun x=>f x.1 x.2.1⟩)
theorem D6j{A0W:A6K}{C9Q:C8Q}:EF cfg [B4H A0W,D5j C9Q] [] f177 (B9Q (B95 A0W C9Q)):=fun _=>by kernel_rfl
theorem D6k:SQ (B9Q A9I):=sF MO C6 (tc call175 C6J (tc call206 F0O B7)) func177 D6j
def B0B(f:A3d):Nat×Fn:=(129,⟨[.val true (.pair (.int .i64) (.rs 150 C1)) false,.val true C1 false,.val false (.int .i64) false],[.val false (.sl 5 (.int .u8)),.val true (.pair (.int .i64) (.rs 150 C1))],fun x=>f x.1 x.2.1 x.2.2.1⟩)
theorem C7f{L8:A1a}{C8:J1}{J8:A0l}{B4S:B45}{A0W:A6K}{C2i:C1i}{A9P:B47}{A0g:A42}:EF cfg [A7J L8,A00 C8,A7K J8,B9P B4S,B4H A0W,C7e C2i,B9Q A9P,A9l A0g] [(7,⟨[],lt 16 8 [],false⟩),(31,⟨[],lt 32 5 [],false⟩),(62,⟨[.t 36 false [.bool]],lt 32 4 [],true⟩),(255,⟨[.t 13 false [.own 100003000],.r 100003000 5 (.int .u8)],lt 51 6 [.r 208896,.r 233472],true⟩)] f129 (B0B (B00 L8 C8 J8 B4S A0W C2i A9P A0g)):=fun _=>by kernel_rfl
theorem C7g:SQ (B0B W8):=sF MO C6 (tc call51 B4t (tc call53 A0T (tc call54 B3C (tc call174 D6h (tc call175 C6J (tc call176 E4K (tc call177 D6k (tc call178 C34 B7)))))))) func129 C7f
def B3H(f:A86):Nat×Fn:=(132,⟨[.val false (.int .i64) false],[.val false .str],fun x=>f x.1⟩)
theorem D0n{B21:B0q}:EF cfg [C4R B21] [] f132 (B3H (A5A B21)):=fun _=>by kernel_rfl
theorem D0o:SQ (B3H B2o):=sF MO C6 (tc call132 D5D B7) func132 D0n
def B3I(f:A87):Nat×Fn:=(132,⟨[.val false (.int .i64) false],[.val false .str],fun x=>f x.1⟩)
theorem D0p{A8d:A86}:EF cfg [B3H A8d] [] f132 (B3I (B9o A8d)):=fun _=>by kernel_rfl
theorem D0q:SQ (B3I B2p):=sF MO C6 (tc call132 D0o B7) func132 D0p
def B3J(f:A88):Nat×Fn:=(132,⟨[.val false (.int .i64) false],[.val false .str],fun x=>f x.1⟩)
theorem D0r{A8e:A87}:EF cfg [B3I A8e] [] f132 (B3J (B9p A8e)):=fun _=>by kernel_rfl
theorem D0s:SQ (B3J B2q):=sF MO C6 (tc call132 D0q B7) func132 D0r
def B3K(f:A89):Nat×Fn:=(132,⟨[.val false (.int .i64) false],[.val false .str],fun x=>f x.1⟩)
theorem D0t{A8f:A88}:EF cfg [B3J A8f] [] f132 (B3K (B9q A8f)):=fun _=>by kernel_rfl
theorem D0u:SQ (B3K B2r):=sF MO C6 (tc call132 D0s B7) func132 D0t
def B3L(f:A8A):Nat×Fn:=(132,⟨[.val false (.int .i64) false],[.val false .str],fun x=>f x.1⟩)
theorem D0v{A8g:A89}:EF cfg [B3K A8g] [] f132 (B3L (B9r A8g)):=fun _=>by kernel_rfl
theorem D0w:SQ (B3L B2s):=sF MO C6 (tc call132 D0u B7) func132 D0v
def B3M(f:A8B):Nat×Fn:=(132,⟨[.val false (.int .i64) false],[.val false .str],fun x=>f x.1⟩)
theorem D10{A8h:A8A}:EF cfg [B3L A8h] [] f132 (B3M (B9s A8h)):=fun _=>by kernel_rfl
theorem D11:SQ (B3M B2t):=sF MO C6 (tc call132 D0w B7) func132 D10
def B3N(f:A8C):Nat×Fn:=(132,⟨[.val false (.int .i64) false],[.val false .str],fun x=>f x.1⟩)
theorem D12{A8i:A8B}:EF cfg [B3M A8i] [] f132 (B3N (B9t A8i)):=fun _=>by kernel_rfl
theorem D13:SQ (B3N B2u):=sF MO C6 (tc call132 D11 B7) func132 D12
def B3O(f:A8D):Nat×Fn:=(132,⟨[.val false (.int .i64) false],[.val false .str],fun x=>f x.1⟩)
theorem D14{A8j:A8C}:EF cfg [B3N A8j] [] f132 (B3O (B9u A8j)):=fun _=>by kernel_rfl
theorem D15:SQ (B3O B2v):=sF MO C6 (tc call132 D13 B7) func132 D14
def B3P(f:A8E):Nat×Fn:=(132,⟨[.val false (.int .i64) false],[.val false .str],fun x=>f x.1⟩)
theorem D16{A8k:A8D}:EF cfg [B3O A8k] [] f132 (B3P (B9v A8k)):=fun _=>by kernel_rfl
theorem D17:SQ (B3P B2w):=sF MO C6 (tc call132 D15 B7) func132 D16
end
end Go.Proofs.YthnfghmjipikhaaGreatDoor.Ev
