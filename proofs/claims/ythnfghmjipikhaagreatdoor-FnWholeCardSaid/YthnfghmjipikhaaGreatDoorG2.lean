/- Each function of the program does what its plain function says. -/
import Derived.Test.YthnfghmjipikhaaGreatDoorG1
set_option linter.unusedVariables false
set_option maxRecDepth 100000
namespace Go.Proofs.YthnfghmjipikhaaGreatDoor.Ev
open Tryz
noncomputable section
def A1Q(f:Q5):Nat×Fn:=(286,⟨[.val false (.rs 9 .str) false,.val false .str false],[.val false .bool],fun x=>f x.1 x.2.1⟩)
theorem A8t{A0f:A0c}:EF cfg [A2G A0f] [] f286 (A1Q (A1O A0f)):=fun _=>by kernel_rfl
theorem A8u:SQ (A1Q K5):=sF MO F4 (tc call306 B11 D9) func286 A8t
def C0q(f:B6D):Nat×Fn:=(257,⟨[.val false (.rs 150 C8) false],[.val false .bool],fun x=>f x.1⟩)
theorem D4j{U0:A4A}{A9e:B27}{M6:Q5}:EF (cfg.withAr [(292,3,9)]) [B3L U0,C0p A9e,A1Q M6] [(7,⟨[],lt 13 35 (lt 5 4 [.b 5,.r 27,.t 3]),false⟩),(58,⟨[.t 3 false [.bool],.t 15 false [.int .i64]],lt 16 32 (lt 5 4 [.b 5,.r 27]),false⟩),(122,⟨[.t 49 false [.int .i64]],lt 50 11 (lt 10 3 []),false⟩)] f257 (C0q (C0O U0 A9e M6)):=fun _=>by kernel_rfl
theorem D4k:SQ (C0q B6E):=sF MO (A99 (l:= [(292,3,9)]) F4 ⟨tA t292 ⟨false,.str,16,[]⟩ underlying292,trivial⟩) (tc call258 C3p (tc call285 D4i (tc call286 A8u D9))) func257 D4j
def C6l(f:C1O):Nat×Fn:=(259,⟨[.val false .str false],[.val false (.int .i64)],fun x=>f x.1⟩)
theorem E0r{A18:A4H}:EF cfg [B1U A18] [(26,⟨[.t 3 false [.int .i64]],lt 4 8 [],false⟩)] f259 (C6l (C5j A18)):=fun _=>by kernel_rfl
theorem E0s:SQ (C6l C1P):=sF MO F4 (tc call141 C1t D9) func259 E0r
def A15(f:U6):Nat×Fn:=(307,⟨[.val false .str false,.val false .str false],[.val false .bool],fun x=>f x.1 x.2.1⟩)
theorem A8S:EF cfg [] [] f307 (A15 A10):=fun _=>by kernel_rfl
theorem A8T:SQ (A15 A11):=sF MO F4 D9 func307 A8S
def A16(f:U7):Nat×Fn:=(287,⟨[.val false .str false,.val false .str false],[.val false .str,.val false .bool],fun x=>f x.1 x.2.1⟩)
theorem A8U{V0:U6}:EF cfg [A15 V0] [] f287 (A16 (A12 V0)):=fun _=>by kernel_rfl
theorem A8V:SQ (A16 A13):=sF MO F4 (tc call307 A8T D9) func287 A8U
def A6b(f:A3k):Nat×Fn:=(260,⟨[.val false .str false,.val false .str false],[.val false .str,.val false .bool],fun x=>f x.1 x.2.1⟩)
theorem B9O{V1:U7}:EF cfg [A16 V1] [] f260 (A6b (A6T V1)):=fun _=>by kernel_rfl
theorem B9P:SQ (A6b A2J):=sF MO F4 (tc call287 A8V D9) func260 B9O
def C35(f:B9C):Nat×Fn:=(239,⟨[.val false (.rs 150 C8) false],[.val true B0O,.val false (.int .i64)],fun x=>f x.1⟩)
theorem D7o{N6:A1J}{A8c:B4V}{A2W:A5s}{B6w:B6D}{U0:A4A}{C2A:C1O}{A3m:A3k}:EF cfg [A4d N6,C1r A8c,B1d A2W,C0q B6w,B3L U0,C6l C2A,A6b A3m] [(255,⟨[],lt 42 7 [],false⟩)] f239 (C35 (C2f N6 A8c A2W B6w U0 C2A A3m)):=fun _=>by kernel_rfl
theorem D7p:SQ (C35 B9D):=sF MO F4 (tc call136 B0u (tc call137 D2G (tc call164 C23 (tc call257 D4k (tc call258 C3p (tc call259 E0s (tc call260 B9P D9))))))) func239 D7o
def A9W(f:A5v):Nat×Fn:=(214,⟨[.ptr A3j,.val false (.int .i64) false,.val false .bool false,.val false (.rs 5 (.int .u8)) false],[.val false (.int .i64)],fun x=>f x.1 x.2.1 x.2.2.1 x.2.2.2.1⟩)
theorem C36{A1m:A4s}{M8:A0v}{P8:A1W}{B2U:B69}{B9K:B9C}{A1C:A40}{A6K:A5q}:EF cfg [B08 A1m,A8M M8,A7S P8,C0o B2U,C35 B9K,A8P A1C,A9V A6K] [(63,⟨[],lt 51 21 [.t 44,.t 45],false⟩),(1011,⟨[.t 51 false [.bool]],lt 52 12 [],true⟩)] f214 (A9W (A9J A1m M8 P8 B2U B9K A1C A6K)):=fun _=>by kernel_rfl
theorem C37:SQ (A9W A5w):=sF MO F4 (tc call39 B9q (tc call83 B6d (tc call216 B2O (tc call238 D4g (tc call239 D7p (tc call240 B8h (tc call241 C34 D9))))))) func214 C36
def B12(f:A77):Nat×Fn:=(186,⟨[.ptr A3j,.val true (.pair (.int .i64) (.pair (.int .i64) (.pair (.int .i64) (.rs 5 (.int .u8))))) false],[.val false (.int .i64)],fun x=>f x.1 x.2.1⟩)
theorem C45{A8g:B4e}{H0:R7}{A6L:A5v}:EF cfg [C20 A8g,A2g H0,A9W A6L] [(7,⟨[.t 5 false [.int .i64],.t 6 false [.bool]],lt 22 6 [],true⟩),(506,⟨[.t 45 false [.bool]],[.t 46,.t 47],true⟩)] f186 (B12 (B0n A8g H0 A6L)):=fun _=>by kernel_rfl
theorem C46:SQ (B12 A78):=sF MO F4 (tc call38 D2T (tc call109 A4u (tc call214 C37 D9))) func186 C45
def A8W(f:A58):Nat×Fn:=(187,⟨[.ptr A3j,.val true (.pair (.int .i64) (.pair (.int .i64) (.pair (.int .i64) (.rs 5 (.int .u8))))) false,.val false (.rs 5 (.int .u8)) false],[],fun x=>f x.1 x.2.1 x.2.2.1⟩)
theorem C24{I3:U4}{H0:R7}:EF cfg [A4N I3,A2g H0] [] f187 (A8W (A88 I3 H0)):=fun _=>by kernel_rfl
theorem C25:SQ (A8W A59):=sF MO F4 (tc call69 A8J (tc call109 A4u D9)) func187 C24
def B6k(f:B1R):Nat×Fn:=(188,⟨[.val false (.rs 5 (.int .u8)) false],[.val false (.int .i64),.val false .bool],fun x=>f x.1⟩)
theorem D0A{A3e:A9C}:EF cfg [B6a A3e] [] f188 (B6k (B6F A3e)):=fun _=>by kernel_rfl
theorem D0B:SQ (B6k B1S):=sF MO F4 (tc call155 C6b D9) func188 D0A
def A4O(f:A1a):Nat×Fn:=(215,⟨[.ptr A3j,.val true (.pair (.int .i64) (.pair (.int .i64) (.pair (.int .i64) (.rs 5 (.int .u8))))) false],[.val false (.int .i64)],fun x=>f x.1 x.2.1⟩)
theorem C0r:EF cfg [] [] f215 (A4O A7O):=fun _=>by kernel_rfl
theorem B2P:SQ (A4O A2o):=sF MO F4 D9 func215 C0r
def B13(f:A79):Nat×Fn:=(189,⟨[.ptr A3j,.val true (.pair (.int .i64) (.pair (.int .i64) (.pair (.int .i64) (.rs 5 (.int .u8))))) false],[.val false (.int .i64)],fun x=>f x.1 x.2.1⟩)
theorem C47{M8:A0v}{A6I:B1n}{H0:R7}{S6:A1a}{P8:A1W}:EF cfg [A8M M8,B9I A6I,A2g H0,A4O S6,A7S P8] [] f189 (B13 (B0o M8 A6I H0 S6 P8)):=fun _=>by kernel_rfl
theorem C48:SQ (B13 A7A):=sF MO F4 (tc call83 B6d (tc call108 C8f (tc call109 A4u (tc call215 B2P (tc call216 B2O D9))))) func189 C47
def A9a(f:A60):Nat×Fn:=(190,⟨[.ptr A3j,.val true (.pair (.int .i64) (.pair (.int .i64) (.pair (.int .i64) (.rs 5 (.int .u8))))) false],[.val false (.int .i64)],fun x=>f x.1 x.2.1⟩)
theorem C38{M8:A0v}{I1:L4}{S6:A1a}:EF cfg [A8M M8,A0s I1,A4O S6] [] f190 (A9a (A9K M8 I1 S6)):=fun _=>by kernel_rfl
theorem C39:SQ (A9a A61):=sF MO F4 (tc call83 B6d (tc call86 A2u (tc call215 B2P D9))) func190 C38
def A9b(f:A41):Nat×Fn:=(152,⟨[.ptr A3j,.val true (.pair (.int .i64) (.pair (.int .i64) (.pair (.int .i64) (.rs 5 (.int .u8))))) false],[.val false (.int .i64)],fun x=>f x.1 x.2.1⟩)
theorem C3A{A1k:A4q}{A4e:A77}{A3J:A58}{B1h:B1R}{A7I:A79}{A6M:A60}:EF cfg [B06 A1k,B12 A4e,A8W A3J,B6k B1h,B13 A7I,A9a A6M] [(122,⟨[.t 25 false [.bool]],[.t 26,.t 27],true⟩)] f152 (A9b (A9L A1k A4e A3J B1h A7I A6M)):=fun _=>by kernel_rfl
theorem C3B:SQ (A9b A2i):=sF MO F4 (tc call105 B9o (tc call186 C46 (tc call187 C25 (tc call188 D0B (tc call189 C48 (tc call190 C39 D9)))))) func152 C3A
def A8a(f:A5A):Nat×Fn:=(100,⟨[.ptr A3j,.val false (.rs 5 (.int .u8)) false],[.val false (.int .i64)],fun x=>f x.1 x.2.1⟩)
theorem C26{N9:A1g}{B7:F3}{A2j:A41}:EF cfg [A8K N9,J9 B7,A9b A2j] [(14,⟨[.t 5 false [.int .i64],.b 1000 [.int .i64,.own 100000000,.int .i64,.bool,.own 100000001,.int .i64,.own 100000002,.int .i64,.own 100000003,.own 100000004,.int .i64,.int .i64,.own 100000005,.own 100000006],.r 100000000 5 (.int .u8),.r 100000001 5 (.int .u8),.r 100000002 150 C8,.r 100000003 150 C8,.r 100000004 113 O8,.r 100000005 75 B0P,.r 100000006 5 (.int .u8)],lt 28 7 (lt 6 14 [.b 6,.r 1001,.r 1004,.r 1006,.r 1008,.r 1009,.r 1012,.r 1013,.r 57347,.r 137217,.r 137220,.r 137222,.r 137224,.r 137225,.r 137228,.r 137229,.t 36]),false⟩)] f100 (A8a (A89 N9 B7 A2j)):=fun _=>by kernel_rfl
theorem C27:SQ (A8a A8A):=sF MO F4 (tc call103 B6b (tc call144 N0 (tc call152 C3B D9))) func100 C26
def A33(f:A1R):Nat×Fn:=(101,⟨[.val false (.rs 27 (.sl 5 (.int .u8))) false],[.val false (.sl 5 (.int .u8))],fun x=>f x.1⟩)
theorem B2l{A25:A21}:EF cfg [A7k A25] [(7,⟨[.t 3 false [.int .i64]],lt 9 12 [.t 5,.t 22],true⟩),(58,⟨[.t 3 false [.int .i64],.t 11 false [.int .i64]],lt 12 9 [.t 5,.t 22],false⟩),(250,⟨[.t 6 false [.own 100002000],.t 27 false [.int .i64],.r 100002000 5 (.int .u8)],lt 28 7 [.r 33,.r 102400,.t 8],false⟩)] f101 (A33 (A2w A25)):=fun _=>by kernel_rfl
theorem B2m:SQ (A33 A1S):=sF MO F4 (tc call153 B58 D9) func101 B2l
def B4A(f:A9u):Nat×Fn:=(154,⟨[.val false (.int .i64) false,.val false (.int .i64) false],[.val false (.sl 5 (.int .u8))],fun x=>f x.1 x.2.1⟩)
theorem C7d{A2q:A9B}:EF cfg [B6W A2q] [] f154 (B4A (B3u A2q)):=fun _=>by kernel_rfl
theorem C7e:SQ (B4A B3v):=sF MO F4 (tc call145 C6a D9) func154 C7d
def B2Q(f:A8B):Nat×Fn:=(102,⟨[.ptr A3j,.val false (.int .i64) false],[],fun x=>f x.1 x.2.1⟩)
theorem C6m{I3:U4}{B0D:A9u}:EF cfg [A4N I3,B4A B0D] [] f102 (B2Q (B28 I3 B0D)):=fun _=>by kernel_rfl
theorem C6n:SQ (B2Q A8C):=sF MO F4 (tc call69 A8J (tc call154 C7e D9)) func102 C6m
def A4P(f:A2Q):Nat×Fn:=(99,⟨[.ptr A3j,.val false (.rs 5 (.int .u8)) false],[.val false (.rs 5 (.int .u8)),.val false (.int .i64)],fun x=>f x.1 x.2.1⟩)
theorem B6l:EF cfg [] [(3,⟨[.t 1 false [.ro 5 (.int .u8)],.b 1000 [.int .i64,.own 1001,.int .i64,.bool,.own 1004,.int .i64,.own 1006,.int .i64,.own 1008,.own 1009,.int .i64,.int .i64,.own 1012,.own 1013],.r 1001 5 (.int .u8),.r 1004 5 (.int .u8),.r 1006 150 C8,.r 1008 150 C8,.r 1009 113 O8,.r 1012 75 B0P,.r 1013 5 (.int .u8)],lt 6 32 [],false⟩),(12,⟨[.t 1 false [.ro 5 (.int .u8)],.b 1000 [.int .i64,.own 1001,.int .i64,.bool,.own 1004,.int .i64,.own 1006,.int .i64,.own 1008,.own 1009,.int .i64,.int .i64,.own 1012,.own 1013],.r 1001 5 (.int .u8),.r 1004 5 (.int .u8),.r 1006 150 C8,.r 1008 150 C8,.r 1009 113 O8,.r 1012 75 B0P,.r 1013 5 (.int .u8)],lt 6 32 [],false⟩),(24,⟨[],lt 6 11 [],false⟩)] f99 (A4P A01):=fun _=>by kernel_rfl
theorem B6m:SQ (A4P S5):=sF MO F4 D9 func99 B6l
def B4B(f:A9v):Nat×Fn:=(33,⟨[.val true (.pair (.int .i64) (.pair (.rs 5 (.int .u8)) (.pair (.pair (.int .i64) (.pair .bool (.rs 5 (.int .u8)))) (.pair (.pair (.int .i64) (.rs 150 C8)) (.pair (.pair (.int .i64) (.rs 150 C8)) (.pair (.rs 113 O8) L3)))))) false,.val false (.rs 5 (.int .u8)) false],[.val true C5a,.val false (.sl 75 B0P),.val false (.sl 5 (.int .u8))],fun x=>f x.1 x.2.1⟩)
theorem C7f{A4Q:A9E}{A2U:A5n}{A2a:A2Q}{A5C:A5A}{A1T:A1R}{A8h:A8B}:EF cfg [B6c A4Q,B1W A2U,A4P A2a,A8a A5C,A33 A1T,B2Q A8h] [(7,⟨[],lt 13 8 [],false⟩),(31,⟨[.t 9 false [.int .i64],.b 7 [.int .i64,.own 100001000,.int .i64,.bool,.own 100001001,.int .i64,.own 100001002,.int .i64,.own 100001003,.own 100001004,.int .i64,.int .i64,.own 100001005,.own 100001006],.r 100001000 5 (.int .u8),.r 100001001 5 (.int .u8),.r 100001002 150 C8,.r 100001003 150 C8,.r 100001004 113 O8,.r 100001005 75 B0P,.r 100001006 5 (.int .u8)],lt 28 8 [.r 33,.r 108545,.r 108548,.r 108550,.r 108552,.r 108553,.r 108556,.r 108557,.r 143360,.r 149505,.r 149508,.r 149510,.r 149512,.r 149513,.r 149516,.r 149517],true⟩),(63,⟨[.b 7 [.int .i64,.own 100002007,.int .i64,.bool,.own 100002008,.int .i64,.own 100002009,.int .i64,.own 100002010,.own 100002011,.int .i64,.int .i64,.own 100002012,.own 100002013],.r 100002007 5 (.int .u8),.r 100002008 5 (.int .u8),.r 100002009 150 C8,.r 100002010 150 C8,.r 100002011 113 O8,.r 100002012 75 B0P,.r 100002013 5 (.int .u8)],lt 36 4 [.r 165889,.r 165892,.r 165894,.r 165896,.r 165897,.r 165900,.r 165901,.r 100001000,.r 100001001,.r 100001002,.r 100001003,.r 100001004,.r 100001005,.r 100001006],true⟩)] f33 (B4B (B3w A4Q A2U A2a A5C A1T A8h)):=fun _=>by kernel_rfl
theorem C7g:SQ (B4B A4t):=sF MO F4 (tc call43 C6c (tc call82 C1w (tc call99 B6m (tc call100 C27 (tc call101 B2m (tc call102 C6n D9)))))) func33 C7f
def B8i(f:B3C):Nat×Fn:=(34,⟨[],[.val true C5a],fun x=>f⟩)
theorem D2a:EF cfg [] [] f34 (B8i C3V):=fun _=>by kernel_rfl
theorem D2b:SQ (B8i B3D):=sF MO F4 D9 func34 D2a
def B8j(f:B3E):Nat×Fn:=(35,⟨[],[.val false (.sl 5 (.int .u8))],fun x=>f⟩)
theorem D2c{I3:U4}:EF cfg [A4N I3] [] f35 (B8j (B87 I3)):=fun _=>by kernel_rfl
theorem D2d:SQ (B8j B0R):=sF MO F4 (tc call69 A8J D9) func35 D2c
def B4C(f:A9w):Nat×Fn:=(36,⟨[.val false (.rs 5 (.int .u8)) false,.val false (.rs 5 (.int .u8)) false],[.val false .bool],fun x=>f x.1 x.2.1⟩)
theorem C7h:EF cfg [] [(58,⟨[.t 5 false [.int .i64]],lt 11 15 [],false⟩)] f36 (B4C B40):=fun _=>by kernel_rfl
theorem C7i:SQ (B4C A6q):=sF MO F4 D9 func36 C7h
def B2R(f:A8D):Nat×Fn:=(37,⟨[.val false (.rs 5 (.int .u8)) false],[.val false (.sl 82 W7),.val false (.int .i64),.val false (.int .i64)],fun x=>f x.1⟩)
theorem C6o{N9:A1g}:EF cfg [A8K N9] [(30,⟨[.t 5 false [.own 100000000],.t 6 false [.int .i64],.r 100000000 82 W7],lt 22 5 (lt 7 12 [.b 7,.r 24,.r 25,.r 57347]),false⟩)] f37 (B2R (B29 N9)):=fun _=>by kernel_rfl
theorem C6p:SQ (B2R A5Q):=sF MO F4 (tc call103 B6b D9) func37 C6o
def C0s(f:B6G):Nat×Fn:=(111,⟨[.val false .str false],[.val false (.int .i64),.val false .bool],fun x=>f x.1⟩)
theorem D4l{A2W:A5s}:EF cfg [B1d A2W] [] f111 (C0s (C0P A2W)):=fun _=>by kernel_rfl
theorem D4m:SQ (C0s A7P):=sF MO F4 (tc call164 C23 D9) func111 D4l
def A0E(f:Q7):Nat×Fn:=(112,⟨[.val false (.rs 150 C8) false,.val false (.rs 150 C8) false],[.val false .bool],fun x=>f x.1 x.2.1⟩)
theorem A6c:EF (cfg.withEq [(150,1002)]) [] [(58,⟨[.t 13 false [.int .i64]],lt 14 12 [.t 5],false⟩)] f112 (A0E A0D):=fun _=>by kernel_rfl
theorem A6d:SQ (A0E Q8):=sF MO (C2W (l:= [(150,1002)]) F4 ⟨E2j,trivial⟩) D9 func112 A6c
def C0t(f:B6H):Nat×Fn:=(40,⟨[.val false (.rs 150 C8) false],[.val true L3,.val false .bool],fun x=>f x.1⟩)
theorem D4n{C2:G9}{A19:A5L}{A1A:A3w}{B2V:B6G}{R0:Q7}:EF cfg [O1 C2,B2I A19,A8N A1A,C0s B2V,A0E R0] [(31,⟨[.b 4 [.int .i64,.int .i64]],lt 20 12 [],true⟩)] f40 (C0t (C0Q C2 A19 A1A B2V R0)):=fun _=>by kernel_rfl
theorem D4o:SQ (C0t B2A):=sF MO F4 (tc call61 Q6 (tc call84 C0i (tc call85 B8d (tc call111 D4m (tc call112 A6d D9))))) func40 D4n
def A7G(f:B1l):Nat×Fn:=(93,⟨[.val false (.rs 5 (.int .u8)) false],[.new (.pair (.rs 5 (.int .u8)) L3)],fun x=>f x.1⟩)
theorem C49:EF cfg [] [(7,⟨[.t 3 false [.int .i64]],lt 8 20 [.t 4],true⟩),(58,⟨[.t 3 false [.int .i64],.t 4 false [.int .i64]],lt 8 20 [],false⟩),(116,⟨[],lt 8 8 [],false⟩)] f93 (A7G C2b):=fun _=>by kernel_rfl
theorem B7D:SQ (A7G B4c):=sF MO F4 D9 func93 C49
def A7H(f:A7K):Nat×Fn:=(115,⟨[.ptr (.pair (.rs 5 (.int .u8)) L3)],[.val false (.int .i64)],fun x=>f x.1⟩)
theorem C4A:EF cfg [] [] f115 (A7H C0H):=fun _=>by kernel_rfl
theorem B7E:SQ (A7H A9G):=sF MO F4 D9 func115 C4A
def A1b(f:A1L):Nat×Fn:=(98,⟨[.ptr (.pair (.rs 5 (.int .u8)) L3),.val false (.int .i64) false],[.val false (.int .i64)],fun x=>f x.1 x.2.1⟩)
theorem C3C{A1B:A7K}:EF cfg [A7H A1B] [] f98 (A1b (B81 A1B)):=fun _=>by kernel_rfl
theorem A43:SQ (A1b A49):=sF MO F4 (tc call115 B7E D9) func98 C3C
def B2S(f:B9A):Nat×Fn:=(151,⟨[.ptr (.pair (.rs 5 (.int .u8)) L3),.val false (.rs 9 .str) false],[.val false .str],fun x=>f x.1 x.2.1⟩)
theorem C6q{L0:A1L}:EF cfg [A1b L0] [] f151 (B2S (C2d L0)):=fun _=>by kernel_rfl
theorem C6r:SQ (B2S B9B):=sF MO F4 (tc call98 A43 D9) func151 C6q
def A5W(f:A7f):Nat×Fn:=(97,⟨[.ptr (.pair (.rs 5 (.int .u8)) L3),.val false (.rs 3 (.int .i64)) false],[.val false (.int .i64)],fun x=>f x.1 x.2.1⟩)
theorem C6s{L0:A1L}:EF cfg [A1b L0] [] f97 (A5W (C2c L0)):=fun _=>by kernel_rfl
theorem B2T:SQ (A5W B1m):=sF MO F4 (tc call98 A43 D9) func97 C6s
def B14(f:B5t):Nat×Fn:=(114,⟨[.ptr (.pair (.rs 5 (.int .u8)) L3),.val false (.int .i64) false],[.val false .bool],fun x=>f x.1 x.2.1⟩)
theorem C4B{L0:A1L}:EF cfg [A1b L0] [] f114 (B14 (C0I L0)):=fun _=>by kernel_rfl
theorem C4C:SQ (B14 B5u):=sF MO F4 (tc call98 A43 D9) func114 C4B
def B15(f:B5v):Nat×Fn:=(94,⟨[.ptr (.pair (.rs 5 (.int .u8)) L3)],[.val true B0O],fun x=>f x.1⟩)
theorem C4D{A1d:A7f}{L0:A1L}{B6q:B5t}{B3N:B34}{B9J:B9A}:EF cfg [A5W A1d,A1b L0,B14 B6q,B8e B3N,B2S B9J] [] f94 (B15 (C0J A1d L0 B6q B3N B9J)):=fun _=>by kernel_rfl
theorem C4E:SQ (B15 B5w):=sF MO F4 (tc call97 B2T (tc call98 A43 (tc call114 C4C (tc call128 D2Q (tc call151 C6r D9))))) func94 C4D
def A9c(f:B36):Nat×Fn:=(95,⟨[.ptr (.pair (.rs 5 (.int .u8)) L3)],[.val true L3],fun x=>f x.1⟩)
theorem C3D{A1d:A7f}:EF cfg [A5W A1d] [] f95 (A9c (B83 A1d)):=fun _=>by kernel_rfl
theorem C3E:SQ (A9c B37):=sF MO F4 (tc call97 B2T D9) func95 C3D
def A8b(f:B38):Nat×Fn:=(31,⟨[.val false (.rs 5 (.int .u8)) false],[.val true B0O,.val true L3],fun x=>f x.1⟩)
theorem C28{A6H:B1l}{B6r:B5v}{B3O:B36}:EF cfg [A7G A6H,B15 B6r,A9c B3O] [] f31 (A8b (B84 A6H B6r B3O)):=fun _=>by kernel_rfl
theorem C29:SQ (A8b B0Q):=sF MO F4 (tc call93 B7D (tc call94 C4E (tc call95 C3E D9))) func31 C28
def A9d(f:A63):Nat×Fn:=(96,⟨[.ptr (.pair (.rs 5 (.int .u8)) L3),.val false (.int .i64) false],[.val false (.sl 5 (.int .u8))],fun x=>f x.1 x.2.1⟩)
theorem C3F{A1B:A7K}:EF cfg [A7H A1B] [(58,⟨[.t 5 false [.own 100000000],.t 6 false [.int .i64],.b 1000 [.ro 5 (.int .u8),.int .i64,.int .i64],.r 100000000 5 (.int .u8)],lt 8 11 [.r 7,.r 17,.r 18],false⟩)] f96 (A9d (A9M A1B)):=fun _=>by kernel_rfl
theorem C3G:SQ (A9d A64):=sF MO F4 (tc call115 B7E D9) func96 C3F
def A6e(f:A3l):Nat×Fn:=(32,⟨[.val false (.rs 5 (.int .u8)) false],[.val false (.sl 5 (.int .u8)),.val false (.int .i64)],fun x=>f x.1⟩)
theorem B9Q{A6H:B1l}{A6N:A63}{A1d:A7f}{L0:A1L}:EF cfg [A7G A6H,A9d A6N,A5W A1d,A1b L0] [] f32 (A6e (A6V A6H A6N A1d L0)):=fun _=>by kernel_rfl
theorem B9R:SQ (A6e A2K):=sF MO F4 (tc call93 B7D (tc call96 C3G (tc call97 B2T (tc call98 A43 D9)))) func32 B9Q
def D2e:Nat->Option Jn:=B17 [(255,⟨[],lt 60 39 [.x 65,.x 72,.x 80,.x 87],false⟩),(2047,⟨[],lt 112 19 [],false⟩)]
abbrev B0d:List PK:= [.val false (.rs 5 (.int .u8)) false]
abbrev C3q:List RK:= [.val false .bool]
def D2f(f:C3W):Nat×Fn:=(5,⟨B0d,C3q,fun x=>f x.1⟩)
def F_w_FnWhole:Fn:=(D2f B89).2
theorem D2g(B3R:B33)(A5a:A82)(C4g:C4W)(B3S:B38)(A3n:A3l)(B0E:A9v)(B3T:B3C)(B3U:B3E)(B0F:A9w)(A8i:A8D)(A8g:B4e)(A1m:A4s)(B70:B6H):∀ x,(D6r (cfg.withEq [(36,2010),(59,2)]) [B8b B3R,B2J A5a,D04 C4g,A8b B3S,A6e A3n,B4B B0E,B8i B3T,B8j B3U,B4C B0F,B2R A8i,C20 A8g,B08 A1m,C0t B70] D2e 177 [.tmp 2] (f5.body.getD .skip) B0d C3q).fn x=B88 B3R A5a C4g B3S A3n B0E B3T B3U B0F A8i A8g A1m B70 x.1:=by intro x;kernel_rfl
theorem D2h:A2I prog 5 F_w_FnWhole:=sm MO (C2W (l:= [(36,2010),(59,2)]) F4 ⟨E52,E53,trivial⟩) (tc call15 D2O (tc call26 C6g (tc call30 E2L (tc call31 C29 (tc call32 B9R (tc call33 C7g (tc call34 D2b (tc call35 D2d (tc call36 C7i (tc call37 C6p (tc call38 D2T (tc call39 B9q (tc call40 D4o D9))))))))))))) func5 (by kernel_rfl) (by decide) (D2g A7e A1q C4a B0Q A2K A4t B3D B0R A6q A5Q B4f A3T B2A)
end
end Go.Proofs.YthnfghmjipikhaaGreatDoor.Ev
