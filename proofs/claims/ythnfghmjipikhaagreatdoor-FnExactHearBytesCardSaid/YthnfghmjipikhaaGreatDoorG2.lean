/- Each function of the program does what its plain function says. -/
import Derived.Test.YthnfghmjipikhaaGreatDoorG1
set_option linter.unusedVariables false
set_option maxRecDepth 100000
namespace Go.Proofs.YthnfghmjipikhaaGreatDoor.Ev
open Tryz
noncomputable section
abbrev B5O:List PK:= [.ptr A2u,.val false (.int .i64) false,.val false (.int .i64) false]
abbrev B5P:List RK:= [.val false (.int .i64)]
def A8M(f:A1F):Nat×Fn:=(216,⟨B5O,B5P,fun x=>f x.1 x.2.1 x.2.2.1⟩)
def C6S:Fn:=(A8M A2i).2
theorem C6T(A0n:A42)(A2G:A27):∀ x,(E7i cfg [A9w A0n] ⟨241,(B01 A2G).2,9,6,5⟩ (B8H []) 40 [.tmp 6] (f216.body.getD .skip) B5O B5P).fn x=A8C A0n A2G x.1 x.2.1 x.2.2.1:=by intro x;kernel_rfl
theorem B5Q:A1e prog 216 C6S:=smA MO C5 (tc call240 C3R B9) C10 call241 func216 (by kernel_rfl) (by decide) (C6T A08 A0c)
def C6U(f:C00):Nat×Fn:=(238,⟨[.val false .bool false],[.val false (.int .i64)],fun x=>f x.1⟩)
theorem E2O:EF cfg [] [] f238 (C6U D25):=fun _=>by kernel_rfl
theorem E2P:SQ (C6U C01):=sF MO C5 B9 func238 E2O
def B32(f:A7m):Nat×Fn:=(136,⟨[.val false (.int .i64) false],[.val false .str,.val false (.int .i64)],fun x=>f x.1⟩)
theorem D0e:EF cfg [] [] f136 (B32 B2o):=fun _=>by kernel_rfl
theorem D0f:SQ (B32 A7n):=sF MO C5 B9 func136 D0e
def D3c(f:C7R):Nat×Fn:=(137,⟨[.val false .str false],[.val false .bool],fun x=>f x.1⟩)
theorem E8v{D3:J3}:EF cfg [V5 D3] [(3,⟨[],lt 3 30 [],false⟩),(26,⟨[.t 3 false [.int .i64]],lt 4 29 [],false⟩)] f137 (D3c (D26 D3)):=fun _=>by kernel_rfl
theorem E8w:SQ (D3c C7S):=sF MO C5 (tc call61 A0O B9) func137 E8v
def C11(f:B3j):Nat×Fn:=(164,⟨[.val false .str false,.val false (.int .i64) false],[.val false (.int .i64),.val false .bool],fun x=>f x.1 x.2.1⟩)
theorem D7i{D3:J3}{B0G:A96}:EF cfg [V5 D3,C3D B0G] [(15,⟨[.t 6 false [.int .i64]],lt 12 24 [.t 7],false⟩),(122,⟨[.t 6 false [.int .i64],.t 7 false [.int .i64]],lt 12 24 [],false⟩),(1956,⟨[],lt 18 10 [],false⟩)] f164 (C11 (C03 D3 B0G)):=fun _=>by kernel_rfl
theorem D7j:SQ (C11 B3k):=sF MO C5 (tc call61 A0O (tc call142 D3G B9)) func164 D7i
def B6k(f:A4G):Nat×Fn:=(258,⟨[.val false (.rs 150 B8) false,.val false .str false],[.val false .str,.val false (.int .i64)],fun x=>f x.1 x.2.1⟩)
theorem E05:EF cfg [] [(7,⟨[.t 6 false [.str],.t 7 false [.int .i64]],lt 9 18 [.b 9],true⟩),(58,⟨[.t 6 false [.str],.t 7 false [.int .i64],.t 12 false [.int .i64]],lt 13 14 [.b 9,.t 9],false⟩)] f258 (B6k C2g):=fun _=>by kernel_rfl
theorem D0M:SQ (B6k T4):=sF MO C5 B9 func258 E05
def C6V(f:B52):Nat×Fn:=(285,⟨[.val false .str false],[.val false .bool],fun x=>f x.1⟩)
theorem E2Q:EF cfg [] [(3,⟨[],lt 3 17 [],false⟩),(26,⟨[.t 3 false [.int .i64]],lt 4 16 [],false⟩)] f285 (C6V C5q):=fun _=>by kernel_rfl
theorem E2R:SQ (C6V A8D):=sF MO C5 B9 func285 E2Q
def A1v(f:A0D):Nat×Fn:=(306,⟨[.val false (.rs 9 .str) false,.val false .str false],[.val false (.int .i64)],fun x=>f x.1 x.2.1⟩)
theorem B33:EF cfg [] [(26,⟨[.t 8 false [.int .i64]],lt 9 8 [.t 5,.t 18],false⟩)] f306 (A1v A1p):=fun _=>by kernel_rfl
theorem B34:SQ (A1v A1q):=sF MO C5 B9 func306 B33
def A17(f:P5):Nat×Fn:=(286,⟨[.val false (.rs 9 .str) false,.val false .str false],[.val false .bool],fun x=>f x.1 x.2.1⟩)
theorem B0R{A0F:A0D}:EF cfg [A1v A0F] [] f286 (A17 (A14 A0F)):=fun _=>by kernel_rfl
theorem B0S:SQ (A17 K9):=sF MO C5 (tc call306 B34 B9) func286 B0R
def C6W(f:C05):Nat×Fn:=(257,⟨[.val false (.rs 150 B8) false],[.val false .bool],fun x=>f x.1⟩)
theorem E2S{T6:A4G}{B1D:B52}{M7:P5}:EF (cfg.withAr [(292,3,9)]) [B6k T6,C6V B1D,A17 M7] [(7,⟨[],lt 13 35 (lt 5 4 [.b 5,.r 27,.t 3]),false⟩),(58,⟨[.t 3 false [.bool],.t 15 false [.int .i64]],lt 16 32 (lt 5 4 [.b 5,.r 27]),false⟩),(122,⟨[.t 49 false [.int .i64]],lt 50 11 (lt 10 3 []),false⟩)] f257 (C6W (C5r T6 B1D M7)):=fun _=>by kernel_rfl
theorem E2T:SQ (C6W C06):=sF MO (B4Q (l:= [(292,3,9)]) C5 ⟨tA t292 ⟨false,.str,16,[]⟩ underlying292,trivial⟩) (tc call258 D0M (tc call285 E2R (tc call286 B0S B9))) func257 E2S
def C12(f:A9Q):Nat×Fn:=(141,⟨[.val false (.int .i64) false],[.val false .str],fun x=>f x.1⟩)
theorem D7k:EF (cfg.withAr [(211,6,9)]) [] [] f141 (C12 C7T):=fun _=>by kernel_rfl
theorem D7l:SQ (C12 A28):=sF MO (B4Q (l:= [(211,6,9)]) C5 ⟨tA t211 ⟨false,.str,16,[]⟩ underlying211,trivial⟩) B9 func141 D7k
def D3d(f:C7U):Nat×Fn:=(259,⟨[.val false .str false],[.val false (.int .i64)],fun x=>f x.1⟩)
theorem E90{A6u:A9Q}:EF cfg [C12 A6u] [(26,⟨[.t 3 false [.int .i64]],lt 4 8 [],false⟩)] f259 (D3d (D27 A6u)):=fun _=>by kernel_rfl
theorem E91:SQ (D3d C7V):=sF MO C5 (tc call141 D7l B9) func259 E90
def A0j(f:U3):Nat×Fn:=(307,⟨[.val false .str false,.val false .str false],[.val false .bool],fun x=>f x.1 x.2.1⟩)
theorem B02:EF cfg [] [] f307 (A0j A0d):=fun _=>by kernel_rfl
theorem B03:SQ (A0j A0e):=sF MO C5 B9 func307 B02
def A0k(f:U4):Nat×Fn:=(287,⟨[.val false .str false,.val false .str false],[.val false .str,.val false .bool],fun x=>f x.1 x.2.1⟩)
theorem B04{U6:U3}:EF cfg [A0j U6] [] f287 (A0k (A0f U6)):=fun _=>by kernel_rfl
theorem B05:SQ (A0k A0g):=sF MO C5 (tc call307 B03 B9) func287 B04
def A7F(f:A3m):Nat×Fn:=(260,⟨[.val false .str false,.val false .str false],[.val false .str,.val false .bool],fun x=>f x.1 x.2.1⟩)
theorem C4g{U7:U4}:EF cfg [A0k U7] [] f260 (A7F (A7A U7)):=fun _=>by kernel_rfl
theorem C4h:SQ (A7F A20):=sF MO C5 (tc call287 B05 B9) func260 C4g
def C9S(f:C4G):Nat×Fn:=(239,⟨[.val false (.rs 150 B8) false],[.val true B4i,.val false (.int .i64)],fun x=>f x.1⟩)
theorem E64{A83:A7m}{C8O:C7R}{B4H:B3j}{C1O:C05}{T6:A4G}{C8P:C7U}{A3s:A3m}:EF cfg [B32 A83,D3c C8O,C11 B4H,C6W C1O,B6k T6,D3d C8P,A7F A3s] [(255,⟨[],lt 42 7 [],false⟩)] f239 (C9S (C8t A83 C8O B4H C1O T6 C8P A3s)):=fun _=>by kernel_rfl
theorem E65:SQ (C9S C4H):=sF MO C5 (tc call136 D0f (tc call137 E8w (tc call164 D7j (tc call257 E2T (tc call258 D0M (tc call259 E91 (tc call260 C4h B9))))))) func239 E64
def B16(f:A6O):Nat×Fn:=(214,⟨[.ptr A2u,.val false (.int .i64) false,.val false .bool false,.val false (.rs 5 (.int .u8)) false],[.val false (.int .i64)],fun x=>f x.1 x.2.1 x.2.2.1 x.2.2.2.1⟩)
theorem C9T{B25:B1U}{U8:A3G}{P0:A1F}{B5W:C00}{C4U:C4G}{A0n:A42}{A6v:A6K}:EF cfg [B7p B25,A9u U8,A8M P0,C6U B5W,C9S C4U,A9w A0n,B15 A6v] [(63,⟨[],lt 51 21 [.t 44,.t 45],false⟩),(1011,⟨[.t 51 false [.bool]],lt 52 12 [],true⟩)] f214 (B16 (B0l B25 U8 P0 B5W C4U A0n A6v)):=fun _=>by kernel_rfl
theorem C9U:SQ (B16 A6P):=sF MO C5 (tc call39 D4T (tc call83 C0r (tc call216 B5Q (tc call238 E2P (tc call239 E65 (tc call240 C3R (tc call241 C9R B9))))))) func214 C9T
def B35(f:A7o):Nat×Fn:=(186,⟨[.ptr A2u,.val true (.pair (.int .i64) (.pair (.int .i64) (.pair (.int .i64) (.rs 5 (.int .u8))))) false],[.val false (.int .i64)],fun x=>f x.1 x.2.1⟩)
theorem D0g{C8Q:C7N}{H6:Q7}{A6w:A6O}:EF cfg [D3S C8Q,A2T H6,B16 A6w] [(7,⟨[.t 5 false [.int .i64],.t 6 false [.bool]],lt 22 6 [],true⟩),(506,⟨[.t 45 false [.bool]],[.t 46,.t 47],true⟩)] f186 (B35 (B2p C8Q H6 A6w)):=fun _=>by kernel_rfl
theorem D0h:SQ (B35 A7p):=sF MO C5 (tc call38 E8s (tc call109 A57 (tc call214 C9U B9))) func186 D0g
def C13(f:B0m):Nat×Fn:=(145,⟨[.val false (.sl 5 (.int .u8)) false,.val false (.int .i64) false,.val false (.int .i64) false],[.val false (.sl 5 (.int .u8))],fun x=>f x.1 x.2.1 x.2.2.1⟩)
theorem E2U:EF cfg [] [(58,⟨[.t 0 false [.own 100000000],.t 7 false [.int .i64],.r 100000000 5 (.int .u8)],lt 12 13 [.r 23,.r 24,.r 1000],false⟩)] f145 (C13 C5s):=fun _=>by kernel_rfl
theorem D3e:SQ (C13 B53):=sF MO C5 B9 func145 E2U
def B43(f:A6Q):Nat×Fn:=(69,⟨[.val false (.sl 5 (.int .u8)) false,.val true (.pair (.int .i64) (.pair (.int .i64) (.pair (.int .i64) (.rs 5 (.int .u8))))) false],[.val false (.sl 5 (.int .u8))],fun x=>f x.1 x.2.1⟩)
theorem D7m{A2m:B0m}:EF cfg [C13 A2m] [] f69 (B43 (C08 A2m)):=fun _=>by kernel_rfl
theorem C87:SQ (B43 A9R):=sF MO C5 (tc call145 D3e B9) func69 D7m
def B06(f:A5K):Nat×Fn:=(187,⟨[.ptr A2u,.val true (.pair (.int .i64) (.pair (.int .i64) (.pair (.int .i64) (.rs 5 (.int .u8))))) false,.val false (.rs 5 (.int .u8)) false],[],fun x=>f x.1 x.2.1 x.2.2.1⟩)
theorem C88{A2H:A6Q}{H6:Q7}:EF cfg [B43 A2H,A2T H6] [] f187 (B06 (A9S A2H H6)):=fun _=>by kernel_rfl
theorem C89:SQ (B06 A5L):=sF MO C5 (tc call69 C87 (tc call109 A57 B9)) func187 C88
def C14(f:B3l):Nat×Fn:=(188,⟨[.val false (.rs 5 (.int .u8)) false],[.val false (.int .i64),.val false .bool],fun x=>f x.1⟩)
theorem D7n{A3i:B0h}:EF cfg [C0p A3i] [] f188 (C14 (C09 A3i)):=fun _=>by kernel_rfl
theorem D7o:SQ (C14 B3m):=sF MO C5 (tc call155 D3Q B9) func188 D7n
def A4W(f:A1G):Nat×Fn:=(215,⟨[.ptr A2u,.val true (.pair (.int .i64) (.pair (.int .i64) (.pair (.int .i64) (.rs 5 (.int .u8))))) false],[.val false (.int .i64)],fun x=>f x.1 x.2.1⟩)
theorem C6a:EF cfg [] [] f215 (A4W A8E):=fun _=>by kernel_rfl
theorem B5R:SQ (A4W A2j):=sF MO C5 B9 func215 C6a
def B36(f:A7q):Nat×Fn:=(189,⟨[.ptr A2u,.val true (.pair (.int .i64) (.pair (.int .i64) (.pair (.int .i64) (.rs 5 (.int .u8))))) false],[.val false (.int .i64)],fun x=>f x.1 x.2.1⟩)
theorem D0i{U8:A3G}{A6s:B4T}{H6:Q7}{R6:A1G}{P0:A1F}:EF cfg [A9u U8,C4Q A6s,A2T H6,A4W R6,A8M P0] [] f189 (B36 (B2q U8 A6s H6 R6 P0)):=fun _=>by kernel_rfl
theorem D0j:SQ (B36 A7r):=sF MO C5 (tc call83 C0r (tc call108 D5q (tc call109 A57 (tc call215 B5R (tc call216 B5Q B9))))) func189 D0i
def B17(f:A6R):Nat×Fn:=(190,⟨[.ptr A2u,.val true (.pair (.int .i64) (.pair (.int .i64) (.pair (.int .i64) (.rs 5 (.int .u8))))) false],[.val false (.int .i64)],fun x=>f x.1 x.2.1⟩)
theorem C9V{U8:A3G}{T0:S8}{R6:A1G}:EF cfg [A9u U8,A30 T0,A4W R6] [] f190 (B17 (B0n U8 T0 R6)):=fun _=>by kernel_rfl
theorem C9W:SQ (B17 A6S):=sF MO C5 (tc call83 C0r (tc call86 A8w (tc call215 B5R B9))) func190 C9V
def B18(f:A43):Nat×Fn:=(152,⟨[.ptr A2u,.val true (.pair (.int .i64) (.pair (.int .i64) (.pair (.int .i64) (.rs 5 (.int .u8))))) false],[.val false (.int .i64)],fun x=>f x.1 x.2.1⟩)
theorem C9a{A1M:A4v}{A4o:A7o}{A3M:A5K}{B4I:B3l}{A84:A7q}{A70:A6R}:EF cfg [B1u A1M,B35 A4o,B06 A3M,C14 B4I,B36 A84,B17 A70] [(122,⟨[.t 25 false [.bool]],[.t 26,.t 27],true⟩)] f152 (B18 (B0o A1M A4o A3M B4I A84 A70)):=fun _=>by kernel_rfl
theorem C9b:SQ (B18 A2a):=sF MO C5 (tc call105 C5G (tc call186 D0h (tc call187 C89 (tc call188 D7o (tc call189 D0j (tc call190 C9W B9)))))) func152 C9a
def B07(f:A5M):Nat×Fn:=(100,⟨[.ptr A2u,.val false (.rs 5 (.int .u8)) false],[.val false (.int .i64)],fun x=>f x.1 x.2.1⟩)
theorem C8A{A0l:A4M}{C2:G0}{A2d:A43}:EF cfg [B3v A0l,L8 C2,B18 A2d] [(14,⟨[.t 5 false [.int .i64],.b 1000 [.int .i64,.own 100000000,.int .i64,.bool,.own 100000001,.int .i64,.own 100000002,.int .i64,.own 100000003,.own 100000004,.int .i64,.int .i64,.own 100000005,.own 100000006],.r 100000000 5 (.int .u8),.r 100000001 5 (.int .u8),.r 100000002 150 B8,.r 100000003 150 B8,.r 100000004 113 E6,.r 100000005 75 M6,.r 100000006 5 (.int .u8)],lt 28 7 (lt 6 14 [.b 6,.r 1001,.r 1004,.r 1006,.r 1008,.r 1009,.r 1012,.r 1013,.r 57347,.r 137217,.r 137220,.r 137222,.r 137224,.r 137225,.r 137228,.r 137229,.t 36]),false⟩)] f100 (B07 (A9T A0l C2 A2d)):=fun _=>by kernel_rfl
theorem C8B:SQ (B07 A9U):=sF MO C5 (tc call103 C83 (tc call144 O9 (tc call152 C9b B9))) func100 C8A
def A36(f:A18):Nat×Fn:=(101,⟨[.val false (.rs 27 (.sl 5 (.int .u8))) false],[.val false (.sl 5 (.int .u8))],fun x=>f x.1⟩)
theorem B5p{A1h:A1f}:EF cfg [A8l A1h] [(7,⟨[.t 3 false [.int .i64]],lt 9 12 [.t 5,.t 22],true⟩),(58,⟨[.t 3 false [.int .i64],.t 11 false [.int .i64]],lt 12 9 [.t 5,.t 22],false⟩),(250,⟨[.t 6 false [.own 100002000],.t 27 false [.int .i64],.r 100002000 5 (.int .u8)],lt 28 7 [.r 33,.r 102400,.t 8],false⟩)] f101 (A36 (A33 A1h)):=fun _=>by kernel_rfl
theorem B5q:SQ (A36 A19):=sF MO C5 (tc call153 B8f B9) func101 B5p
def B7q(f:B1W):Nat×Fn:=(154,⟨[.val false (.int .i64) false,.val false (.int .i64) false],[.val false (.sl 5 (.int .u8))],fun x=>f x.1 x.2.1⟩)
theorem D4U{A2m:B0m}:EF cfg [C13 A2m] [] f154 (B7q (B7S A2m)):=fun _=>by kernel_rfl
theorem D4V:SQ (B7q B7T):=sF MO C5 (tc call145 D3e B9) func154 D4U
def B5S(f:A9V):Nat×Fn:=(102,⟨[.ptr A2u,.val false (.int .i64) false],[],fun x=>f x.1 x.2.1⟩)
theorem D3f{A2H:A6Q}{B26:B1W}:EF cfg [B43 A2H,B7q B26] [] f102 (B5S (B54 A2H B26)):=fun _=>by kernel_rfl
theorem D3g:SQ (B5S A9W):=sF MO C5 (tc call69 C87 (tc call154 D4V B9)) func102 D3f
def A4a(f:A29):Nat×Fn:=(99,⟨[.ptr A2u,.val false (.rs 5 (.int .u8)) false],[.val false (.rs 5 (.int .u8)),.val false (.int .i64)],fun x=>f x.1 x.2.1⟩)
theorem C15:EF cfg [] [(3,⟨[.t 1 false [.ro 5 (.int .u8)],.b 1000 [.int .i64,.own 1001,.int .i64,.bool,.own 1004,.int .i64,.own 1006,.int .i64,.own 1008,.own 1009,.int .i64,.int .i64,.own 1012,.own 1013],.r 1001 5 (.int .u8),.r 1004 5 (.int .u8),.r 1006 150 B8,.r 1008 150 B8,.r 1009 113 E6,.r 1012 75 M6,.r 1013 5 (.int .u8)],lt 6 32 [],false⟩),(12,⟨[.t 1 false [.ro 5 (.int .u8)],.b 1000 [.int .i64,.own 1001,.int .i64,.bool,.own 1004,.int .i64,.own 1006,.int .i64,.own 1008,.own 1009,.int .i64,.int .i64,.own 1012,.own 1013],.r 1001 5 (.int .u8),.r 1004 5 (.int .u8),.r 1006 150 B8,.r 1008 150 B8,.r 1009 113 E6,.r 1012 75 M6,.r 1013 5 (.int .u8)],lt 6 32 [],false⟩),(24,⟨[],lt 6 11 [],false⟩)] f99 (A4a W6):=fun _=>by kernel_rfl
theorem C16:SQ (A4a R4):=sF MO C5 B9 func99 C15
def B7r(f:B1a):Nat×Fn:=(33,⟨[.val true (.pair (.int .i64) (.pair (.rs 5 (.int .u8)) (.pair (.pair (.int .i64) (.pair .bool (.rs 5 (.int .u8)))) (.pair (.pair (.int .i64) (.rs 150 B8)) (.pair (.pair (.int .i64) (.rs 150 B8)) (.pair (.rs 113 E6) M8)))))) false,.val false (.rs 5 (.int .u8)) false],[.val true B8J,.val false (.sl 75 M6),.val false (.sl 5 (.int .u8))],fun x=>f x.1 x.2.1⟩)
theorem D4W{C1P:B9j}{B4J:B3c}{A2I:A29}{A5a:A5M}{A1B:A18}{B0H:A9V}:EF cfg [C6O C1P,C0q B4J,A4a A2I,B07 A5a,A36 A1B,B5S B0H] [(7,⟨[],lt 13 8 [],false⟩),(31,⟨[.t 9 false [.int .i64],.b 7 [.int .i64,.own 100001000,.int .i64,.bool,.own 100001001,.int .i64,.own 100001002,.int .i64,.own 100001003,.own 100001004,.int .i64,.int .i64,.own 100001005,.own 100001006],.r 100001000 5 (.int .u8),.r 100001001 5 (.int .u8),.r 100001002 150 B8,.r 100001003 150 B8,.r 100001004 113 E6,.r 100001005 75 M6,.r 100001006 5 (.int .u8)],lt 28 8 [.r 33,.r 108545,.r 108548,.r 108550,.r 108552,.r 108553,.r 108556,.r 108557,.r 143360,.r 149505,.r 149508,.r 149510,.r 149512,.r 149513,.r 149516,.r 149517],true⟩),(63,⟨[.b 7 [.int .i64,.own 100002007,.int .i64,.bool,.own 100002008,.int .i64,.own 100002009,.int .i64,.own 100002010,.own 100002011,.int .i64,.int .i64,.own 100002012,.own 100002013],.r 100002007 5 (.int .u8),.r 100002008 5 (.int .u8),.r 100002009 150 B8,.r 100002010 150 B8,.r 100002011 113 E6,.r 100002012 75 M6,.r 100002013 5 (.int .u8)],lt 36 4 [.r 165889,.r 165892,.r 165894,.r 165896,.r 165897,.r 165900,.r 165901,.r 100001000,.r 100001001,.r 100001002,.r 100001003,.r 100001004,.r 100001005,.r 100001006],true⟩)] f33 (B7r (B1b C1P B4J A2I A5a A1B B0H)):=fun _=>by kernel_rfl
theorem D4a:SQ (B7r A2Q):=sF MO C5 (tc call43 E2B (tc call82 D7c (tc call99 C16 (tc call100 C8B (tc call101 B5q (tc call102 D3g B9)))))) func33 D4W
def A1V(f:L1):Nat×Fn:=(53,⟨[.val false (.int .i64) false,.val false (.int .i64) false,.val false (.int .i64) false],[.val false .bool],fun x=>f x.1 x.2.1 x.2.2.1⟩)
theorem E92:EF cfg [] [] f53 (A1V D28):=fun _=>by kernel_rfl
theorem A2l:SQ (A1V P6):=sF MO C5 B9 func53 E92
def D3h(f:C2h):Nat×Fn:=(173,⟨[.val true B8 false],[.val false (.int .i64)],fun x=>f x.1⟩)
theorem E93:EF cfg [] [] f173 (D3h C7W):=fun _=>by kernel_rfl
theorem E94:SQ (D3h B55):=sF MO C5 B9 func173 E93
def C17(f:A8F):Nat×Fn:=(126,⟨[.val true (.pair (.int .i64) (.rs 150 B8)) false],[.val false (.int .i64)],fun x=>f x.1⟩)
theorem E2V{B8k:C2h}:EF cfg [D3h B8k] [(58,⟨[.t 3 false [.int .i64],.t 4 false [.int .i64]],lt 5 15 [],false⟩)] f126 (C17 (C5t B8k)):=fun _=>by kernel_rfl
theorem D3i:SQ (C17 A8G):=sF MO C5 (tc call173 E94 B9) func126 E2V
def B2d(f:A4H):Nat×Fn:=(51,⟨[.val true (.pair (.int .i64) (.rs 150 B8)) false],[.val false .bool],fun x=>f x.1⟩)
theorem E06{E4:L1}{A2n:A8F}:EF cfg [A1V E4,C17 A2n] [] f51 (B2d (B6H E4 A2n)):=fun _=>by kernel_rfl
theorem C3S:SQ (B2d A2R):=sF MO C5 (tc call53 A2l (tc call126 D3i B9)) func51 E06
def B44(f:A6U):Nat×Fn:=(120,⟨[.val true (.pair (.int .i64) (.pair .bool (.rs 5 (.int .u8)))) false],[.val false .bool],fun x=>f x.1⟩)
theorem D7p{E4:L1}:EF cfg [A1V E4] [] f120 (B44 (A9a E4)):=fun _=>by kernel_rfl
theorem C8C:SQ (B44 A2A):=sF MO C5 (tc call53 A2l B9) func120 D7p
def C3T(f:B6I):Nat×Fn:=(121,⟨[.val true (.pair (.int .i64) (.pair (.rs 5 (.int .u8)) (.pair (.pair (.int .i64) (.pair .bool (.rs 5 (.int .u8)))) (.pair (.pair (.int .i64) (.rs 150 B8)) (.pair (.pair (.int .i64) (.rs 150 B8)) (.pair (.rs 113 E6) M8)))))) false],[.val false .bool],fun x=>f x.1⟩)
theorem E07{E4:L1}:EF cfg [A1V E4] [(3,⟨[],lt 3 58 [.b 4],false⟩),(26,⟨[.t 3 false [.int .i64]],lt 4 57 [.b 4],false⟩)] f121 (C3T (C2i E4)):=fun _=>by kernel_rfl
theorem E08:SQ (C3T B6J):=sF MO C5 (tc call53 A2l B9) func121 E07
def C18(f:B0p):Nat×Fn:=(171,⟨[.val false (.rs 5 (.int .u8)) false,.val false (.int .i64) false,.val false (.int .i64) false],[.val false (.int .i64),.val false .bool],fun x=>f x.1 x.2.1 x.2.2.1⟩)
theorem E2W{E4:L1}:EF cfg [A1V E4] [(3,⟨[],lt 10 15 [],false⟩),(15,⟨[.t 8 false [.int .i64]],lt 25 15 [.t 9],true⟩),(122,⟨[.t 8 false [.int .i64],.t 9 false [.int .i64]],lt 25 15 [],false⟩)] f171 (C18 (C5u E4)):=fun _=>by kernel_rfl
theorem D3j:SQ (C18 B0q):=sF MO C5 (tc call53 A2l B9) func171 E2W
def B45(f:A6V):Nat×Fn:=(122,⟨[.val false (.rs 5 (.int .u8)) false,.val false (.int .i64) false],[.val true D6R,.val false (.int .i64),.val false (.int .i64)],fun x=>f x.1 x.2.1⟩)
theorem D7q{A3j:B0p}:EF cfg [C18 A3j] [(15,⟨[],lt 39 8 (lt 34 3 (lt 25 7 [])),false⟩),(60,⟨[.t 25 false [.bool]],lt 26 6 [],true⟩)] f122 (B45 (C0A A3j)):=fun _=>by kernel_rfl
theorem C8D:SQ (B45 A6W):=sF MO C5 (tc call171 D3j B9) func122 D7q
def C6b(f:C0B):Nat×Fn:=(46,⟨[.val true (.pair (.int .i64) (.pair (.rs 5 (.int .u8)) (.pair (.pair (.int .i64) (.pair .bool (.rs 5 (.int .u8)))) (.pair (.pair (.int .i64) (.rs 150 B8)) (.pair (.pair (.int .i64) (.rs 150 B8)) (.pair (.rs 113 E6) M8)))))) false],[.val false .bool],fun x=>f x.1⟩)
theorem E2a{V7:A4H}{E4:L1}{A2J:A6U}{B6s:B6I}{A2K:A6V}:EF cfg [B2d V7,A1V E4,B44 A2J,C3T B6s,B45 A2K] [(3,⟨[],lt 6 45 [],false⟩),(15,⟨[],lt 58 13 [],false⟩)] f46 (C6b (C0C V7 E4 A2J B6s A2K)):=fun _=>by kernel_rfl
theorem E2b:SQ (C6b A3b):=sF MO C5 (tc call51 C3S (tc call53 A2l (tc call120 C8C (tc call121 E08 (tc call122 C8D B9))))) func46 E2a
def B5T(f:A4Q):Nat×Fn:=(54,⟨[.val true (.pair (.int .i64) (.rs 150 B8)) false],[.val true A07],fun x=>f x.1⟩)
theorem E2c:EF cfg [] [] f54 (B5T C5v):=fun _=>by kernel_rfl
theorem C6c:SQ (B5T A8H):=sF MO C5 B9 func54 E2c
def C19(f:B0r):Nat×Fn:=(148,⟨[.val true (.pair (.int .i64) (.pair .bool (.rs 5 (.int .u8)))) false],[.val true A03],fun x=>f x.1⟩)
theorem E2d:EF cfg [] [] f148 (C19 C5w):=fun _=>by kernel_rfl
theorem D3k:SQ (C19 B56):=sF MO C5 B9 func148 E2d
def C3U(f:B6K):Nat×Fn:=(76,⟨[.val true (.pair (.int .i64) (.pair (.rs 5 (.int .u8)) (.pair (.pair (.int .i64) (.pair .bool (.rs 5 (.int .u8)))) (.pair (.pair (.int .i64) (.rs 150 B8)) (.pair (.pair (.int .i64) (.rs 150 B8)) (.pair (.rs 113 E6) M8)))))) false],[.val true B8J],fun x=>f x.1⟩)
theorem E09{R7:A4Q}{A1w:B0r}:EF cfg [B5T R7,C19 A1w] [(2042,⟨[.t 4 false [.int .i64],.b 3 [.int .i64,.own 10,.int .i64,.bool,.own 61442,.int .i64,.own 77825,.int .i64,.own 94209,.own 100000000,.int .i64,.int .i64],.r 10 5 (.int .u8),.r 61442 5 (.int .u8),.r 77825 150 B8,.r 94209 150 B8,.r 100000000 113 E6],lt 26 23 [.b 5,.r 24,.r 38,.r 41,.r 46,.r 47,.t 5],false⟩)] f76 (C3U (C2j R7 A1w)):=fun _=>by kernel_rfl
theorem E0A:SQ (C3U B6L):=sF MO C5 (tc call54 C6c (tc call148 D3k B9)) func76 E09
def B6l(f:A8b):Nat×Fn:=(133,⟨[.val true (.pair (.int .i64) (.pair (.int .i64) (.pair (.int .i64) (.rs 5 (.int .u8))))) false],[.val false .bool],fun x=>f x.1⟩)
theorem E0B{E4:L1}:EF cfg [A1V E4] [] f133 (B6l (C2k E4)):=fun _=>by kernel_rfl
theorem D0N:SQ (B6l A8c):=sF MO C5 (tc call53 A2l B9) func133 E0B
def C1A(f:B0s):Nat×Fn:=(134,⟨[.val false (.rs 5 (.int .u8)) false,.val false (.int .i64) false,.val false (.int .i64) false],[.val false (.sl 5 (.int .u8))],fun x=>f x.1 x.2.1 x.2.2.1⟩)
theorem E2e{E4:L1}:EF cfg [A1V E4] [(7,⟨[.t 1 false [.int .i64]],[.t 12,.t 13],true⟩),(250,⟨[.t 7 false [.own 100001000],.t 8 false [.int .i64],.r 100001000 5 (.int .u8)],lt 20 13 [.r 11,.r 31,.r 32],false⟩)] f134 (C1A (C60 E4)):=fun _=>by kernel_rfl
theorem D3l:SQ (C1A B57):=sF MO C5 (tc call53 A2l B9) func134 E2e
def C1B(f:B3n):Nat×Fn:=(59,⟨[.val true (.pair (.int .i64) (.pair (.int .i64) (.pair (.int .i64) (.rs 5 (.int .u8))))) false],[.val false (.sl 5 (.int .u8))],fun x=>f x.1⟩)
theorem D7r{A3N:A8b}{A2o:B0s}:EF cfg [B6l A3N,C1A A2o] [] f59 (C1B (C0D A3N A2o)):=fun _=>by kernel_rfl
theorem D7s:SQ (C1B B3o):=sF MO C5 (tc call133 D0N (tc call134 D3l B9)) func59 D7r
def B7s(f:B1e):Nat×Fn:=(200,⟨[.val false (.int .i64) false,.val false (.int .i64) false],[.val false (.sl 5 (.int .u8))],fun x=>f x.1 x.2.1⟩)
theorem D4b{A2o:B0s}:EF cfg [C1A A2o] [] f200 (B7s (B7U A2o)):=fun _=>by kernel_rfl
theorem D4c:SQ (B7s B7V):=sF MO C5 (tc call134 D3l B9) func200 D4b
def C6d(f:C0E):Nat×Fn:=(221,⟨[.val true (.pair (.int .i64) (.pair (.int .i64) (.pair (.int .i64) (.rs 5 (.int .u8))))) false],[.val false .bool],fun x=>f x.1⟩)
theorem E2f:EF cfg [] [(235,⟨[.t 13 false [.bool]],[.t 14,.t 15],true⟩)] f221 (C6d C61):=fun _=>by kernel_rfl
theorem E2g:SQ (C6d C0F):=sF MO C5 B9 func221 E2f
def B1w(f:A52):Nat×Fn:=(201,⟨[.val true (.pair (.int .i64) (.pair (.int .i64) (.pair (.int .i64) (.rs 5 (.int .u8))))) false],[.val false (.int .i64)],fun x=>f x.1⟩)
theorem D4d{A3N:A8b}{C1Q:C0E}:EF cfg [B6l A3N,C6d C1Q] [(3,⟨[],lt 3 8 [],false⟩),(58,⟨[.t 13 false [.bool]],lt 14 6 [],true⟩)] f201 (B1w (B7W A3N C1Q)):=fun _=>by kernel_rfl
theorem C5I:SQ (B1w A7Q):=sF MO C5 (tc call133 D0N (tc call221 E2g B9)) func201 D4d
def C4R(f:B4U):Nat×Fn:=(224,⟨[.val true (.pair (.int .i64) (.pair (.int .i64) (.pair (.int .i64) (.rs 5 (.int .u8))))) false],[.val false (.sl 5 (.int .u8)),.val false .bool],fun x=>f x.1⟩)
theorem E66:EF cfg [] [(7,⟨[.t 4 false [.ro 5 (.int .u8)]],lt 25 9 (lt 7 17 []),false⟩),(30,⟨[.t 42 false [.bool]],lt 34 8 [],true⟩),(58,⟨[],lt 11 13 [],false⟩)] f224 (C4R C8u):=fun _=>by kernel_rfl
theorem D5r:SQ (C4R B8P):=sF MO C5 B9 func224 E66
def D3m(f:C7a):Nat×Fn:=(222,⟨[.val true (.pair (.int .i64) (.pair .bool (.rs 5 (.int .u8)))) false,.val true (.pair (.int .i64) (.pair (.int .i64) (.pair (.int .i64) (.rs 5 (.int .u8))))) false],[.val true A03,.val false (.sl 5 (.int .u8)),.val false (.int .i64)],fun x=>f x.1 x.2.1⟩)
theorem E95{A2J:A6U}{A1w:B0r}{A1O:A52}{A71:B4U}:EF cfg [B44 A2J,C19 A1w,B1w A1O,C4R A71] [(7,⟨[],lt 12 35 [],false⟩),(14,⟨[.t 46 false [.bool]],lt 12 34 [],true⟩),(31,⟨[.b 8 [.int .i64,.bool,.own 100002000],.r 100002000 5 (.int .u8)],lt 68 16 (lt 56 9 [.r 82,.r 212994,.r 249856,.t 9,.t 10,.t 52,.t 53]),false⟩)] f222 (D3m (D29 A2J A1w A1O A71)):=fun _=>by kernel_rfl
theorem E96:SQ (D3m C7b):=sF MO C5 (tc call120 C8C (tc call148 D3k (tc call201 C5I (tc call224 D5r B9)))) func222 E95
def B8h(f:A8e):Nat×Fn:=(77,⟨[.val true (.pair (.int .i64) (.pair (.rs 5 (.int .u8)) (.pair (.pair (.int .i64) (.pair .bool (.rs 5 (.int .u8)))) (.pair (.pair (.int .i64) (.rs 150 B8)) (.pair (.pair (.int .i64) (.rs 150 B8)) (.pair (.rs 113 E6) M8)))))) false,.val false (.int .i64) false],[.val false (.int .i64)],fun x=>f x.1 x.2.1⟩)
theorem E67:EF cfg [] [(26,⟨[.t 5 false [.int .i64]],lt 6 15 [],false⟩)] f77 (B8h D5J):=fun _=>by kernel_rfl
theorem C9c:SQ (B8h B0t):=sF MO C5 B9 func77 E67
def C6e(f:C0G):Nat×Fn:=(270,⟨[.val false (.int .i64) false],[.val false (.int .i64),.val false (.int .i64)],fun x=>f x.1⟩)
theorem E2h:EF cfg [] [(26,⟨[.t 5 false [.bool]],[.t 6,.t 7],true⟩)] f270 (C6e D2A):=fun _=>by kernel_rfl
theorem E2i:SQ (C6e D2B):=sF MO C5 B9 func270 E2h
def C6f(f:C0H):Nat×Fn:=(271,⟨[.val false (.int .i64) false],[.val false (.int .i64),.val false (.int .i64)],fun x=>f x.1⟩)
theorem E2j:EF cfg [] [(26,⟨[.t 5 false [.bool]],[.t 6,.t 7],true⟩),(107,⟨[.t 8 false [.bool]],[.t 9,.t 10],true⟩),(431,⟨[.t 11 false [.bool]],[.t 12,.t 13],true⟩)] f271 (C6f D2C):=fun _=>by kernel_rfl
theorem E2k:SQ (C6f D2D):=sF MO C5 B9 func271 E2j
def C3V(f:B6N):Nat×Fn:=(272,⟨[.val false (.int .i64) false],[.val false (.int .i64),.val false (.int .i64)],fun x=>f x.1⟩)
theorem E0C:EF cfg [] [(26,⟨[.t 5 false [.bool]],lt 6 4 [],true⟩)] f272 (C3V D06):=fun _=>by kernel_rfl
theorem E0D:SQ (C3V D07):=sF MO C5 B9 func272 E0C
def C6g(f:C0I):Nat×Fn:=(273,⟨[.val false (.int .i64) false],[.val false (.int .i64),.val false (.int .i64)],fun x=>f x.1⟩)
theorem E2l:EF cfg [] [(26,⟨[.t 5 false [.bool]],lt 6 4 [],true⟩)] f273 (C6g D2E):=fun _=>by kernel_rfl
theorem E2m:SQ (C6g D2F):=sF MO C5 B9 func273 E2l
def B5U(f:A9c):Nat×Fn:=(246,⟨[.val false (.int .i64) false,.val false (.int .i64) false],[.val false (.int .i64),.val false (.int .i64)],fun x=>f x.1 x.2.1⟩)
theorem D3n{E4:L1}{C1R:C0G}{C1S:C0H}{B6t:B6N}{C1T:C0I}:EF cfg [A1V E4,C6e C1R,C6f C1S,C3V B6t,C6g C1T] [] f246 (B5U (B58 E4 C1R C1S B6t C1T)):=fun _=>by kernel_rfl
theorem D3o:SQ (B5U A9d):=sF MO C5 (tc call53 A2l (tc call270 E2i (tc call271 E2k (tc call272 E0D (tc call273 E2m B9))))) func246 D3n
def A58(f:A0b):Nat×Fn:=(288,⟨[.val false (.rs 5 (.int .u8)) false,.val false (.int .i64) false,.val false (.int .i64) false],[.val false (.int .i64),.val false (.int .i64),.val false .bool],fun x=>f x.1 x.2.1 x.2.2.1⟩)
theorem D4e{E4:L1}:EF cfg [A1V E4] [(3,⟨[],lt 13 11 [],false⟩),(63,⟨[],lt 41 31 (lt 10 3 []),false⟩),(506,⟨[.t 10 false [.int .i64],.t 11 false [.int .i64]],lt 41 31 [.t 12],false⟩),(1012,⟨[],lt 41 11 [],false⟩)] f288 (A58 (B7a E4)):=fun _=>by kernel_rfl
theorem B20:SQ (A58 A3c):=sF MO C5 (tc call53 A2l B9) func288 D4e
def C3W(f:B6O):Nat×Fn:=(205,⟨[],[.val false (.sl 150 B8)],fun x=>f⟩)
theorem E0E:EF cfg [] [] f205 (C3W D08):=fun _=>by kernel_rfl
theorem E0F:SQ (C3W B6P):=sF MO C5 B9 func205 E0E
def B5V(f:A9g):Nat×Fn:=(308,⟨[.val false (.int .i64) false],[.val true B8,.val false .bool],fun x=>f x.1⟩)
theorem D3p{E4:L1}{B6u:B6O}:EF cfg [A1V E4,C3W B6u] [] f308 (B5V (B59 E4 B6u)):=fun _=>by kernel_rfl
theorem D3q:SQ (B5V B5A):=sF MO C5 (tc call53 A2l (tc call205 E0F B9)) func308 D3p
def B6m(f:A8f):Nat×Fn:=(289,⟨[.val true (.pair (.int .i64) (.rs 150 B8)) false,.val false (.int .i64) false],[.val true B8,.val false .bool],fun x=>f x.1 x.2.1⟩)
theorem E0G{B0J:A9g}:EF cfg [B5V B0J] [] f289 (B6m (C2n B0J)):=fun _=>by kernel_rfl
theorem D0O:SQ (B6m B2N):=sF MO C5 (tc call308 D3q B9) func289 E0G
def A81(f:A39):Nat×Fn:=(207,⟨[.val true (.pair (.int .i64) (.rs 150 B8)) false],[.val true (.pair (.int .i64) (.rs 150 B8))],fun x=>f x.1⟩)
theorem D0k{A2n:A8F}:EF cfg [C17 A2n] [(12,⟨[.b 1 [.int .i64,.ro 150 B8]],lt 3 13 [],false⟩)] f207 (A81 (B2r A2n)):=fun _=>by kernel_rfl
theorem C1p:SQ (A81 A4k):=sF MO C5 (tc call126 D3i B9) func207 D0k
def B19(f:A6c):Nat×Fn:=(309,⟨[.val true (.pair (.int .i64) (.rs 150 B8)) false,.val false (.int .i64) false],[.val true (.pair (.int .i64) (.rs 150 B8))],fun x=>f x.1 x.2.1⟩)
theorem C9d{V7:A4H}{E4:L1}{R7:A4Q}{A0G:A39}:EF cfg [B2d V7,A1V E4,B5T R7,A81 A0G] [(7,⟨[],lt 8 8 [],false⟩)] f309 (B19 (B0u V7 E4 R7 A0G)):=fun _=>by kernel_rfl
theorem C9e:SQ (B19 A6d):=sF MO C5 (tc call51 C3S (tc call53 A2l (tc call54 C6c (tc call207 C1p B9)))) func309 C9d
def C1C(f:A8I):Nat×Fn:=(228,⟨[],[.val false (.sl 3 (.int .i64))],fun x=>f⟩)
theorem E2n:EF cfg [] [] f228 (C1C D2G):=fun _=>by kernel_rfl
theorem D3r:SQ (C1C B5B):=sF MO C5 B9 func228 E2n
def C3a(f:B2O):Nat×Fn:=(229,⟨[],[.val false (.sl 3 (.int .i64))],fun x=>f⟩)
theorem E0H{A2p:A8I}:EF cfg [C1C A2p] [(506,⟨[.t 2 false [.own 8],.t 3 false [.int .i64],.t 4 false [.int .i64],.t 5 false [.int .i64],.r 8 3 (.int .i64)],lt 9 28 [.t 6,.x 19,.x 36],false⟩),(32402,⟨[.t 2 false [.own 8],.t 3 false [.int .i64],.t 4 false [.int .i64],.t 6 false [.int .i64],.r 8 3 (.int .i64)],lt 13 24 [.x 19,.x 36],false⟩)] f229 (C3a (C2o A2p)):=fun _=>by kernel_rfl
theorem E0I:SQ (C3a A8g):=sF MO C5 (tc call228 D3r B9) func229 E0H
def C6h(f:B5C):Nat×Fn:=(317,⟨[.val false (.rs 3 (.int .i64)) false,.val false (.rs 3 (.int .i64)) false,.val false (.int .i64) false,.val false (.int .i64) false],[.val false (.int .i64)],fun x=>f x.1 x.2.1 x.2.2.1 x.2.2.2.1⟩)
theorem E2o:EF cfg [] [(26,⟨[.t 9 false [.int .i64]],lt 10 18 [],false⟩)] f317 (C6h C62):=fun _=>by kernel_rfl
theorem E2p:SQ (C6h A5q):=sF MO C5 B9 func317 E2o
def C6i(f:C0L):Nat×Fn:=(316,⟨[.val false (.rs 5 (.int .u8)) false],[.val false .str,.val false .bool],fun x=>f x.1⟩)
theorem E2q{A2p:A8I}{A8q:B2O}{B1E:B5C}:EF cfg [C1C A2p,C3a A8q,C6h B1E] [(127,⟨[.t 6 false [.own 100000000],.t 7 false [.int .i64],.t 8 false [.int .i64],.r 100000000 5 (.int .u8)],lt 14 38 [.r 13,.r 50,.r 51,.t 9,.t 10],false⟩),(1018,⟨[.t 6 false [.own 100000000],.t 7 false [.int .i64],.t 8 false [.int .i64],.t 9 false [.int .i64],.r 100000000 5 (.int .u8)],lt 14 38 [.r 13,.r 50,.r 51,.t 10],false⟩)] f316 (C6i (C63 A2p A8q B1E)):=fun _=>by kernel_rfl
theorem E2r:SQ (C6i C0M):=sF MO C5 (tc call228 D3r (tc call229 E0I (tc call317 E2p B9))) func316 E2q
def B7t(f:B1g):Nat×Fn:=(310,⟨[.val false (.rs 5 (.int .u8)) false,.val false (.int .i64) false],[.val false .str,.val false (.int .i64),.val false .bool],fun x=>f x.1 x.2.1⟩)
theorem D4f{L9:A0b}{C1U:C0L}:EF cfg [A58 L9,C6i C1U] [(7,⟨[],lt 19 14 [],false⟩)] f310 (B7t (B7b L9 C1U)):=fun _=>by kernel_rfl
theorem D4g:SQ (B7t B1h):=sF MO C5 (tc call288 B20 (tc call316 E2r B9)) func310 D4f
def B7u(f:B1i):Nat×Fn:=(291,⟨[.val true (.pair (.int .i64) (.rs 150 B8)) false,.val false (.rs 5 (.int .u8)) false,.val false (.int .i64) false,.val false (.int .i64) false],[.val true B8,.val false (.int .i64),.val false (.int .i64)],fun x=>f x.1 x.2.1 x.2.2.1 x.2.2.2.1⟩)
theorem D4h{L9:A0b}{A3O:A8f}{A7e:B1g}:EF cfg [A58 L9,B6m A3O,B7t A7e] [(31,⟨[.t 13 false [.int .i64],.b 11 [.str,.str]],lt 51 3 (lt 42 8 (lt 29 12 (lt 14 3 [.b 15]))),false⟩)] f291 (B7u (B7c L9 A3O A7e)):=fun _=>by kernel_rfl
theorem D4i:SQ (B7u B1j):=sF MO C5 (tc call288 B20 (tc call289 D0O (tc call310 D4g B9))) func291 D4h
def B37(f:A7s):Nat×Fn:=(178,⟨[.val true (.pair (.int .i64) (.rs 150 B8)) false,.val true B8 false],[.val true (.pair (.int .i64) (.rs 150 B8))],fun x=>f x.1 x.2.1⟩)
theorem D0l{A0G:A39}:EF cfg [A81 A0G] [] f178 (B37 (B2s A0G)):=fun _=>by kernel_rfl
theorem D0m:SQ (B37 A4l):=sF MO C5 (tc call207 C1p B9) func178 D0l
def A60(f:A3I):Nat×Fn:=(290,⟨[.ptr (.pair (.pair (.int .i64) (.rs 150 B8)) (.pair (.int .i64) (.pair (.rs 5 (.int .u8)) A07)))],[.val false (.int .i64)],fun x=>f x.1⟩)
theorem C3b{L9:A0b}{A72:A6c}:EF cfg [A58 L9,B19 A72] [(7,⟨[],lt 19 18 [],false⟩)] f290 (A60 (A5r L9 A72)):=fun _=>by kernel_rfl
theorem C3c:SQ (A60 A5s):=sF MO C5 (tc call288 B20 (tc call309 C9e B9)) func290 C3b
def A7G(f:A21):Nat×Fn:=(268,⟨[.ptr (.pair (.pair (.int .i64) (.rs 150 B8)) (.pair (.int .i64) (.pair (.rs 5 (.int .u8)) A07)))],[.val false (.int .i64)],fun x=>f x.1⟩)
theorem C4i{A85:A7s}{L9:A0b}{A3O:A8f}{A3P:A3I}{B28:B1i}:EF cfg [B37 A85,A58 L9,B6m A3O,A60 A3P,B7u B28] [(7,⟨[],lt 66 7 (lt 23 3 []),false⟩),(31,⟨[.t 9 false [.int .i64]],[.t 75,.t 76],true⟩),(255,⟨[.b 1000 [.int .i64,.ro 150 B8,.int .i64,.ro 5 (.int .u8),.int .i64,.own 1005],.r 1005 150 B8],lt 98 11 [],true⟩)] f268 (A7G (A7C A85 L9 A3O A3P B28)):=fun _=>by kernel_rfl
theorem C4j:SQ (A7G A0s):=sF MO C5 (tc call178 D0m (tc call288 B20 (tc call289 D0O (tc call290 C3c (tc call291 D4i B9))))) func268 C4i
def C9f(f:C4I):Nat×Fn:=(127,⟨[.val false .str false],[.val false .bool],fun x=>f x.1⟩)
theorem E68{E4:L1}:EF cfg [A1V E4] [(3,⟨[],lt 3 21 [],false⟩),(26,⟨[.t 3 false [.int .i64]],lt 4 20 [],false⟩)] f127 (C9f (C8v E4)):=fun _=>by kernel_rfl
theorem E69:SQ (C9f B8Q):=sF MO C5 (tc call53 A2l B9) func127 E68
def C3d(f:B6R):Nat×Fn:=(128,⟨[.val false (.int .i64) false],[.val false (.int .i64)],fun x=>f x.1⟩)
theorem E0J:EF cfg [] [] f128 (C3d C2p):=fun _=>by kernel_rfl
theorem E0K:SQ (C3d B6S):=sF MO C5 B9 func128 E0J
def B7v(f:A7S):Nat×Fn:=(130,⟨[.val false (.int .i64) false],[.val false .str],fun x=>f x.1⟩)
theorem D4j:EF cfg [] [] f130 (B7v C4w):=fun _=>by kernel_rfl
theorem D4k:SQ (B7v A7T):=sF MO C5 B9 func130 D4j
def C3e(f:B6T):Nat×Fn:=(131,⟨[.val false (.int .i64) false],[.val false .str],fun x=>f x.1⟩)
theorem E0L:EF cfg [] [] f131 (C3e C2q):=fun _=>by kernel_rfl
theorem E0M:SQ (C3e B6U):=sF MO C5 B9 func131 E0L
def B46(f:A4T):Nat×Fn:=(295,⟨[.val false (.rs 150 B8) false,.val false .str false],[.val false (.int .i64)],fun x=>f x.1 x.2.1⟩)
theorem D7t:EF cfg [] [(58,⟨[.t 5 false [.int .i64],.t 6 false [.int .i64]],lt 7 15 [],false⟩)] f295 (B46 C0N):=fun _=>by kernel_rfl
theorem C8E:SQ (B46 A2B):=sF MO C5 B9 func295 D7t
def C3f(f:B6V):Nat×Fn:=(292,⟨[.val false (.rs 150 B8) false],[.val false .bool],fun x=>f x.1⟩)
theorem E0N{E4:L1}{O4:A4T}:EF cfg [A1V E4,B46 O4] [(7,⟨[],lt 3 56 [],false⟩),(58,⟨[.t 3 false [.bool],.t 4 false [.int .i64]],lt 5 54 [],false⟩),(3731,⟨[],lt 20 11 [.t 6],false⟩),(29850,⟨[.t 6 false [.int .i64]],lt 20 11 [],false⟩)] f292 (C3f (C2r E4 O4)):=fun _=>by kernel_rfl
theorem E0O:SQ (C3f B6W):=sF MO C5 (tc call53 A2l (tc call295 C8E B9)) func292 E0N
def C1D(f:A9k):Nat×Fn:=(293,⟨[.val false (.rs 150 B8) false,.val false .str false],[.val false .str],fun x=>f x.1 x.2.1⟩)
theorem D7u:EF cfg [] [(26,⟨[.t 5 false [.int .i64]],lt 6 13 [],false⟩)] f293 (C1D C0O):=fun _=>by kernel_rfl
theorem D7v:SQ (C1D A6e):=sF MO C5 B9 func293 D7u
def B7w(f:B1k):Nat×Fn:=(294,⟨[.val false .str false,.val false (.int .i64) false],[.val false (.int .i64),.val false .bool],fun x=>f x.1 x.2.1⟩)
theorem D4l{E4:L1}:EF cfg [A1V E4] [(7,⟨[],lt 8 14 [],false⟩),(15,⟨[.t 6 false [.int .i64]],lt 22 20 [.t 7],false⟩),(122,⟨[.t 6 false [.int .i64],.t 7 false [.int .i64]],lt 22 20 [],false⟩)] f294 (B7w (B7d E4)):=fun _=>by kernel_rfl
theorem D4m:SQ (B7w B1l):=sF MO C5 (tc call53 A2l B9) func294 D4l
def C9g(f:C4J):Nat×Fn:=(269,⟨[.val false (.rs 150 B8) false],[.val true B4i,.val false (.int .i64)],fun x=>f x.1⟩)
theorem E6A{C4V:C4I}{B6v:B6R}{A5A:A7S}{B6w:B6T}{B70:B6V}{A3Q:A9k}{B29:B1k}{O4:A4T}:EF cfg [C9f C4V,C3d B6v,B7v A5A,C3e B6w,C3f B70,C1D A3Q,B7w B29,B46 O4] [(31,⟨[.b 5 [.int .i64,.str,.int .i64]],lt 17 11 [.t 6],true⟩),(127,⟨[],lt 35 15 (lt 30 4 []),false⟩),(250,⟨[.t 6 false [.int .i64],.b 5 [.int .i64,.str,.int .i64]],lt 17 11 [],false⟩)] f269 (C9g (C8w C4V B6v A5A B6w B70 A3Q B29 O4)):=fun _=>by kernel_rfl
theorem E6B:SQ (C9g C4K):=sF MO C5 (tc call127 E69 (tc call128 E0K (tc call130 D4k (tc call131 E0M (tc call292 E0O (tc call293 D7v (tc call294 D4m (tc call295 C8E B9)))))))) func269 E6A
def A7H(f:A3n):Nat×Fn:=(244,⟨[.val true (.pair (.int .i64) (.rs 150 B8)) false,.val false (.int .i64) false,.val false (.rs 5 (.int .u8)) false],[.val false (.sl 150 B8),.val true (.pair (.int .i64) (.rs 150 B8)),.val false (.int .i64)],fun x=>f x.1 x.2.1 x.2.2.1⟩)
theorem C4k{V7:A4H}{E4:L1}{R7:A4Q}{A0u:A21}:EF cfg [B2d V7,A1V E4,B5T R7,A7G A0u] [(7,⟨[],lt 13 8 [],false⟩),(14,⟨[.t 20 false [.bool]],lt 13 7 [],true⟩),(31,⟨[.b 29 [.int .i64,.ro 150 B8,.int .i64,.ro 5 (.int .u8),.int .i64,.own 100002000],.r 100002000 150 B8],lt 30 21 [.r 106497,.r 161797,.t 11,.t 25,.t 28],false⟩),(124,⟨[.b 29 [.int .i64,.ro 150 B8,.int .i64,.ro 5 (.int .u8),.int .i64,.own 100002000],.r 100002000 150 B8],lt 30 21 [.r 106497,.r 161797,.t 11,.t 25,.t 28],false⟩),(1989,⟨[.t 11 false [.int .i64]],lt 39 10 [],true⟩)] f244 (A7H (A7D V7 E4 R7 A0u)):=fun _=>by kernel_rfl
theorem C4l:SQ (A7H A3o):=sF MO C5 (tc call51 C3S (tc call53 A2l (tc call54 C6c (tc call268 C4j B9)))) func244 C4k
def A6q(f:A8d):Nat×Fn:=(199,⟨[.ptr (.pair (.pair (.int .i64) (.pair (.sl 5 (.int .u8)) (.pair A03 (.pair (.pair (.int .i64) (.rs 150 B8)) (.pair A07 (.pair (.sl 113 E6) M8)))))) (.pair (.sl 75 M6) (.sl 5 (.int .u8)))),.val true (.pair (.int .i64) (.pair (.int .i64) (.pair (.int .i64) (.rs 5 (.int .u8))))) false],[],fun x=>f x.1 x.2.1⟩)
theorem C9h{B4K:B3n}:EF cfg [C1B B4K] [] f199 (A6q (C2l B4K)):=fun _=>by kernel_rfl
theorem B8i:SQ (A6q B2M):=sF MO C5 (tc call59 D7s B9) func199 C9h
def T2(f:P8):Nat×Fn:=(169,⟨[.ptr (.pair (.pair (.int .i64) (.pair (.sl 5 (.int .u8)) (.pair A03 (.pair (.pair (.int .i64) (.rs 150 B8)) (.pair A07 (.pair (.sl 113 E6) M8)))))) (.pair (.sl 75 M6) (.sl 5 (.int .u8)))),.val false (.int .i64) false],[],fun x=>f x.1 x.2.1⟩)
theorem C9i{A2U:A8d}{B27:B1e}:EF cfg [A6q A2U,B7s B27] [] f169 (T2 (C2m A2U B27)):=fun _=>by kernel_rfl
theorem A0P:SQ (T2 A1R):=sF MO C5 (tc call199 B8i (tc call200 D4c B9)) func169 C9i
def A5U(f:A6a):Nat×Fn:=(247,⟨[.ptr (.pair (.pair (.int .i64) (.pair (.sl 5 (.int .u8)) (.pair A03 (.pair (.pair (.int .i64) (.rs 150 B8)) (.pair A07 (.pair (.sl 113 E6) M8)))))) (.pair (.sl 75 M6) (.sl 5 (.int .u8)))),.val false (.int .i64) false],[],fun x=>f x.1 x.2.1⟩)
theorem C8F:EF cfg [] [] f247 (A5U C0J):=fun _=>by kernel_rfl
theorem B6n:SQ (A5U A9e):=sF MO C5 B9 func247 C8F
def A8N(f:B1m):Nat×Fn:=(245,⟨[.ptr (.pair (.pair (.int .i64) (.pair (.sl 5 (.int .u8)) (.pair A03 (.pair (.pair (.int .i64) (.rs 150 B8)) (.pair A07 (.pair (.sl 113 E6) M8)))))) (.pair (.sl 75 M6) (.sl 5 (.int .u8)))),.val false (.int .i64) false,.val false .bool false,.val false (.rs 150 B8) false],[],fun x=>f x.1 x.2.1 x.2.2.1 x.2.2.2.1⟩)
theorem C6j{F5:P8}{A2L:A6a}{C4W:C4J}:EF cfg [T2 F5,A5U A2L,C9g C4W] [(1,⟨[],lt 26 8 (lt 11 13 []),false⟩),(4,⟨[.t 11 false [.bool]],lt 12 12 [],true⟩),(63,⟨[.b 10 [.int .i64,.int .i64,.int .i64,.str,.int .i64,.nil]],[.t 63,.t 64],true⟩)] f245 (A8N (B7e F5 A2L C4W)):=fun _=>by kernel_rfl
theorem C6k:SQ (A8N B1n):=sF MO C5 (tc call169 A0P (tc call247 B6n (tc call269 E6B B9))) func245 C6j
end
end Go.Proofs.YthnfghmjipikhaaGreatDoor.Ev
