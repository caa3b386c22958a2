/- Each function of the program does what its plain function says. -/
import Derived.Test.YthnfghmjipikhaaGreatDoorG1
set_option linter.unusedVariables false
set_option maxRecDepth 100000
namespace Go.Proofs.YthnfghmjipikhaaGreatDoor.Ev
open Tryz
noncomputable section
def A3l(f:A1g):Nat×Fn:=(99,⟨[.ptr A31,.val false (.rs 5 (.int .u8)) false],[.val false (.rs 5 (.int .u8)),.val false (.int .i64)],fun x=>f x.1 x.2.1⟩)
theorem B73:EF cfg [] [(3,⟨[.t 1 false [.ro 5 (.int .u8)],.b 1000 [.int .i64,.own 1001,.int .i64,.bool,.own 1004,.int .i64,.own 1006,.int .i64,.own 1008,.own 1009,.int .i64,.int .i64,.own 1012,.own 1013],.r 1001 5 (.int .u8),.r 1004 5 (.int .u8),.r 1006 150 D9,.r 1008 150 D9,.r 1009 113 N8,.r 1012 75 A3P,.r 1013 5 (.int .u8)],lt 6 32 [],false⟩),(12,⟨[.t 1 false [.ro 5 (.int .u8)],.b 1000 [.int .i64,.own 1001,.int .i64,.bool,.own 1004,.int .i64,.own 1006,.int .i64,.own 1008,.own 1009,.int .i64,.int .i64,.own 1012,.own 1013],.r 1001 5 (.int .u8),.r 1004 5 (.int .u8),.r 1006 150 D9,.r 1008 150 D9,.r 1009 113 N8,.r 1012 75 A3P,.r 1013 5 (.int .u8)],lt 6 32 [],false⟩),(24,⟨[],lt 6 11 [],false⟩)] f99 (A3l U2):=fun _=>by kernel_rfl
theorem B74:SQ (A3l P7):=sF MO E2 C6 func99 B73
def B4R(f:B03):Nat×Fn:=(33,⟨[.val true (.pair (.int .i64) (.pair (.rs 5 (.int .u8)) (.pair (.pair (.int .i64) (.pair .bool (.rs 5 (.int .u8)))) (.pair (.pair (.int .i64) (.rs 150 D9)) (.pair (.pair (.int .i64) (.rs 150 D9)) (.pair (.rs 113 N8) Q0)))))) false,.val false (.rs 5 (.int .u8)) false],[.val true C94,.val false (.sl 75 A3P),.val false (.sl 5 (.int .u8))],fun x=>f x.1 x.2.1⟩)
theorem C8I{A2A:A8r}{B21:B1W}{A1n:A1g}{A4W:A4T}{A0l:A0j}{A8M:A7u}:EF cfg [B6n A2A,B6o B21,A3l A1n,A8H A4W,A2O A0l,B2k A8M] [(7,⟨[],lt 13 8 [],false⟩),(31,⟨[.t 9 false [.int .i64],.b 7 [.int .i64,.own 100001000,.int .i64,.bool,.own 100001001,.int .i64,.own 100001002,.int .i64,.own 100001003,.own 100001004,.int .i64,.int .i64,.own 100001005,.own 100001006],.r 100001000 5 (.int .u8),.r 100001001 5 (.int .u8),.r 100001002 150 D9,.r 100001003 150 D9,.r 100001004 113 N8,.r 100001005 75 A3P,.r 100001006 5 (.int .u8)],lt 28 8 [.r 33,.r 108545,.r 108548,.r 108550,.r 108552,.r 108553,.r 108556,.r 108557,.r 143360,.r 149505,.r 149508,.r 149510,.r 149512,.r 149513,.r 149516,.r 149517],true⟩),(63,⟨[.b 7 [.int .i64,.own 100002007,.int .i64,.bool,.own 100002008,.int .i64,.own 100002009,.int .i64,.own 100002010,.own 100002011,.int .i64,.int .i64,.own 100002012,.own 100002013],.r 100002007 5 (.int .u8),.r 100002008 5 (.int .u8),.r 100002009 150 D9,.r 100002010 150 D9,.r 100002011 113 N8,.r 100002012 75 A3P,.r 100002013 5 (.int .u8)],lt 36 4 [.r 165889,.r 165892,.r 165894,.r 165896,.r 165897,.r 165900,.r 165901,.r 100001000,.r 100001001,.r 100001002,.r 100001003,.r 100001004,.r 100001005,.r 100001006],true⟩)] f33 (B4R (B4B A2A B21 A1n A4W A0l A8M)):=fun _=>by kernel_rfl
theorem C8J:SQ (B4R A6H):=sF MO E2 (tc call43 C7K (tc call82 D0h (tc call99 B74 (tc call100 C2H (tc call101 B34 (tc call102 C7a C6)))))) func33 C8I
def B8l(f:B3K):Nat×Fn:=(34,⟨[],[.val true C94],fun x=>f⟩)
theorem D2o:EF cfg [] [] f34 (B8l C47):=fun _=>by kernel_rfl
theorem D2p:SQ (B8l B3L):=sF MO E2 C6 func34 D2o
def B0H(f:A2p):Nat×Fn:=(36,⟨[.val false (.rs 5 (.int .u8)) false,.val false (.rs 5 (.int .u8)) false],[.val false .bool],fun x=>f x.1 x.2.1⟩)
theorem C8K:EF cfg [] [(58,⟨[.t 5 false [.int .i64]],lt 11 15 [],false⟩)] f36 (B0H B4C):=fun _=>by kernel_rfl
theorem C02:SQ (B0H A2q):=sF MO E2 C6 func36 C8K
def A3w(f:T2):Nat×Fn:=(53,⟨[.val false (.int .i64) false,.val false (.int .i64) false,.val false (.int .i64) false],[.val false .bool],fun x=>f x.1 x.2.1 x.2.2.1⟩)
theorem E0q:EF cfg [] [] f53 (A3w C6K):=fun _=>by kernel_rfl
theorem A6R:SQ (A3w A2a):=sF MO E2 C6 func53 E0q
def C7b(f:B8E):Nat×Fn:=(173,⟨[.val true D9 false],[.val false (.int .i64)],fun x=>f x.1⟩)
theorem E0r:EF cfg [] [] f173 (C7b C1k):=fun _=>by kernel_rfl
theorem E0s:SQ (C7b B2R):=sF MO E2 C6 func173 E0r
def B75(f:A73):Nat×Fn:=(126,⟨[.val true (.pair (.int .i64) (.rs 150 D9)) false],[.val false (.int .i64)],fun x=>f x.1⟩)
theorem D4n{B5G:B8E}:EF cfg [C7b B5G] [(58,⟨[.t 3 false [.int .i64],.t 4 false [.int .i64]],lt 5 15 [],false⟩)] f126 (B75 (C0U B5G)):=fun _=>by kernel_rfl
theorem C7c:SQ (B75 A74):=sF MO E2 (tc call173 E0s C6) func126 D4n
def B3g(f:A7N):Nat×Fn:=(51,⟨[.val true (.pair (.int .i64) (.rs 150 D9)) false],[.val false .bool],fun x=>f x.1⟩)
theorem D2q{H1:T2}{A2B:A73}:EF cfg [A3w H1,B75 A2B] [] f51 (B3g (B0g H1 A2B)):=fun _=>by kernel_rfl
theorem C4N:SQ (B3g A2b):=sF MO E2 (tc call53 A6R (tc call126 C7c C6)) func51 D2q
def C3O(f:B9M):Nat×Fn:=(127,⟨[.val false .str false],[.val false .bool],fun x=>f x.1⟩)
theorem D7w{H1:T2}:EF cfg [A3w H1] [(3,⟨[],lt 3 21 [],false⟩),(26,⟨[.t 3 false [.int .i64]],lt 4 20 [],false⟩)] f127 (C3O (C2o H1)):=fun _=>by kernel_rfl
theorem D80:SQ (C3O B9N):=sF MO E2 (tc call53 A6R C6) func127 D7w
def B3h(f:A7O):Nat×Fn:=(128,⟨[.val false (.int .i64) false],[.val false (.int .i64)],fun x=>f x.1⟩)
theorem D2r:EF cfg [] [] f128 (B3h B3N):=fun _=>by kernel_rfl
theorem C4O:SQ (B3h A7P):=sF MO E2 C6 func128 D2r
def B9T(f:B28):Nat×Fn:=(52,⟨[.val true C7n false],[.val false .bool],fun x=>f x.1⟩)
theorem D81{H1:T2}{B9V:B9M}{A2h:A7O}:EF cfg [A3w H1,C3O B9V,B3h A2h] [(3,⟨[],lt 4 10 [],false⟩)] f52 (B9T (C2p H1 B9V A2h)):=fun _=>by kernel_rfl
theorem C9P:SQ (B9T B4s):=sF MO E2 (tc call53 A6R (tc call127 D80 (tc call128 C4O C6))) func52 D81
def B2l(f:A4k):Nat×Fn:=(54,⟨[.val true (.pair (.int .i64) (.rs 150 D9)) false],[.val true A6w],fun x=>f x.1⟩)
theorem D4o:EF cfg [] [] f54 (B2l C0V):=fun _=>by kernel_rfl
theorem C0w:SQ (B2l A93):=sF MO E2 C6 func54 D4o
def B8m(f:B3O):Nat×Fn:=(205,⟨[],[.val false (.sl 150 D9)],fun x=>f⟩)
theorem D2s:EF cfg [] [] f205 (B8m C48):=fun _=>by kernel_rfl
theorem D2t:SQ (B8m B3P):=sF MO E2 C6 func205 D2s
def B4S(f:B04):Nat×Fn:=(174,⟨[.val true (.pair (.int .i64) (.rs 150 D9)) false,.val true D9 false],[.val false (.int .i64),.val false .bool],fun x=>f x.1 x.2.1⟩)
theorem C8L{B3l:B3O}:EF (cfg.withEq [(150,1002)]) [B8m B3l] [(15,⟨[.t 7 false [.int .i64]],lt 37 10 (lt 11 25 [.b 9,.t 8,.t 9,.x 25]),false⟩),(122,⟨[.t 7 false [.int .i64],.t 8 false [.int .i64]],lt 37 10 (lt 11 25 [.b 9,.t 9,.x 25]),false⟩),(3913,⟨[.b 9 [.str,.str]],lt 20 13 [.x 25],true⟩)] f174 (B4S (B4D B3l)):=fun _=>by kernel_rfl
theorem C8M:SQ (B4S B05):=sF MO (C92 (l:= [(150,1002)]) E2 ⟨E45,trivial⟩) (tc call205 D2t C6) func174 C8L
def B0I(f:A4D):Nat×Fn:=(175,⟨[.val false (.rs 5 (.int .u8)) false,.val false (.int .i64) false,.val false (.int .i64) false,.val false (.int .i64) false],[.val false (.sl 5 (.int .u8))],fun x=>f x.1 x.2.1 x.2.2.1 x.2.2.2.1⟩)
theorem C8N{H1:T2}:EF cfg [A3w H1] [(7,⟨[],lt 14 8 [],false⟩),(15,⟨[.t 3 false [.int .i64]],[.t 23,.t 24],true⟩),(31,⟨[.t 3 false [.int .i64]],[.t 25,.t 26],true⟩),(2047,⟨[.t 3 false [.int .i64],.t 9 false [.own 100003000],.r 100003000 5 (.int .u8)],lt 54 11 [.r 50,.r 61,.r 62],true⟩),(8188,⟨[.t 3 false [.int .i64],.t 9 false [.own 100003000],.r 100003000 5 (.int .u8)],lt 54 11 [.r 50,.r 61,.r 62],false⟩)] f175 (B0I (B4E H1)):=fun _=>by kernel_rfl
theorem C03:SQ (B0I A4E):=sF MO E2 (tc call53 A6R C6) func175 C8N
def C10(f:B6K):Nat×Fn:=(176,⟨[.val false (.int .i64) false],[.val false (.int .i64),.val false (.int .i64)],fun x=>f x.1⟩)
theorem D4p:EF cfg [] [] f176 (C10 C6L):=fun _=>by kernel_rfl
theorem D4q:SQ (C10 C0W):=sF MO E2 C6 func176 D4p
def B76(f:A94):Nat×Fn:=(228,⟨[],[.val false (.sl 3 (.int .i64))],fun x=>f⟩)
theorem D4r:EF cfg [] [] f228 (B76 C6M):=fun _=>by kernel_rfl
theorem C7d:SQ (B76 B6L):=sF MO E2 C6 func228 D4r
def B8n(f:B3Q):Nat×Fn:=(229,⟨[],[.val false (.sl 3 (.int .i64))],fun x=>f⟩)
theorem D2u{A3m:A94}:EF cfg [B76 A3m] [(506,⟨[.t 2 false [.own 8],.t 3 false [.int .i64],.t 4 false [.int .i64],.t 5 false [.int .i64],.r 8 3 (.int .i64)],lt 9 28 [.t 6,.x 19,.x 36],false⟩),(32402,⟨[.t 2 false [.own 8],.t 3 false [.int .i64],.t 4 false [.int .i64],.t 6 false [.int .i64],.r 8 3 (.int .i64)],lt 13 24 [.x 19,.x 36],false⟩)] f229 (B8n (B8F A3m)):=fun _=>by kernel_rfl
theorem D2v:SQ (B8n B0h):=sF MO E2 (tc call228 C7d C6) func229 D2u
def C7e(f:C1l):Nat×Fn:=(206,⟨[.val false .str false],[.val false (.sl 5 (.int .u8))],fun x=>f x.1⟩)
theorem E0t{A3m:A94}{B3m:B3Q}:EF cfg [B76 A3m,B8n B3m] [(127,⟨[.t 5 false [.own 100000001],.t 6 false [.int .i64],.t 7 false [.int .i64],.r 100000001 5 (.int .u8)],lt 12 48 [.r 11,.r 52,.r 53,.r 100001000,.t 8,.x 23,.x 31,.x 39],true⟩),(1018,⟨[.t 5 false [.own 100000001],.t 6 false [.int .i64],.t 7 false [.int .i64],.t 8 false [.int .i64],.r 100000001 5 (.int .u8)],lt 12 48 [.r 11,.r 52,.r 53,.r 100001000,.x 23,.x 31,.x 39],false⟩),(130342,⟨[.t 5 false [.own 100001000],.t 6 false [.int .i64],.t 7 false [.int .i64],.r 100001000 5 (.int .u8)],lt 42 18 [.r 11,.r 52,.r 53,.r 100000001],false⟩)] f206 (C7e (C6N A3m B3m)):=fun _=>by kernel_rfl
theorem E0u:SQ (C7e C1m):=sF MO E2 (tc call228 C7d (tc call229 D2v C6)) func206 E0t
def B4T(f:B07):Nat×Fn:=(177,⟨[.val false (.rs 5 (.int .u8)) false,.val false .str false],[.val false (.sl 5 (.int .u8))],fun x=>f x.1 x.2.1⟩)
theorem C8O{V9:A4D}{C2P:C1l}:EF cfg [B0I V9,C7e C2P] [] f177 (B4T (B4F V9 C2P)):=fun _=>by kernel_rfl
theorem C8P:SQ (B4T A6J):=sF MO E2 (tc call175 C03 (tc call206 E0u C6)) func177 C8O
def B1E(f:A6h):Nat×Fn:=(207,⟨[.val true (.pair (.int .i64) (.rs 150 D9)) false],[.val true (.pair (.int .i64) (.rs 150 D9))],fun x=>f x.1⟩)
theorem C4j{A2B:A73}:EF cfg [B75 A2B] [(12,⟨[.b 1 [.int .i64,.ro 150 D9]],lt 3 13 [],false⟩)] f207 (B1E (B12 A2B)):=fun _=>by kernel_rfl
theorem C4k:SQ (B1E A6i):=sF MO E2 (tc call126 C7c C6) func207 C4j
def B1F(f:A6j):Nat×Fn:=(178,⟨[.val true (.pair (.int .i64) (.rs 150 D9)) false,.val true D9 false],[.val true (.pair (.int .i64) (.rs 150 D9))],fun x=>f x.1 x.2.1⟩)
theorem C4l{A6r:A6h}:EF cfg [B1E A6r] [] f178 (B1F (B13 A6r)):=fun _=>by kernel_rfl
theorem C4m:SQ (B1F A6k):=sF MO E2 (tc call207 C4k C6) func178 C4l
def A7C(f:A26):Nat×Fn:=(129,⟨[.val true (.pair (.int .i64) (.rs 150 D9)) false,.val true D9 false,.val false (.int .i64) false],[.val false (.sl 5 (.int .u8)),.val true (.pair (.int .i64) (.rs 150 D9))],fun x=>f x.1 x.2.1 x.2.2.1⟩)
theorem C11{A2i:A7N}{H1:T2}{A0T:A4k}{B0P:B04}{V9:A4D}{B7F:B6K}{A6S:B07}{A6s:A6j}:EF cfg [B3g A2i,A3w H1,B2l A0T,B4S B0P,B0I V9,C10 B7F,B4T A6S,B1F A6s] [(7,⟨[],lt 16 8 [],false⟩),(31,⟨[],lt 32 5 [],false⟩),(62,⟨[.t 36 false [.bool]],lt 32 4 [],true⟩),(255,⟨[.t 13 false [.own 100003000],.r 100003000 5 (.int .u8)],lt 51 6 [.r 208896,.r 233472],true⟩)] f129 (A7C (A75 A2i H1 A0T B0P V9 B7F A6S A6s)):=fun _=>by kernel_rfl
theorem C12:SQ (A7C T3):=sF MO E2 (tc call51 C4N (tc call53 A6R (tc call54 C0w (tc call174 C8M (tc call175 C03 (tc call176 D4q (tc call177 C8P (tc call178 C4m C6)))))))) func129 C11
def B4U(f:B08):Nat×Fn:=(130,⟨[.val false (.int .i64) false],[.val false .str],fun x=>f x.1⟩)
theorem C8Q:EF cfg [] [] f130 (B4U B9s):=fun _=>by kernel_rfl
theorem C8R:SQ (B4U B4G):=sF MO E2 C6 func130 C8Q
def B8o(f:B3R):Nat×Fn:=(131,⟨[.val false (.int .i64) false],[.val false .str],fun x=>f x.1⟩)
theorem D2w:EF cfg [] [] f131 (B8o C49):=fun _=>by kernel_rfl
theorem D30:SQ (B8o B8G):=sF MO E2 C6 func131 D2w
def A9U(f:A5G):Nat×Fn:=(132,⟨[.val false (.int .i64) false],[.val false .str],fun x=>f x.1⟩)
theorem C3P{A8N:A7h}:EF cfg [B8d A8N] [] f132 (A9U (A3H A8N)):=fun _=>by kernel_rfl
theorem C3Q:SQ (A9U A96):=sF MO E2 (tc call132 C7H C6) func132 C3P
def A9V(f:A5H):Nat×Fn:=(132,⟨[.val false (.int .i64) false],[.val false .str],fun x=>f x.1⟩)
theorem C3R{A5j:A5G}:EF cfg [A9U A5j] [] f132 (A9V (B4t A5j)):=fun _=>by kernel_rfl
theorem C3S:SQ (A9V A97):=sF MO E2 (tc call132 C3Q C6) func132 C3R
def A9W(f:A5I):Nat×Fn:=(132,⟨[.val false (.int .i64) false],[.val false .str],fun x=>f x.1⟩)
theorem C3T{A5k:A5H}:EF cfg [A9V A5k] [] f132 (A9W (B4u A5k)):=fun _=>by kernel_rfl
theorem C3U:SQ (A9W A98):=sF MO E2 (tc call132 C3S C6) func132 C3T
def A9a(f:A5J):Nat×Fn:=(132,⟨[.val false (.int .i64) false],[.val false .str],fun x=>f x.1⟩)
theorem C3V{A5l:A5I}:EF cfg [A9W A5l] [] f132 (A9a (B4v A5l)):=fun _=>by kernel_rfl
theorem C3W:SQ (A9a A99):=sF MO E2 (tc call132 C3U C6) func132 C3V
def A9b(f:A5K):Nat×Fn:=(132,⟨[.val false (.int .i64) false],[.val false .str],fun x=>f x.1⟩)
theorem C3a{A5m:A5J}:EF cfg [A9a A5m] [] f132 (A9b (B4w A5m)):=fun _=>by kernel_rfl
theorem C3b:SQ (A9b A9A):=sF MO E2 (tc call132 C3W C6) func132 C3a
def A9c(f:A5L):Nat×Fn:=(132,⟨[.val false (.int .i64) false],[.val false .str],fun x=>f x.1⟩)
theorem C3c{A5n:A5K}:EF cfg [A9b A5n] [] f132 (A9c (B50 A5n)):=fun _=>by kernel_rfl
theorem C3d:SQ (A9c A9B):=sF MO E2 (tc call132 C3b C6) func132 C3c
def A9d(f:A5M):Nat×Fn:=(132,⟨[.val false (.int .i64) false],[.val false .str],fun x=>f x.1⟩)
theorem C3e{A5o:A5L}:EF cfg [A9c A5o] [] f132 (A9d (B51 A5o)):=fun _=>by kernel_rfl
theorem C3f:SQ (A9d A9C):=sF MO E2 (tc call132 C3d C6) func132 C3e
def A9e(f:A5N):Nat×Fn:=(132,⟨[.val false (.int .i64) false],[.val false .str],fun x=>f x.1⟩)
theorem C3g{A5p:A5M}:EF cfg [A9d A5p] [] f132 (A9e (B52 A5p)):=fun _=>by kernel_rfl
theorem C3h:SQ (A9e A9D):=sF MO E2 (tc call132 C3f C6) func132 C3g
def A9f(f:A5O):Nat×Fn:=(132,⟨[.val false (.int .i64) false],[.val false .str],fun x=>f x.1⟩)
theorem C3i{A5q:A5N}:EF cfg [A9e A5q] [] f132 (A9f (B53 A5q)):=fun _=>by kernel_rfl
theorem C3j:SQ (A9f A9E):=sF MO E2 (tc call132 C3h C6) func132 C3i
def C13(f:B6M):Nat×Fn:=(132,⟨[.val false (.int .i64) false],[.val false .str],fun x=>f x.1⟩)
theorem D4s{A5r:A5O}:EF cfg [A9f A5r] [] f132 (C13 (C6O A5r)):=fun _=>by kernel_rfl
theorem D4t:SQ (C13 C0a):=sF MO E2 (tc call132 C3j C6) func132 D4s
def B77(f:B1k):Nat×Fn:=(56,⟨[.val true C7n false],[.val false (.sl 150 D9)],fun x=>f x.1⟩)
theorem D0u{A5s:B28}{B0Q:B08}{B3n:B3R}{B7G:B6M}:EF cfg [B9T A5s,B4U B0Q,B8o B3n,C13 B7G] [] f56 (B77 (B6N A5s B0Q B3n B7G)):=fun _=>by kernel_rfl
theorem D0v:SQ (B77 B1l):=sF MO E2 (tc call52 C9P (tc call130 C8R (tc call131 D30 (tc call132 D4t C6)))) func56 D0u
def B8p(f:B3S):Nat×Fn:=(133,⟨[.val true (.pair (.int .i64) (.pair (.int .i64) (.pair (.int .i64) (.rs 5 (.int .u8))))) false],[.val false .bool],fun x=>f x.1⟩)
theorem D31{H1:T2}:EF cfg [A3w H1] [] f133 (B8p (B8H H1)):=fun _=>by kernel_rfl
theorem D32:SQ (B8p B3T):=sF MO E2 (tc call53 A6R C6) func133 D31
def C14(f:B6O):Nat×Fn:=(134,⟨[.val false (.rs 5 (.int .u8)) false,.val false (.int .i64) false,.val false (.int .i64) false],[.val false (.sl 5 (.int .u8))],fun x=>f x.1 x.2.1 x.2.2.1⟩)
theorem D4u{H1:T2}:EF cfg [A3w H1] [(7,⟨[.t 1 false [.int .i64]],[.t 12,.t 13],true⟩),(250,⟨[.t 7 false [.own 100001000],.t 8 false [.int .i64],.r 100001000 5 (.int .u8)],lt 20 13 [.r 11,.r 31,.r 32],false⟩)] f134 (C14 (C0b H1)):=fun _=>by kernel_rfl
theorem D4v:SQ (C14 B6P):=sF MO E2 (tc call53 A6R C6) func134 D4u
def A5b(f:U3):Nat×Fn:=(59,⟨[.val true (.pair (.int .i64) (.pair (.int .i64) (.pair (.int .i64) (.rs 5 (.int .u8))))) false],[.val false (.sl 5 (.int .u8))],fun x=>f x.1⟩)
theorem D0w{B3o:B3S}{B2p:B6O}:EF cfg [B8p B3o,C14 B2p] [] f59 (A5b (B6Q B3o B2p)):=fun _=>by kernel_rfl
theorem B1t:SQ (A5b W6):=sF MO E2 (tc call133 D32 (tc call134 D4v C6)) func59 D0w
def B4V(f:B09):Nat×Fn:=(57,⟨[.val false (.rs 82 B0u) false],[.val false (.sl 5 (.int .u8))],fun x=>f x.1⟩)
theorem C8S{I7:U3}:EF cfg [A5b I7] [(58,⟨[.t 3 false [.own 100000000],.t 4 false [.int .i64],.r 100000000 5 (.int .u8)],lt 6 13 [.r 5,.r 18,.r 73728],false⟩)] f57 (B4V (B4H I7)):=fun _=>by kernel_rfl
theorem C8T:SQ (B4V B0A):=sF MO E2 (tc call59 B1t C6) func57 C8S
def C7f(f:C1n):Nat×Fn:=(58,⟨[.val false (.int .i64) false,.val false .bool false,.val false (.rs 5 (.int .u8)) false,.val false (.int .i64) false],[.val false (.sl 82 B0u)],fun x=>f x.1 x.2.1 x.2.2.1 x.2.2.2.1⟩)
theorem E0v{H1:T2}:EF cfg [A3w H1] [(15,⟨[.t 3 false [.int .i64]],[.t 18,.t 19],true⟩),(31,⟨[.t 3 false [.int .i64]],[.t 20,.t 21],true⟩),(506,⟨[.t 9 false [.own 100002000],.t 10 false [.int .i64],.r 100002000 82 B0u],lt 22 42 [.b 11,.r 13,.r 53,.r 58,.r 62,.r 63,.t 11,.t 12],false⟩),(1012,⟨[],lt 22 8 [],false⟩),(16201,⟨[.b 11 [.int .i64,.int .i64,.int .i64,.nil]],lt 35 5 [],true⟩),(64807,⟨[.t 12 false [.int .i64],.b 11 [.int .i64,.int .i64,.int .i64,.nil]],lt 43 10 [],true⟩)] f58 (C7f (C6P H1)):=fun _=>by kernel_rfl
theorem E0w:SQ (C7f C1o):=sF MO E2 (tc call53 A6R C6) func58 E0v
def A69(f:A33):Nat×Fn:=(55,⟨[.val true (.pair (.int .i64) (.rs 150 D9)) false,.val false (.rs 150 D9) false],[.val false (.sl 5 (.int .u8)),.val true (.pair (.int .i64) (.rs 150 D9))],fun x=>f x.1 x.2.1⟩)
theorem B9j{A0T:A4k}{A0u:A26}:EF cfg [B2l A0T,A7C A0u] [(15,⟨[.t 6 false [.own 100000000],.b 7 [.int .i64,.ro 150 D9],.r 100000000 5 (.int .u8)],lt 14 27 (lt 8 4 [.b 11,.r 12,.r 39,.r 61441,.r 143360]),true⟩),(122,⟨[.t 6 false [.own 100000000],.t 8 false [.int .i64],.b 7 [.int .i64,.ro 150 D9],.r 100000000 5 (.int .u8)],lt 14 27 (lt 9 3 [.b 11,.r 12,.r 39,.r 61441,.r 143360]),false⟩),(3913,⟨[.t 9 false [.int .i64]],lt 21 6 [],true⟩)] f55 (A69 (A65 A0T A0u)):=fun _=>by kernel_rfl
theorem B9k:SQ (A69 A34):=sF MO E2 (tc call54 C0w (tc call129 C12 C6)) func55 B9j
def B8q(f:B3U):Nat×Fn:=(165,⟨[],[.val false (.sl 5 (.int .u8))],fun x=>f⟩)
theorem D33{I7:U3}:EF cfg [A5b I7] [] f165 (B8q (B8I I7)):=fun _=>by kernel_rfl
theorem D34:SQ (B8q B3V):=sF MO E2 (tc call59 B1t C6) func165 D33
def A8I(f:A2c):Nat×Fn:=(11,⟨[.val true (.pair (.int .i64) (.rs 150 D9)) false,.val false (.int .i64) false,.val true C7n false,.val false (.rs 5 (.int .u8)) false,.val false (.int .i64) false],[.val false (.sl 5 (.int .u8)),.val true (.pair (.int .i64) (.rs 150 D9))],fun x=>f x.1 x.2.1 x.2.2.1 x.2.2.2.1 x.2.2.2.2.1⟩)
theorem C2I{A2i:A7N}{A5s:B28}{H1:T2}{A0T:A4k}{A36:A33}{B22:B1k}{B0R:B09}{C2Q:C1n}{I7:U3}:EF cfg [B3g A2i,B9T A5s,A3w H1,B2l A0T,A69 A36,B77 B22,B4V B0R,C7f C2Q,A5b I7] [(3,⟨[],lt 18 13 [],false⟩),(6,⟨[.t 30 false [.bool]],lt 18 12 [],true⟩),(31,⟨[.t 4 false [.int .i64]],[.t 49,.t 50],true⟩),(63,⟨[.t 4 false [.int .i64]],[.t 51,.t 52],true⟩),(127,⟨[.t 14 false [.own 100004000],.r 100004000 5 (.int .u8)],lt 53 30 (lt 15 3 [.b 17,.r 72,.r 77,.r 82,.r 200704,.r 335872]),true⟩),(1018,⟨[.t 14 false [.own 100004000],.t 15 false [.int .i64],.r 100004000 5 (.int .u8)],lt 53 30 [.b 17,.r 72,.r 77,.r 82,.r 200704,.r 335872,.t 16,.t 17],false⟩),(65171,⟨[.t 16 false [.int .i64],.b 17 [.int .i64,.int .i64,.int .i64,.nil]],lt 65 7 [],true⟩)] f11 (A8I (A80 A2i A5s H1 A0T A36 B22 B0R C2Q I7)):=fun _=>by kernel_rfl
theorem C2J:SQ (A8I A2d):=sF MO E2 (tc call51 C4N (tc call52 C9P (tc call53 A6R (tc call54 C0w (tc call55 B9k (tc call56 D0v (tc call57 C8T (tc call58 E0w (tc call59 B1t C6))))))))) func11 C2I
def B4W(f:B0B):Nat×Fn:=(42,⟨[.val false (.rs 75 A3P) false,.val false (.rs 75 A3P) false],[.val false .bool],fun x=>f x.1 x.2.1⟩)
theorem C8U{W0:A2p}:EF (cfg.withEq [(36,2010)]) [B0H W0] [(58,⟨[.t 5 false [.int .i64]],lt 11 57 [],false⟩)] f42 (B4W (B4I W0)):=fun _=>by kernel_rfl
theorem C8V:SQ (B4W A6K):=sF MO (C92 (l:= [(36,2010)]) E2 ⟨E4d,trivial⟩) (tc call36 C02 C6) func42 C8U
def B1G(f:B9K):Nat×Fn:=(93,⟨[.val false (.rs 5 (.int .u8)) false],[.new (.pair (.rs 5 (.int .u8)) Q0)],fun x=>f x.1⟩)
theorem C4n:EF cfg [] [(7,⟨[.t 3 false [.int .i64]],lt 8 20 [.t 4],true⟩),(58,⟨[.t 3 false [.int .i64],.t 4 false [.int .i64]],lt 8 20 [],false⟩),(116,⟨[],lt 8 8 [],false⟩)] f93 (B1G C2n):=fun _=>by kernel_rfl
theorem C4o:SQ (B1G B9L):=sF MO E2 C6 func93 C4n
def A40(f:A3f):Nat×Fn:=(115,⟨[.ptr (.pair (.rs 5 (.int .u8)) Q0)],[.val false (.int .i64)],fun x=>f x.1⟩)
theorem C4p:EF cfg [] [] f115 (A40 C0T):=fun _=>by kernel_rfl
theorem B1H:SQ (A40 A4j):=sF MO E2 C6 func115 C4p
def U4(f:P3):Nat×Fn:=(98,⟨[.ptr (.pair (.rs 5 (.int .u8)) Q0),.val false (.int .i64) false],[.val false (.int .i64)],fun x=>f x.1 x.2.1⟩)
theorem C3k{P9:A3f}:EF cfg [A40 P9] [] f98 (U4 (B8D P9)):=fun _=>by kernel_rfl
theorem A0s:SQ (U4 A0e):=sF MO E2 (tc call115 B1H C6) func98 C3k
def A4p(f:A5P):Nat×Fn:=(97,⟨[.ptr (.pair (.rs 5 (.int .u8)) Q0),.val false (.rs 3 (.int .i64)) false],[.val false (.int .i64)],fun x=>f x.1 x.2.1⟩)
theorem C7g{G8:P3}:EF cfg [U4 G8] [] f97 (A4p (C2q G8)):=fun _=>by kernel_rfl
theorem B2m:SQ (A4p A5Q):=sF MO E2 (tc call98 A0s C6) func97 C7g
def A41(f:A4l):Nat×Fn:=(114,⟨[.ptr (.pair (.rs 5 (.int .u8)) Q0),.val false (.int .i64) false],[.val false .bool],fun x=>f x.1 x.2.1⟩)
theorem C4q{G8:P3}:EF cfg [U4 G8] [] f114 (A41 (C0c G8)):=fun _=>by kernel_rfl
theorem B1I:SQ (A41 A9F):=sF MO E2 (tc call98 A0s C6) func114 C4q
def A5c(f:A0q):Nat×Fn:=(96,⟨[.ptr (.pair (.rs 5 (.int .u8)) Q0),.val false (.int .i64) false],[.val false (.sl 5 (.int .u8))],fun x=>f x.1 x.2.1⟩)
theorem C3l{P9:A3f}:EF cfg [A40 P9] [(58,⟨[.t 5 false [.own 100000000],.t 6 false [.int .i64],.b 1000 [.ro 5 (.int .u8),.int .i64,.int .i64],.r 100000000 5 (.int .u8)],lt 8 11 [.r 7,.r 17,.r 18],false⟩)] f96 (A5c (A9G P9)):=fun _=>by kernel_rfl
theorem B5F:SQ (A5c A20):=sF MO E2 (tc call115 B1H C6) func96 C3l
def A9g(f:A3I):Nat×Fn:=(166,⟨[.ptr (.pair (.rs 5 (.int .u8)) Q0)],[.val true B0u],fun x=>f x.1⟩)
theorem C3m{H1:T2}{N0:A0q}{O5:A5P}{G8:P3}{A0U:A4l}:EF cfg [A3w H1,A5c N0,A4p O5,U4 G8,A41 A0U] [(15,⟨[.t 4 false [.int .i64],.b 1000 [.ro 5 (.int .u8),.int .i64,.int .i64]],lt 17 19 [],true⟩),(31,⟨[.t 4 false [.int .i64],.b 1000 [.ro 5 (.int .u8),.int .i64,.int .i64]],lt 36 4 [],true⟩),(63,⟨[.b 3 [.int .i64,.int .i64,.int .i64,.nil],.b 1000 [.ro 5 (.int .u8),.int .i64,.int .i64]],lt 40 12 [.r 49],true⟩),(491,⟨[.t 21 false [.bool]],[.t 22,.t 23],true⟩),(1967,⟨[.t 24 false [.bool]],[.t 25,.t 26],true⟩)] f166 (A9g (A9H H1 N0 O5 G8 A0U)):=fun _=>by kernel_rfl
theorem C3n:SQ (A9g A3J):=sF MO E2 (tc call53 A6R (tc call96 B5F (tc call97 B2m (tc call98 A0s (tc call114 B1I C6))))) func166 C3m
def B2n(f:B9O):Nat×Fn:=(151,⟨[.ptr (.pair (.rs 5 (.int .u8)) Q0),.val false (.rs 9 .str) false],[.val false .str],fun x=>f x.1 x.2.1⟩)
theorem C7h{G8:P3}:EF cfg [U4 G8] [] f151 (B2n (C2r G8)):=fun _=>by kernel_rfl
theorem C7i:SQ (B2n B9P):=sF MO E2 (tc call98 A0s C6) func151 C7h
def B1J(f:B2S):Nat×Fn:=(94,⟨[.ptr (.pair (.rs 5 (.int .u8)) Q0)],[.val true C7n],fun x=>f x.1⟩)
theorem C4r{O5:A5P}{G8:P3}{A0U:A4l}{A2h:A7O}{B9W:B9O}:EF cfg [A4p O5,U4 G8,A41 A0U,B3h A2h,B2n B9W] [] f94 (B1J (C0d O5 G8 A0U A2h B9W)):=fun _=>by kernel_rfl
theorem C4s:SQ (B1J B2T):=sF MO E2 (tc call97 B2m (tc call98 A0s (tc call114 B1I (tc call128 C4O (tc call151 C7i C6))))) func94 C4r
def A9h(f:A5R):Nat×Fn:=(113,⟨[.ptr (.pair (.rs 5 (.int .u8)) Q0),.val false (.int .i64) false],[.val false (.sl 5 (.int .u8))],fun x=>f x.1 x.2.1⟩)
theorem C3o{A1G:A2c}{I7:U3}{A9j:B2S}{N0:A0q}{O5:A5P}{G8:P3}{B3p:B3U}{A22:A3I}:EF cfg [A8I A1G,A5b I7,B1J A9j,A5c N0,A4p O5,U4 G8,B8q B3p,A9g A22] [(250,⟨[.t 5 false [.own 100000000],.t 7 false [.int .i64],.t 8 false [.int .i64],.b 6 [.int .i64,.ro 150 D9],.b 1000 [.ro 5 (.int .u8),.int .i64,.int .i64],.r 100000000 5 (.int .u8)],lt 16 52 [.b 10,.r 29,.r 33,.r 40,.r 50,.r 55,.r 58,.r 62,.r 67,.r 49152,.r 131072,.r 147456,.r 200707,.r 204800,.r 266240,.r 274432,.t 9,.t 10],false⟩)] f113 (A9h (A9I A1G I7 A9j N0 O5 G8 B3p A22)):=fun _=>by kernel_rfl
theorem C3p:SQ (A9h A5S):=sF MO E2 (tc call11 C2J (tc call59 B1t (tc call94 C4s (tc call96 B5F (tc call97 B2m (tc call98 A0s (tc call165 D34 (tc call166 C3n C6)))))))) func113 C3o
def A7D(f:A3h):Nat×Fn:=(41,⟨[.val false (.rs 5 (.int .u8)) false],[.val false (.sl 5 (.int .u8)),.val false (.int .i64)],fun x=>f x.1⟩)
theorem C15{B9a:B9K}{G8:P3}{A5t:A5R}{A0U:A4l}{P9:A3f}:EF cfg [B1G B9a,U4 G8,A9h A5t,A41 A0U,A40 P9] [(15,⟨[.t 5 false [.own 40960],.b 32768 [.ro 5 (.int .u8),.int .i64,.int .i64],.r 40960 5 (.int .u8)],lt 10 11 [.x 20],true⟩)] f41 (A7D (A78 B9a G8 A5t A0U P9)):=fun _=>by kernel_rfl
theorem C16:SQ (A7D A27):=sF MO E2 (tc call93 C4o (tc call98 A0s (tc call113 C3p (tc call114 B1I (tc call115 B1H C6))))) func41 C15
abbrev A8J:List PK:= [.val false (.rs 5 (.int .u8)) false]
abbrev C2K:List RK:= [.val false .bool]
def D10(f:C1p):Nat×Fn:=(6,⟨A8J,C2K,fun x=>f x.1⟩)
def F_w_FnSpoken:Fn:=(D10 B6T).2
theorem D11(C5J:C5D)(A4H:B03)(B0n:B3K)(W0:A2p)(A3n:A3h)(B0S:B0B)(A2A:A8r):∀ x,(D70 cfg [D0d C5J,B4R A4H,B8l B0n,B0H W0,A7D A3n,B4W B0S,B6n A2A] (B1L []) 97 [.tmp 2] (f6.body.getD .skip) A8J C2K).fn x=B6S C5J A4H B0n W0 A3n B0S A2A x.1:=by intro x;kernel_rfl
theorem D12:A1R prog 6 F_w_FnSpoken:=sm MO E2 (tc call30 E2J (tc call33 C8J (tc call34 D2p (tc call36 C02 (tc call41 C16 (tc call42 C8V (tc call43 C7K C6))))))) func6 (by kernel_rfl) (by decide) (D11 C5E A6H B3L A2q A27 A6K A8s)
end
end Go.Proofs.YthnfghmjipikhaaGreatDoor.Ev
