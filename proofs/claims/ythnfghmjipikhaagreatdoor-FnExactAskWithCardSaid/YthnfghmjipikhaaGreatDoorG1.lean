/- Each function of the program does what its plain function says. -/
import Derived.Test.YthnfghmjipikhaaGreatDoorTy
import Derived.Test.YthnfghmjipikhaaGreatDoorPu
import Derived.Test.YthnfghmjipikhaaGreatDoorIns
import Derived.Test.YthnfghmjipikhaaGreatDoorLibT
import Derived.Test.YthnfghmjipikhaaGreatDoorChunk
set_option linter.unusedVariables false
set_option maxRecDepth 100000
namespace Go.Proofs.YthnfghmjipikhaaGreatDoor.Ev
open Tryz
noncomputable section
abbrev B7n:List PK:= [.val false (.int .i64) false]
abbrev B7o:List RK:= [.val false .str]
def B1T(f:A3S):Nat×Fn:=(132,⟨B7n,B7o,fun x=>f x.1⟩)
def B7p:Fn:=(B1T A6i).2
theorem B7q:A0O prog 132 B7p:=fun x y h=>by cases h
abbrev A1k:List PK:= [.val false (.sl 150 C1) false,.val false (.int .i64) false,.val false (.sl 150 C1) false]
abbrev A1l:List RK:= [.val false (.sl 150 C1)]
def S1(f:K1):Nat×Fn:=(194,⟨A1k,A1l,fun x=>f x.1 x.2.1 x.2.2.1⟩)
def A1m:Fn:=(S1 N3).2
theorem A1n:A0O prog 194 A1m:=B3C C1 (by decide)
abbrev A2P:List PK:= [.val false (.sl 150 C1) false,.val false (.int .i64) false]
abbrev A2Q:List RK:= [.val false (.sl 150 C1)]
def T6(f:K8):Nat×Fn:=(230,⟨A2P,A2Q,fun x=>f x.1 x.2.1⟩)
def A2R:Fn:=(T6 O3).2
theorem A2S:A0O prog 230 A2R:=B4u
abbrev B5q:List PK:= [.val false .str false,.val false .str false]
abbrev B5r:List RK:= [.val false (.sl 9 .str)]
def A5r(f:V1):Nat×Fn:=(231,⟨B5q,B5r,fun x=>f x.1 x.2.1⟩)
def B5s:Fn:=(A5r A5l).2
theorem B0a:A0O prog 231 B5s:=C1q
abbrev B8O:List PK:= [.val false .str false,.val false .str false]
abbrev B8P:List RK:= [.val false .str,.val false .str,.val false .bool]
def B2k(f:A2B):Nat×Fn:=(232,⟨B8O,B8P,fun x=>f x.1 x.2.1⟩)
def B8Q:Fn:=(B2k B2g).2
theorem B8R:A0O prog 232 B8Q:=C62
abbrev B7r:List PK:= [.val false .str false]
abbrev B7s:List RK:= [.val false (.int .i64),.val false (.fnc 999999999)]
def B1U(f:A17):Nat×Fn:=(233,⟨B7r,B7s,fun x=>f x.1⟩)
def B7t:Fn:=(B1U B17).2
theorem B7u:A0O prog 233 B7t:=C3e
abbrev B7v:List PK:= [.val false (.int .i64) false]
abbrev B7w:List RK:= [.val false .str]
def B1V(f:A3T):Nat×Fn:=(142,⟨B7v,B7w,fun x=>f x.1⟩)
def B80:Fn:=(B1V A3U).2
theorem B81:A0O prog 142 B80:=C3d
def B1W(f:A5O):Nat×Fn:=(125,⟨[.val true C1 false,.val false (.int .i64) false],[.val false (.int .i64)],fun x=>f x.1 x.2.1⟩)
theorem C1s:EF cfg [] [] f125 (B1W A7N):=fun _=>by kernel_rfl
theorem C1t:SQ (B1W V8):=sF MO F5 D7 func125 C1s
def B0B(f:A67):Nat×Fn:=(50,⟨[.val false (.rs 161 C1) false,.val false (.int .i64) false],[.val false (.int .i64)],fun x=>f x.1 x.2.1⟩)
theorem C0S{A3G:A5O}:EF cfg [B1W A3G] [(122,⟨[.t 1 false [.int .i64],.t 5 false [.int .i64]],lt 12 14 [],false⟩)] f50 (B0B (A68 A3G)):=fun _=>by kernel_rfl
theorem C0T:SQ (B0B A3V):=sF MO F5 (tc call125 C1t D7) func50 C0S
def B1a(f:A7O):Nat×Fn:=(9,⟨[.val true (.pair (.int .i64) (.rs 161 C1)) false,.val false (.int .i64) false],[.val false (.int .i64)],fun x=>f x.1 x.2.1⟩)
theorem C1u{A6L:A67}:EF cfg [B0B A6L] [] f9 (B1a (A7P A6L)):=fun _=>by kernel_rfl
theorem C1v:SQ (B1a A18):=sF MO F5 (tc call50 C0T D7) func9 C1u
def B4v(f:B2E):Nat×Fn:=(10,⟨[.val true A9g false,.val false (.int .i64) false],[.val false (.int .i64)],fun x=>f x.1 x.2.1⟩)
theorem C65:EF cfg [] [] f10 (B4v B4h):=fun _=>by kernel_rfl
theorem C66:SQ (B4v A91):=sF MO F5 D7 func10 C65
def A1D(f:O4):Nat×Fn:=(53,⟨[.val false (.int .i64) false,.val false (.int .i64) false,.val false (.int .i64) false],[.val false .bool],fun x=>f x.1 x.2.1 x.2.2.1⟩)
theorem C8J:EF cfg [] [] f53 (A1D B7I):=fun _=>by kernel_rfl
theorem A3h:SQ (A1D A0E):=sF MO F5 D7 func53 C8J
def B82(f:B18):Nat×Fn:=(173,⟨[.val true C1 false],[.val false (.int .i64)],fun x=>f x.1⟩)
theorem C8K:EF cfg [] [] f173 (B82 B3o):=fun _=>by kernel_rfl
theorem C8L:SQ (B82 A6j):=sF MO F5 D7 func173 C8K
def B0C(f:A2u):Nat×Fn:=(126,⟨[.val true (.pair (.int .i64) (.rs 150 C1)) false],[.val false (.int .i64)],fun x=>f x.1⟩)
theorem C3h{A9G:B18}:EF cfg [B82 A9G] [(58,⟨[.t 3 false [.int .i64],.t 4 false [.int .i64]],lt 5 15 [],false⟩)] f126 (B0C (B32 A9G)):=fun _=>by kernel_rfl
theorem B83:SQ (B0C A2v):=sF MO F5 (tc call173 C8L D7) func126 C3h
def A7o(f:A3B):Nat×Fn:=(51,⟨[.val true (.pair (.int .i64) (.rs 150 C1)) false],[.val false .bool],fun x=>f x.1⟩)
theorem C1w{G1:O4}{U3:A2u}:EF cfg [A1D G1,B0C U3] [] f51 (A7o (A5P G1 U3)):=fun _=>by kernel_rfl
theorem B5k:SQ (A7o V9):=sF MO F5 (tc call53 A3h (tc call126 B83 D7)) func51 C1w
def B4w(f:B2F):Nat×Fn:=(127,⟨[.val false .str false],[.val false .bool],fun x=>f x.1⟩)
theorem C67{G1:O4}:EF cfg [A1D G1] [(3,⟨[],lt 3 21 [],false⟩),(26,⟨[.t 3 false [.int .i64]],lt 4 20 [],false⟩)] f127 (B4w (B4i G1)):=fun _=>by kernel_rfl
theorem C68:SQ (B4w B2G):=sF MO F5 (tc call53 A3h D7) func127 C67
def B1b(f:A7R):Nat×Fn:=(128,⟨[.val false (.int .i64) false],[.val false (.int .i64)],fun x=>f x.1⟩)
theorem C20:EF cfg [] [] f128 (B1b B19):=fun _=>by kernel_rfl
theorem C21:SQ (B1b B1A):=sF MO F5 D7 func128 C20
def B2J(f:A6U):Nat×Fn:=(52,⟨[.val true A9g false],[.val false .bool],fun x=>f x.1⟩)
theorem C69{G1:O4}{B2L:B2F}{A7q:A7R}:EF cfg [A1D G1,B4w B2L,B1b A7q] [(3,⟨[],lt 4 10 [],false⟩)] f52 (B2J (B4j G1 B2L A7q)):=fun _=>by kernel_rfl
theorem B9W:SQ (B2J A92):=sF MO F5 (tc call53 A3h (tc call127 C68 (tc call128 C21 D7))) func52 C69
def A6t(f:A19):Nat×Fn:=(54,⟨[.val true (.pair (.int .i64) (.rs 150 C1)) false],[.val true A3R],fun x=>f x.1⟩)
theorem C3i:EF cfg [] [] f54 (A6t B33):=fun _=>by kernel_rfl
theorem B3D:SQ (A6t A4C):=sF MO F5 D7 func54 C3i
def B1c(f:A7S):Nat×Fn:=(205,⟨[],[.val false (.sl 150 C1)],fun x=>f⟩)
theorem C22:EF cfg [] [] f205 (B1c B5V):=fun _=>by kernel_rfl
theorem C23:SQ (B1c A7T):=sF MO F5 D7 func205 C22
def A8R(f:A4j):Nat×Fn:=(174,⟨[.val true (.pair (.int .i64) (.rs 150 C1)) false,.val true C1 false],[.val false (.int .i64),.val false .bool],fun x=>f x.1 x.2.1⟩)
theorem B8S{A7r:A7S}:EF (cfg.withEq [(150,1002)]) [B1c A7r] [(15,⟨[.t 7 false [.int .i64]],lt 37 10 (lt 11 25 [.b 9,.t 8,.t 9,.x 25]),false⟩),(122,⟨[.t 7 false [.int .i64],.t 8 false [.int .i64]],lt 37 10 (lt 11 25 [.b 9,.t 9,.x 25]),false⟩),(3913,⟨[.b 9 [.str,.str]],lt 20 13 [.x 25],true⟩)] f174 (A8R (A88 A7r)):=fun _=>by kernel_rfl
theorem B8T:SQ (A8R A4k):=sF MO (B9R (l:= [(150,1002)]) F5 ⟨D0F,trivial⟩) (tc call205 C23 D7) func174 B8S
def A58(f:A0m):Nat×Fn:=(175,⟨[.val false (.rs 5 (.int .u8)) false,.val false (.int .i64) false,.val false (.int .i64) false,.val false (.int .i64) false],[.val false (.sl 5 (.int .u8))],fun x=>f x.1 x.2.1 x.2.2.1 x.2.2.2.1⟩)
theorem B8U{G1:O4}:EF cfg [A1D G1] [(7,⟨[],lt 14 8 [],false⟩),(15,⟨[.t 3 false [.int .i64]],[.t 23,.t 24],true⟩),(31,⟨[.t 3 false [.int .i64]],[.t 25,.t 26],true⟩),(2047,⟨[.t 3 false [.int .i64],.t 9 false [.own 100003000],.r 100003000 5 (.int .u8)],lt 54 11 [.r 50,.r 61,.r 62],true⟩),(8188,⟨[.t 3 false [.int .i64],.t 9 false [.own 100003000],.r 100003000 5 (.int .u8)],lt 54 11 [.r 50,.r 61,.r 62],false⟩)] f175 (A58 (A89 G1)):=fun _=>by kernel_rfl
theorem B2l:SQ (A58 A0n):=sF MO F5 (tc call53 A3h D7) func175 B8U
def B3E(f:A9h):Nat×Fn:=(176,⟨[.val false (.int .i64) false],[.val false (.int .i64),.val false (.int .i64)],fun x=>f x.1⟩)
theorem C3j:EF cfg [] [] f176 (B3E B7J):=fun _=>by kernel_rfl
theorem C3k:SQ (B3E B34):=sF MO F5 D7 func176 C3j
def B0D(f:A4D):Nat×Fn:=(228,⟨[],[.val false (.sl 3 (.int .i64))],fun x=>f⟩)
theorem C3l:EF cfg [] [] f228 (B0D B7K):=fun _=>by kernel_rfl
theorem B84:SQ (B0D A9i):=sF MO F5 D7 func228 C3l
def B1d(f:A7U):Nat×Fn:=(229,⟨[],[.val false (.sl 3 (.int .i64))],fun x=>f⟩)
theorem C24{A0a:A4D}:EF cfg [B0D A0a] [(506,⟨[.t 2 false [.own 8],.t 3 false [.int .i64],.t 4 false [.int .i64],.t 5 false [.int .i64],.r 8 3 (.int .i64)],lt 9 28 [.t 6,.x 19,.x 36],false⟩),(32402,⟨[.t 2 false [.own 8],.t 3 false [.int .i64],.t 4 false [.int .i64],.t 6 false [.int .i64],.r 8 3 (.int .i64)],lt 13 24 [.x 19,.x 36],false⟩)] f229 (B1d (B1B A0a)):=fun _=>by kernel_rfl
theorem C25:SQ (B1d A5Q):=sF MO F5 (tc call228 B84 D7) func229 C24
def B85(f:B3p):Nat×Fn:=(206,⟨[.val false .str false],[.val false (.sl 5 (.int .u8))],fun x=>f x.1⟩)
theorem C8M{A0a:A4D}{A7s:A7U}:EF cfg [B0D A0a,B1d A7s] [(127,⟨[.t 5 false [.own 100000001],.t 6 false [.int .i64],.t 7 false [.int .i64],.r 100000001 5 (.int .u8)],lt 12 48 [.r 11,.r 52,.r 53,.r 100001000,.t 8,.x 23,.x 31,.x 39],true⟩),(1018,⟨[.t 5 false [.own 100000001],.t 6 false [.int .i64],.t 7 false [.int .i64],.t 8 false [.int .i64],.r 100000001 5 (.int .u8)],lt 12 48 [.r 11,.r 52,.r 53,.r 100001000,.x 23,.x 31,.x 39],false⟩),(130342,⟨[.t 5 false [.own 100001000],.t 6 false [.int .i64],.t 7 false [.int .i64],.r 100001000 5 (.int .u8)],lt 42 18 [.r 11,.r 52,.r 53,.r 100000001],false⟩)] f206 (B85 (B7L A0a A7s)):=fun _=>by kernel_rfl
theorem C8N:SQ (B85 B3q):=sF MO F5 (tc call228 B84 (tc call229 C25 D7)) func206 C8M
def A8S(f:A4m):Nat×Fn:=(177,⟨[.val false (.rs 5 (.int .u8)) false,.val false .str false],[.val false (.sl 5 (.int .u8))],fun x=>f x.1 x.2.1⟩)
theorem B8V{O7:A0m}{B4J:B3p}:EF cfg [A58 O7,B85 B4J] [] f177 (A8S (A8A O7 B4J)):=fun _=>by kernel_rfl
theorem B8W:SQ (A8S A2D):=sF MO F5 (tc call175 B2l (tc call206 C8N D7)) func177 B8V
def A5s(f:A2e):Nat×Fn:=(207,⟨[.val true (.pair (.int .i64) (.rs 150 C1)) false],[.val true (.pair (.int .i64) (.rs 150 C1))],fun x=>f x.1⟩)
theorem B5t{U3:A2u}:EF cfg [B0C U3] [(12,⟨[.b 1 [.int .i64,.ro 150 C1]],lt 3 13 [],false⟩)] f207 (A5s (A5m U3)):=fun _=>by kernel_rfl
theorem B5u:SQ (A5s A2f):=sF MO F5 (tc call126 B83 D7) func207 B5t
def A5t(f:A2g):Nat×Fn:=(178,⟨[.val true (.pair (.int .i64) (.rs 150 C1)) false,.val true C1 false],[.val true (.pair (.int .i64) (.rs 150 C1))],fun x=>f x.1 x.2.1⟩)
theorem B5v{A2q:A2e}:EF cfg [A5s A2q] [] f178 (A5t (A5n A2q)):=fun _=>by kernel_rfl
theorem B5w:SQ (A5t A2h):=sF MO F5 (tc call207 B5u D7) func178 B5v
def A33(f:U1):Nat×Fn:=(129,⟨[.val true (.pair (.int .i64) (.rs 150 C1)) false,.val true C1 false,.val false (.int .i64) false],[.val false (.sl 5 (.int .u8)),.val true (.pair (.int .i64) (.rs 150 C1))],fun x=>f x.1 x.2.1 x.2.2.1⟩)
theorem B3F{W8:A3B}{G1:O4}{P8:A19}{A5B:A4j}{O7:A0m}{B0K:A9h}{A2T:A4m}{A2r:A2g}:EF cfg [A7o W8,A1D G1,A6t P8,A8R A5B,A58 O7,B3E B0K,A8S A2T,A5t A2r] [(7,⟨[],lt 16 8 [],false⟩),(31,⟨[],lt 32 5 [],false⟩),(62,⟨[.t 36 false [.bool]],lt 32 4 [],true⟩),(255,⟨[.t 13 false [.own 100003000],.r 100003000 5 (.int .u8)],lt 51 6 [.r 208896,.r 233472],true⟩)] f129 (A33 (A2w W8 G1 P8 A5B O7 B0K A2T A2r)):=fun _=>by kernel_rfl
theorem B3G:SQ (A33 P4):=sF MO F5 (tc call51 B5k (tc call53 A3h (tc call54 B3D (tc call174 B8T (tc call175 B2l (tc call176 C3k (tc call177 B8W (tc call178 B5w D7)))))))) func129 B3F
def A8T(f:A4n):Nat×Fn:=(130,⟨[.val false (.int .i64) false],[.val false .str],fun x=>f x.1⟩)
theorem B8a:EF cfg [] [] f130 (A8T B2h):=fun _=>by kernel_rfl
theorem B8b:SQ (A8T A8B):=sF MO F5 D7 func130 B8a
def B1e(f:A7V):Nat×Fn:=(131,⟨[.val false (.int .i64) false],[.val false .str],fun x=>f x.1⟩)
theorem C26:EF cfg [] [] f131 (B1e B5W):=fun _=>by kernel_rfl
theorem C27:SQ (B1e B1C):=sF MO F5 D7 func131 C26
def A4Q(f:A1T):Nat×Fn:=(132,⟨[.val false (.int .i64) false],[.val false .str],fun x=>f x.1⟩)
theorem B50{A3j:A3S}:EF cfg [B1T A3j] [] f132 (A4Q (A0F A3j)):=fun _=>by kernel_rfl
theorem B51:SQ (A4Q A4F):=sF MO F5 (tc call132 B7q D7) func132 B50
def A4R(f:A1U):Nat×Fn:=(132,⟨[.val false (.int .i64) false],[.val false .str],fun x=>f x.1⟩)
theorem B52{A1q:A1T}:EF cfg [A4Q A1q] [] f132 (A4R (A93 A1q)):=fun _=>by kernel_rfl
theorem B53:SQ (A4R A4G):=sF MO F5 (tc call132 B51 D7) func132 B52
def A4S(f:A1V):Nat×Fn:=(132,⟨[.val false (.int .i64) false],[.val false .str],fun x=>f x.1⟩)
theorem B54{A1r:A1U}:EF cfg [A4R A1r] [] f132 (A4S (A94 A1r)):=fun _=>by kernel_rfl
theorem B55:SQ (A4S A4H):=sF MO F5 (tc call132 B53 D7) func132 B54
def A4T(f:A1W):Nat×Fn:=(132,⟨[.val false (.int .i64) false],[.val false .str],fun x=>f x.1⟩)
theorem B56{A1s:A1V}:EF cfg [A4S A1s] [] f132 (A4T (A95 A1s)):=fun _=>by kernel_rfl
theorem B57:SQ (A4T A4I):=sF MO F5 (tc call132 B55 D7) func132 B56
def A4U(f:A1a):Nat×Fn:=(132,⟨[.val false (.int .i64) false],[.val false .str],fun x=>f x.1⟩)
theorem B58{A1t:A1W}:EF cfg [A4T A1t] [] f132 (A4U (A96 A1t)):=fun _=>by kernel_rfl
theorem B59:SQ (A4U A4J):=sF MO F5 (tc call132 B57 D7) func132 B58
def A4V(f:A1b):Nat×Fn:=(132,⟨[.val false (.int .i64) false],[.val false .str],fun x=>f x.1⟩)
theorem B5A{A1u:A1a}:EF cfg [A4U A1u] [] f132 (A4V (A97 A1u)):=fun _=>by kernel_rfl
theorem B5B:SQ (A4V A4K):=sF MO F5 (tc call132 B59 D7) func132 B5A
def A4W(f:A1c):Nat×Fn:=(132,⟨[.val false (.int .i64) false],[.val false .str],fun x=>f x.1⟩)
theorem B5C{A1v:A1b}:EF cfg [A4V A1v] [] f132 (A4W (A98 A1v)):=fun _=>by kernel_rfl
theorem B5D:SQ (A4W A4L):=sF MO F5 (tc call132 B5B D7) func132 B5C
def A4a(f:A1d):Nat×Fn:=(132,⟨[.val false (.int .i64) false],[.val false .str],fun x=>f x.1⟩)
theorem B5E{A1w:A1c}:EF cfg [A4W A1w] [] f132 (A4a (A99 A1w)):=fun _=>by kernel_rfl
theorem B5F:SQ (A4a A4M):=sF MO F5 (tc call132 B5D D7) func132 B5E
def A4b(f:A1e):Nat×Fn:=(132,⟨[.val false (.int .i64) false],[.val false .str],fun x=>f x.1⟩)
theorem B5G{A20:A1d}:EF cfg [A4a A20] [] f132 (A4b (A9A A20)):=fun _=>by kernel_rfl
theorem B5H:SQ (A4b A4N):=sF MO F5 (tc call132 B5F D7) func132 B5G
def B3H(f:A9j):Nat×Fn:=(132,⟨[.val false (.int .i64) false],[.val false .str],fun x=>f x.1⟩)
theorem C3m{A21:A1e}:EF cfg [A4b A21] [] f132 (B3H (B7M A21)):=fun _=>by kernel_rfl
theorem C3n:SQ (B3H B35):=sF MO F5 (tc call132 B5H D7) func132 C3m
def B0E(f:A69):Nat×Fn:=(56,⟨[.val true A9g false],[.val false (.sl 150 C1)],fun x=>f x.1⟩)
theorem C0U{A22:A6U}{A5C:A4n}{A7t:A7V}{B0L:A9j}:EF cfg [B2J A22,A8T A5C,B1e A7t,B3H B0L] [] f56 (B0E (A9k A22 A5C A7t B0L)):=fun _=>by kernel_rfl
theorem C0V:SQ (B0E A6A):=sF MO F5 (tc call52 B9W (tc call130 B8b (tc call131 C27 (tc call132 C3n D7)))) func56 C0U
def B1f(f:A7W):Nat×Fn:=(133,⟨[.val true (.pair (.int .i64) (.pair (.int .i64) (.pair (.int .i64) (.rs 5 (.int .u8))))) false],[.val false .bool],fun x=>f x.1⟩)
theorem C28{G1:O4}:EF cfg [A1D G1] [] f133 (B1f (B1D G1)):=fun _=>by kernel_rfl
theorem C29:SQ (B1f A7a):=sF MO F5 (tc call53 A3h D7) func133 C28
def B3I(f:A9l):Nat×Fn:=(134,⟨[.val false (.rs 5 (.int .u8)) false,.val false (.int .i64) false,.val false (.int .i64) false],[.val false (.sl 5 (.int .u8))],fun x=>f x.1 x.2.1 x.2.2.1⟩)
theorem C3o{G1:O4}:EF cfg [A1D G1] [(7,⟨[.t 1 false [.int .i64]],[.t 12,.t 13],true⟩),(250,⟨[.t 7 false [.own 100001000],.t 8 false [.int .i64],.r 100001000 5 (.int .u8)],lt 20 13 [.r 11,.r 31,.r 32],false⟩)] f134 (B3I (B36 G1)):=fun _=>by kernel_rfl
theorem C3p:SQ (B3I A9m):=sF MO F5 (tc call53 A3h D7) func134 C3o
def A6I(f:W0):Nat×Fn:=(59,⟨[.val true (.pair (.int .i64) (.pair (.int .i64) (.pair (.int .i64) (.rs 5 (.int .u8))))) false],[.val false (.sl 5 (.int .u8))],fun x=>f x.1⟩)
theorem C0W{A7u:A7W}{A71:A9l}:EF cfg [B1f A7u,B3I A71] [] f59 (A6I (A9n A7u A71)):=fun _=>by kernel_rfl
theorem B4E:SQ (A6I W4):=sF MO F5 (tc call133 C29 (tc call134 C3p D7)) func59 C0W
def A8U(f:A4o):Nat×Fn:=(57,⟨[.val false (.rs 82 M8) false],[.val false (.sl 5 (.int .u8))],fun x=>f x.1⟩)
theorem B8c{N6:W0}:EF cfg [A6I N6] [(58,⟨[.t 3 false [.own 100000000],.t 4 false [.int .i64],.r 100000000 5 (.int .u8)],lt 6 13 [.r 5,.r 18,.r 73728],false⟩)] f57 (A8U (A8C N6)):=fun _=>by kernel_rfl
theorem B8d:SQ (A8U A4p):=sF MO F5 (tc call59 B4E D7) func57 B8c
def B86(f:B3r):Nat×Fn:=(58,⟨[.val false (.int .i64) false,.val false .bool false,.val false (.rs 5 (.int .u8)) false,.val false (.int .i64) false],[.val false (.sl 82 M8)],fun x=>f x.1 x.2.1 x.2.2.1 x.2.2.2.1⟩)
theorem C8O{G1:O4}:EF cfg [A1D G1] [(15,⟨[.t 3 false [.int .i64]],[.t 18,.t 19],true⟩),(31,⟨[.t 3 false [.int .i64]],[.t 20,.t 21],true⟩),(506,⟨[.t 9 false [.own 100002000],.t 10 false [.int .i64],.r 100002000 82 M8],lt 22 42 [.b 11,.r 13,.r 53,.r 58,.r 62,.r 63,.t 11,.t 12],false⟩),(1012,⟨[],lt 22 8 [],false⟩),(16201,⟨[.b 11 [.int .i64,.int .i64,.int .i64,.nil]],lt 35 5 [],true⟩),(64807,⟨[.t 12 false [.int .i64],.b 11 [.int .i64,.int .i64,.int .i64,.nil]],lt 43 10 [],true⟩)] f58 (B86 (B7N G1)):=fun _=>by kernel_rfl
theorem C8P:SQ (B86 B3s):=sF MO F5 (tc call53 A3h D7) func58 C8O
def A26(f:A09):Nat×Fn:=(55,⟨[.val true (.pair (.int .i64) (.rs 150 C1)) false,.val false (.rs 150 C1) false],[.val false (.sl 5 (.int .u8)),.val true (.pair (.int .i64) (.rs 150 C1))],fun x=>f x.1 x.2.1⟩)
theorem B2R{P8:A19}{R1:U1}:EF cfg [A6t P8,A33 R1] [(15,⟨[.t 6 false [.own 100000000],.b 7 [.int .i64,.ro 150 C1],.r 100000000 5 (.int .u8)],lt 14 27 (lt 8 4 [.b 11,.r 12,.r 39,.r 61441,.r 143360]),true⟩),(122,⟨[.t 6 false [.own 100000000],.t 8 false [.int .i64],.b 7 [.int .i64,.ro 150 C1],.r 100000000 5 (.int .u8)],lt 14 27 (lt 9 3 [.b 11,.r 12,.r 39,.r 61441,.r 143360]),false⟩),(3913,⟨[.t 9 false [.int .i64]],lt 21 6 [],true⟩)] f55 (A26 (A25 P8 R1)):=fun _=>by kernel_rfl
theorem B2S:SQ (A26 A0A):=sF MO F5 (tc call54 B3D (tc call129 B3G D7)) func55 B2R
def B1g(f:A5R):Nat×Fn:=(135,⟨[.val true C1 false],[.val true C1],fun x=>f x.1⟩)
theorem C2A:EF cfg [] [] f135 (B1g B1E):=fun _=>by kernel_rfl
theorem C2B:SQ (B1g A7b):=sF MO F5 D7 func135 C2A
def B0F(f:A6B):Nat×Fn:=(60,⟨[.val false (.rs 161 C1) false],[.val false (.sl 150 C1)],fun x=>f x.1⟩)
theorem C0a{A3H:A5R}:EF cfg [B1g A3H] [(58,⟨[.t 3 false [.own 7],.t 4 false [.int .i64],.r 7 150 C1],lt 8 14 [.x 21],false⟩)] f60 (B0F (A9p A3H)):=fun _=>by kernel_rfl
theorem C0b:SQ (B0F A6C):=sF MO F5 (tc call135 C2B D7) func60 C0a
def B1h(f:A7c):Nat×Fn:=(12,⟨[.val true (.pair (.int .i64) (.rs 161 C1)) false],[.val true A3R],fun x=>f x.1⟩)
theorem C2C{A6M:A6B}:EF cfg [B0F A6M] [] f12 (B1h (B1F A6M)):=fun _=>by kernel_rfl
theorem C2D:SQ (B1h A5S):=sF MO F5 (tc call60 C0b D7) func12 C2C
def B5I(f:B2H):Nat×Fn:=(13,⟨[.val true A9g false],[.val true A9g],fun x=>f x.1⟩)
theorem C6A:EF cfg [] [] f13 (B5I B4k):=fun _=>by kernel_rfl
theorem C6B:SQ (B5I A9B):=sF MO F5 D7 func13 C6A
def B1i(f:A7d):Nat×Fn:=(14,⟨[.val false (.rs 5 (.int .u8)) false],[.val false (.sl 5 (.int .u8))],fun x=>f x.1⟩)
theorem C2E:EF cfg [] [(58,⟨[.t 3 false [.own 7],.t 4 false [.int .i64],.r 7 5 (.int .u8)],lt 8 13 [.x 20],false⟩)] f14 (B1i B1G):=fun _=>by kernel_rfl
theorem C2F:SQ (B1i A5T):=sF MO F5 D7 func14 C2E
def A1E(f:Q4):Nat×Fn:=(61,⟨[.val false (.int .i64) false,.val false (.int .i64) false,.val false (.int .i64) false],[.val false .bool],fun x=>f x.1 x.2.1 x.2.2.1⟩)
theorem C2G:EF cfg [] [] f61 (A1E B5a):=fun _=>by kernel_rfl
theorem A5c:SQ (A1E A1A):=sF MO F5 D7 func61 C2G
def A2p(f:V2):Nat×Fn:=(136,⟨[.val false (.int .i64) false],[.val false .str,.val false (.int .i64)],fun x=>f x.1⟩)
theorem B60:EF cfg [] [] f136 (A2p A5o):=fun _=>by kernel_rfl
theorem B0b:SQ (A2p A0h):=sF MO F5 D7 func136 B60
def B87(f:B3t):Nat×Fn:=(137,⟨[.val false .str false],[.val false .bool],fun x=>f x.1⟩)
theorem C8Q{H8:Q4}:EF cfg [A1E H8] [(3,⟨[],lt 3 30 [],false⟩),(26,⟨[.t 3 false [.int .i64]],lt 4 29 [],false⟩)] f137 (B87 (B7O H8)):=fun _=>by kernel_rfl
theorem C8R:SQ (B87 B3u):=sF MO F5 (tc call61 A5c D7) func137 C8Q
def B2K(f:A6V):Nat×Fn:=(62,⟨[.val true A9g false],[.val false .bool],fun x=>f x.1⟩)
theorem C6C{H8:Q4}{P0:V2}{B4K:B3t}:EF cfg [A1E H8,A2p P0,B87 B4K] [] f62 (B2K (B4l H8 P0 B4K)):=fun _=>by kernel_rfl
theorem B9a:SQ (B2K A9C):=sF MO F5 (tc call61 A5c (tc call136 B0b (tc call137 C8R D7))) func62 C6C
def B0G(f:A1B):Nat×Fn:=(179,⟨[.val true C1 false],[.val false (.int .i64)],fun x=>f x.1⟩)
theorem C3q:EF cfg [] [] f179 (B0G B7P):=fun _=>by kernel_rfl
theorem B88:SQ (B0G A6l):=sF MO F5 D7 func179 C3q
def B3J(f:A9r):Nat×Fn:=(138,⟨[.val true (.pair (.int .i64) (.rs 150 C1)) false],[.val false (.int .i64)],fun x=>f x.1⟩)
theorem C3r{R2:A1B}:EF cfg [B0G R2] [(58,⟨[.t 3 false [.int .i64],.t 9 false [.int .i64]],lt 10 8 [.b 5,.t 5],false⟩)] f138 (B3J (B7Q R2)):=fun _=>by kernel_rfl
theorem C3s:SQ (B3J B7R):=sF MO F5 (tc call179 B88 D7) func138 C3r
def A7p(f:A3C):Nat×Fn:=(63,⟨[.val true (.pair (.int .i64) (.rs 150 C1)) false],[.val false .bool],fun x=>f x.1⟩)
theorem C2H{H8:Q4}{B0M:A9r}:EF cfg [A1E H8,B3J B0M] [] f63 (A7p (B5b H8 B0M)):=fun _=>by kernel_rfl
theorem B5l:SQ (A7p A5U):=sF MO F5 (tc call61 A5c (tc call138 C3s D7)) func63 C2H
def K6(f:G8):Nat×Fn:=(139,⟨[.val false (.rs 150 C1) false],[.val false (.sl 150 C1)],fun x=>f x.1⟩)
theorem A27:EF cfg [] [] f139 (K6 O0):=fun _=>by kernel_rfl
theorem T0:SQ (K6 H6):=sF MO F5 D7 func139 A27
def A59(f:A0o):Nat×Fn:=(64,⟨[.val true (.pair (.int .i64) (.rs 150 C1)) false],[.val true A3R],fun x=>f x.1⟩)
theorem B8e{E4:G8}:EF cfg [K6 E4] [] f64 (A59 (A8D E4)):=fun _=>by kernel_rfl
theorem B2m:SQ (A59 A2E):=sF MO F5 (tc call139 T0 D7) func64 B8e
def A6u(f:A3a):Nat×Fn:=(195,⟨[.ptr A3R],[],fun x=>f x.1⟩)
theorem B89{E4:G8}{R2:A1B}:EF cfg [K6 E4,B0G R2] [(14,⟨[.t 2 false [.int .i64],.t 14 false [.int .i64]],lt 15 10 [.b 4,.t 3,.t 4,.t 35,.x 17],false⟩)] f195 (A6u (A6m E4 R2)):=fun _=>by kernel_rfl
theorem B8A:SQ (A6u A1C):=sF MO F5 (tc call139 T0 (tc call179 B88 D7)) func195 B89
def A8V(f:A4r):Nat×Fn:=(161,⟨[.ptr A3R,.val true C1 false],[],fun x=>f x.1 x.2.1⟩)
theorem B8f{K4:K1}{A3k:A3a}:EF cfg [S1 K4,A6u A3k] [] f161 (A8V (A8E K4 A3k)):=fun _=>by kernel_rfl
theorem B8g:SQ (A8V A4s):=sF MO F5 (tc call194 A1n (tc call195 B8A D7)) func161 B8f
def N5(f:K2):Nat×Fn:=(208,⟨[.val false (.rs 30 (.sl 150 C1)) false],[.val false (.sl 150 C1)],fun x=>f x.1⟩)
theorem A1o{K9:K8}:EF cfg [T6 K9] [(7,⟨[.t 3 false [.int .i64]],lt 9 12 [.t 5,.t 22],true⟩),(58,⟨[.t 3 false [.int .i64],.t 11 false [.int .i64]],lt 12 9 [.t 5,.t 22],false⟩),(250,⟨[.t 6 false [.own 100002000],.t 27 false [.int .i64],.r 100002000 150 C1],lt 28 7 [.r 33,.r 102400,.t 8],false⟩)] f208 (N5 (N4 K9)):=fun _=>by kernel_rfl
theorem A1p:SQ (N5 K3):=sF MO F5 (tc call230 A2S D7) func208 A1o
def A5u(f:A2j):Nat×Fn:=(209,⟨[],[.val false (.sl 150 C1)],fun x=>f⟩)
theorem B61{P1:V1}{A0s:A2B}:EF cfg [A5r P1,B2k A0s] [(58,⟨[.t 1 false [.own 100000000],.t 9 false [.int .i64],.r 100000000 150 C1],lt 10 16 (lt 3 4 [.r 23,.r 24,.x 11]),false⟩)] f209 (A5u (B0W P1 A0s)):=fun _=>by kernel_rfl
theorem B62:SQ (A5u A2k):=sF MO F5 (tc call231 B0a (tc call232 B8R D7)) func209 B61
def A5A(f:A0p):Nat×Fn:=(181,⟨[.val false (.sl 5 (.int .u8)) false,.val false (.int .i64) false,.val false (.int .i64) false,.val false (.int .i64) false],[.val false (.sl 5 (.int .u8))],fun x=>f x.1 x.2.1 x.2.2.1 x.2.2.2.1⟩)
theorem B8h:EF cfg [] [(255,⟨[.t 0 false [.own 100000000],.t 3 false [.int .i64],.r 100000000 5 (.int .u8)],lt 41 11 [.r 37,.r 48,.r 49],true⟩),(1020,⟨[.t 0 false [.own 100000000],.t 3 false [.int .i64],.r 100000000 5 (.int .u8)],lt 41 11 [.r 37,.r 48,.r 49],false⟩)] f181 (A5A A8G):=fun _=>by kernel_rfl
theorem B2n:SQ (A5A A03):=sF MO F5 D7 func181 B8h
def B3K(f:A9s):Nat×Fn:=(182,⟨[.val false (.int .i64) false],[.val false (.int .i64),.val false (.int .i64)],fun x=>f x.1⟩)
theorem C3t:EF cfg [] [] f182 (B3K B7S):=fun _=>by kernel_rfl
theorem C3u:SQ (B3K B37):=sF MO F5 D7 func182 C3t
def B1j(f:A7e):Nat×Fn:=(210,⟨[],[.val false (.pa 257 A16)],fun x=>f⟩)
theorem C2I{P1:V1}{A0G:A17}:EF (cfg.withAr [(247,257,246)]) [A5r P1,B1U A0G] [(7,⟨[.r 1 247 A16],lt 7 16 [.r 32768,.t 2,.t 3,.x 12,.x 20],true⟩),(58,⟨[.t 9 false [.int .i64],.r 1 247 A16],lt 10 13 [.t 2,.t 3,.x 12,.x 20],false⟩),(250,⟨[.t 4 false [.int .i64],.t 5 false [.int .i64],.r 1 247 A16],lt 23 22 [.t 6,.x 33,.x 40],false⟩),(32038,⟨[.t 4 false [.int .i64],.t 29 false [.int .i64],.r 1 247 A16],lt 30 15 [.t 6,.x 33,.x 40],false⟩)] f210 (B1j (B5c P1 A0G)):=fun _=>by kernel_rfl
theorem C2J:SQ (B1j A5V):=sF MO (B2B (l:= [(247,257,246)]) F5 ⟨tA t247 ⟨true,A16,16,[(0,1,false),(1,1,false)]⟩ underlying247,trivial⟩) (tc call231 B0a (tc call233 B7u D7)) func210 C2I
def B1k(f:A7f):Nat×Fn:=(211,⟨[.val false (.pa 257 A16) false,.val false .str false],[.val false (.int .i64)],fun x=>f x.1 x.2.1⟩)
theorem C2K:EF (cfg.withAr [(247,257,246)]) [] [(7,⟨[.t 5 false [.int .i64]],lt 6 17 [],true⟩),(58,⟨[.t 5 false [.int .i64],.t 6 false [.int .i64]],lt 7 16 [],false⟩)] f211 (B1k B1H):=fun _=>by kernel_rfl
theorem C2L:SQ (B1k A7g):=sF MO (B2B (l:= [(247,257,246)]) F5 ⟨tA t247 ⟨true,A16,16,[(0,1,false),(1,1,false)]⟩ underlying247,trivial⟩) D7 func211 C2K
def B8B(f:B3v):Nat×Fn:=(212,⟨[.val false (.pa 257 A16) false,.val false (.sl 5 (.int .u8)) false,.val false .str false],[.val false (.sl 5 (.int .u8))],fun x=>f x.1 x.2.1 x.2.2.1⟩)
theorem C8S:EF (cfg.withAr [(247,257,246)]) [] [(7,⟨[.t 1 false [.own 100000001],.t 7 false [.int .i64],.t 8 false [.int .i64],.r 100000001 5 (.int .u8)],lt 12 43 [.b 10,.r 47,.r 48,.r 1100,.r 100001000,.t 9,.t 10],true⟩),(58,⟨[.t 1 false [.own 100000001],.t 7 false [.int .i64],.t 8 false [.int .i64],.t 9 false [.int .i64],.r 100000001 5 (.int .u8)],lt 12 43 [.b 10,.r 47,.r 48,.r 1100,.r 100001000,.t 10],false⟩),(14926,⟨[.t 1 false [.own 100001000],.t 7 false [.int .i64],.t 8 false [.int .i64],.r 100001000 5 (.int .u8)],lt 37 18 [.r 47,.r 48,.r 1100,.r 100000001],false⟩)] f212 (B8B B7U):=fun _=>by kernel_rfl
theorem C8T:SQ (B8B B3w):=sF MO (B2B (l:= [(247,257,246)]) F5 ⟨tA t247 ⟨true,A16,16,[(0,1,false),(1,1,false)]⟩ underlying247,trivial⟩) D7 func212 C8S
def A8W(f:A4v):Nat×Fn:=(183,⟨[.val false (.sl 5 (.int .u8)) false,.val false .str false],[.val false (.sl 5 (.int .u8))],fun x=>f x.1 x.2.1⟩)
theorem B8i{O8:A0p}{A7v:A7e}{A7w:A7f}{B4L:B3v}:EF cfg [A5A O8,B1j A7v,B1k A7w,B8B B4L] [] f183 (A8W (A8H O8 A7v A7w B4L)):=fun _=>by kernel_rfl
theorem B8j:SQ (A8W A2H):=sF MO F5 (tc call181 B2n (tc call210 C2J (tc call211 C2L (tc call212 C8T D7)))) func183 B8i
def V0(f:A4t):Nat×Fn:=(180,⟨[.val true (.pair (.int .i64) (.rs 150 C1)) false,.val true C1 false],[.val false (.int .i64),.val false .bool],fun x=>f x.1 x.2.1⟩)
theorem A7A{K5:K2}{A2s:A2j}:EF (cfgR.withEq [(150,1002)]) [N5 K5,A5u A2s] [(7,⟨[.t 6 false [.int .i64]],lt 25 12 (lt 7 16 [.b 8,.r 12,.r 40960,.r 57344,.x 18]),false⟩),(58,⟨[.t 6 false [.int .i64],.t 15 false [.int .i64]],lt 25 12 (lt 16 7 [.b 8,.t 7,.t 8,.x 18]),false⟩)] f180 (V0 (A8F K5 A2s)):=fun _=>by kernel_rfl
theorem A7B:SQ (V0 A4u):=sF MO (B9R (l:= [(150,1002)]) C9q ⟨D0F,trivial⟩) (tc call208 A1p (tc call209 B62 D7)) func180 A7A
def A8a(f:A2I):Nat×Fn:=(140,⟨[.ptr A3R,.val false (.sl 5 (.int .u8)) false,.val true C1 false,.val false (.int .i64) false],[.val false (.sl 5 (.int .u8))],fun x=>f x.1 x.2.1 x.2.2.1 x.2.2.2.1⟩)
theorem B8k{A5D:A4r}{A5E:A4t}{O8:A0p}{B0N:A9s}{A2U:A4v}:EF cfg [A8V A5D,V0 A5E,A5A O8,B3K B0N,A8W A2U] [(7,⟨[],lt 21 5 [],false⟩),(63,⟨[.t 1 false [.own 100001000],.r 100001000 5 (.int .u8)],lt 39 6 [.r 159744,.r 184320],true⟩)] f140 (A8a (A8I A5D A5E O8 B0N A2U)):=fun _=>by kernel_rfl
theorem B8l:SQ (A8a A04):=sF MO F5 (tc call161 B8g (tc call180 A7B (tc call181 B2n (tc call182 C3u (tc call183 B8j D7))))) func140 B8k
def A8b(f:A4w):Nat×Fn:=(65,⟨[.val true (.pair (.int .i64) (.rs 150 C1)) false,.val false (.rs 150 C1) false],[.val false (.sl 5 (.int .u8)),.val true A3R],fun x=>f x.1 x.2.1⟩)
theorem B8m{W9:A3C}{O9:A0o}{A07:A2I}:EF cfg [A7p W9,A59 O9,A8a A07] [(31,⟨[.t 7 false [.own 100000001],.b 6 [.int .i64,.own 100000000],.r 100000000 150 C1,.r 100000001 5 (.int .u8)],lt 17 14 [.b 9,.r 53249,.r 122880,.r 124929,.t 9,.t 10],true⟩),(250,⟨[.t 7 false [.own 100000001],.t 19 false [.int .i64],.b 6 [.int .i64,.own 100000000],.r 100000000 150 C1,.r 100000001 5 (.int .u8)],lt 20 11 [.b 9,.r 53249,.r 122880,.r 124929,.t 9,.t 10],false⟩)] f65 (A8b (A8J W9 O9 A07)):=fun _=>by kernel_rfl
theorem B8n:SQ (A8b A50):=sF MO F5 (tc call63 B5l (tc call64 B2m (tc call140 B8l D7))) func65 B8m
def B0H(f:A6D):Nat×Fn:=(141,⟨[.val false (.int .i64) false],[.val false .str],fun x=>f x.1⟩)
theorem C0c:EF (cfg.withAr [(211,6,9)]) [] [] f141 (B0H B40):=fun _=>by kernel_rfl
theorem C0d:SQ (B0H A9u):=sF MO (B2B (l:= [(211,6,9)]) F5 ⟨tA t211 ⟨false,.str,16,[]⟩ underlying211,trivial⟩) D7 func141 C0c
def B0I(f:A6E):Nat×Fn:=(66,⟨[.val true A9g false],[.val false (.sl 150 C1)],fun x=>f x.1⟩)
theorem C0e{A23:A6V}{P0:V2}{A6N:A6D}{A3l:A3T}:EF cfg [B2K A23,A2p P0,B0H A6N,B1V A3l] [] f66 (B0I (A9v A23 P0 A6N A3l)):=fun _=>by kernel_rfl
theorem C0f:SQ (B0I A6F):=sF MO F5 (tc call62 B9a (tc call136 B0b (tc call141 C0d (tc call142 B81 D7)))) func66 C0e
def B3L(f:B00):Nat×Fn:=(145,⟨[.val false (.sl 5 (.int .u8)) false,.val false (.int .i64) false,.val false (.int .i64) false],[.val false (.sl 5 (.int .u8))],fun x=>f x.1 x.2.1 x.2.2.1⟩)
theorem C3v:EF cfg [] [(58,⟨[.t 0 false [.own 100000000],.t 7 false [.int .i64],.r 100000000 5 (.int .u8)],lt 12 13 [.r 23,.r 24,.r 1000],false⟩)] f145 (B3L B38):=fun _=>by kernel_rfl
theorem C3w:SQ (B3L B01):=sF MO F5 D7 func145 C3v
def A6J(f:W6):Nat×Fn:=(69,⟨[.val false (.sl 5 (.int .u8)) false,.val true (.pair (.int .i64) (.pair (.int .i64) (.pair (.int .i64) (.rs 5 (.int .u8))))) false],[.val false (.sl 5 (.int .u8))],fun x=>f x.1 x.2.1⟩)
theorem C0g{A72:B00}:EF cfg [B3L A72] [] f69 (A6J (B02 A72)):=fun _=>by kernel_rfl
theorem B4F:SQ (A6J P7):=sF MO F5 (tc call145 C3w D7) func69 C0g
def A8c(f:A51):Nat×Fn:=(67,⟨[.val false (.sl 5 (.int .u8)) false,.val false (.rs 82 M8) false],[.val false (.sl 5 (.int .u8))],fun x=>f x.1 x.2.1⟩)
theorem B8o{M4:W6}:EF cfg [A6J M4] [(26,⟨[.t 0 false [.own 100000000],.t 9 false [.int .i64],.r 100000000 5 (.int .u8)],lt 10 7 [.b 6,.r 1000,.r 65536,.t 6],false⟩)] f67 (A8c (A8K M4)):=fun _=>by kernel_rfl
theorem B8p:SQ (A8c A52):=sF MO F5 (tc call69 B4F D7) func67 B8o
def A06(f:O5):Nat×Fn:=(144,⟨[.val false (.rs 5 (.int .u8)) false],[.val false (.sl 5 (.int .u8))],fun x=>f x.1⟩)
theorem A8d:EF cfg [] [] f144 (A06 A05):=fun _=>by kernel_rfl
theorem A8e:SQ (A06 O6):=sF MO F5 D7 func144 A8d
def B8C(f:B41):Nat×Fn:=(68,⟨[.val false (.int .i64) false,.val false .bool false,.val false (.rs 5 (.int .u8)) false,.val false (.int .i64) false],[.val false (.sl 82 M8)],fun x=>f x.1 x.2.1 x.2.2.1 x.2.2.2.1⟩)
theorem C8U{H8:Q4}{K0:O5}:EF (cfg.withCk 143 185) [A1E H8,A06 K0] [(31,⟨[.b 9 [.own 20],.r 20 82 M8],lt 21 4 [.x 23],true⟩),(63,⟨[.b 9 [.own 100001000],.r 100001000 82 M8],lt 25 30 [.r 20,.r 43,.r 44,.r 217088,.t 10,.t 11,.x 33,.x 49],true⟩),(506,⟨[.b 9 [.own 100001000],.r 100001000 82 M8],lt 28 27 [.r 20,.r 43,.r 44,.r 217088,.t 10,.t 11,.x 33,.x 49],false⟩)] f68 (B8C (B7V H8 K0)):=fun _=>by kernel_rfl
theorem C8V:SQ (B8C B42):=sF MO (C5b F5 (fun args w=>call143 args w) C9s) (tc call61 A5c (tc call144 A8e D7)) func68 C8U
def B1l(f:A7h):Nat×Fn:=(15,⟨[.val true (.pair (.int .i64) (.rs 150 C1)) false,.val false (.int .i64) false,.val true A9g false,.val false (.rs 5 (.int .u8)) false,.val false (.int .i64) false],[.val false (.sl 5 (.int .u8)),.val true A3R],fun x=>f x.1 x.2.1 x.2.2.1 x.2.2.2.1 x.2.2.2.2.1⟩)
theorem C2M{H8:Q4}{A23:A6V}{W9:A3C}{O9:A0o}{A5F:A4w}{A6O:A6E}{A5G:A51}{B4M:B41}{M4:W6}:EF cfg [A1E H8,B2K A23,A7p W9,A59 O9,A8b A5F,B0I A6O,A8c A5G,B8C B4M,A6J M4] [(3,⟨[],lt 17 13 [],false⟩),(63,⟨[.t 14 false [.own 100001000],.r 100001000 5 (.int .u8)],lt 50 22 [.b 16,.r 204800,.r 294912,.t 3,.t 15,.t 16],true⟩),(252,⟨[.t 3 false [.ro 5 (.int .u8)],.t 14 false [.own 100001000],.r 100001000 5 (.int .u8)],lt 50 22 [.b 16,.r 204800,.r 294912,.t 15,.t 16],false⟩)] f15 (B1l (B1I H8 A23 W9 O9 A5F A6O A5G B4M M4)):=fun _=>by kernel_rfl
theorem C2N:SQ (B1l A3D):=sF MO F5 (tc call61 A5c (tc call62 B9a (tc call63 B5l (tc call64 B2m (tc call65 B8n (tc call66 C0f (tc call67 B8p (tc call68 C8V (tc call69 B4F D7))))))))) func15 C2M
def B1m(f:A7i):Nat×Fn:=(16,⟨[.val false (.rs 5 (.int .u8)) false,.val false (.rs 5 (.int .u8)) false],[.val false .bool],fun x=>f x.1 x.2.1⟩)
theorem C2O:EF cfg [] [(58,⟨[.t 5 false [.int .i64]],lt 11 15 [],false⟩)] f16 (B1m B1J):=fun _=>by kernel_rfl
theorem C2P:SQ (B1m A5W):=sF MO F5 D7 func16 C2O
def B1n(f:A5a):Nat×Fn:=(146,⟨[.val true C1 false,.val true C1 false],[.val false .bool],fun x=>f x.1 x.2.1⟩)
theorem C2Q:EF cfg [] [] f146 (B1n B1K):=fun _=>by kernel_rfl
theorem C2R:SQ (B1n A7j):=sF MO F5 D7 func146 C2Q
def B0J(f:A6G):Nat×Fn:=(70,⟨[.val false (.rs 150 C1) false,.val false (.rs 150 C1) false],[.val false .bool],fun x=>f x.1 x.2.1⟩)
theorem C0h{A3I:A5a}:EF cfg [B1n A3I] [(58,⟨[.t 5 false [.int .i64]],lt 11 16 [],false⟩)] f70 (B0J (B04 A3I)):=fun _=>by kernel_rfl
theorem C0i:SQ (B0J A6H):=sF MO F5 (tc call146 C2R D7) func70 C0h
def B1o(f:A7k):Nat×Fn:=(17,⟨[.val true (.pair (.int .i64) (.rs 150 C1)) false,.val true (.pair (.int .i64) (.rs 150 C1)) false],[.val false .bool],fun x=>f x.1 x.2.1⟩)
theorem C2S{A6P:A6G}:EF cfg [B0J A6P] [] f17 (B1o (B1L A6P)):=fun _=>by kernel_rfl
theorem C2T:SQ (B1o A5b):=sF MO F5 (tc call70 C0i D7) func17 C2S
def A6K(f:W7):Nat×Fn:=(124,⟨[.val false (.int .i64) false],[.val false .str],fun x=>f x.1⟩)
theorem C0j:EF cfg [] [(15,⟨[.t 3 false [.str]],lt 6 12 [.r 12,.t 0],true⟩),(60,⟨[.t 0 false [.int .i64],.t 3 false [.str]],lt 6 12 [.r 12],false⟩)] f124 (A6K B05):=fun _=>by kernel_rfl
theorem B4G:SQ (A6K T2):=sF MO F5 D7 func124 C0j
def A6v(f:A3b):Nat×Fn:=(71,⟨[.val false (.sl 150 C1) true,.val false (.int .i64) false],[.val false (.int .i64)],fun x=>f x.1 x.2.1⟩)
theorem B8D{L2:W7}:EF cfg [A6K L2] [(26,⟨[.t 0 false [.own 1000],.t 1 false [.int .i64],.t 5 false [.int .i64],.r 1000 150 C1],lt 6 22 [.x 16,.x 24],false⟩)] f71 (A6v (A6p L2)):=fun _=>by kernel_rfl
theorem B8E:SQ (A6v A3c):=sF MO F5 (tc call124 B4G D7) func71 B8D
def A8f(f:A54):Nat×Fn:=(18,⟨[.val true A3R true,.val false (.int .i64) false],[.val false (.int .i64)],fun x=>f x.1 x.2.1⟩)
theorem B8q{A3m:A3b}:EF cfg [A6v A3m] [] f18 (A8f (A8L A3m)):=fun _=>by kernel_rfl
theorem B8r:SQ (A8f A2J):=sF MO F5 (tc call71 B8E D7) func18 B8q
def A8g(f:A55):Nat×Fn:=(19,⟨[.val false (.sl 5 (.int .u8)) true,.val false (.int .i64) false],[.val false (.int .i64)],fun x=>f x.1 x.2.1⟩)
theorem B8s:EF cfg [] [(26,⟨[.t 0 false [.own 1000],.t 1 false [.int .i64],.t 5 false [.int .i64],.r 1000 5 (.int .u8)],lt 6 13 [.x 16],false⟩)] f19 (A8g A8M):=fun _=>by kernel_rfl
theorem B8t:SQ (A8g A2K):=sF MO F5 D7 func19 B8s
def A8h(f:A56):Nat×Fn:=(20,⟨[.val false (.rs 5 (.int .u8)) false,.val false (.int .i64) false],[.val false (.int .i64)],fun x=>f x.1 x.2.1⟩)
theorem B8u:EF cfg [] [(26,⟨[.t 1 false [.int .i64],.t 5 false [.int .i64]],lt 6 15 [],false⟩)] f20 (A8h A8N):=fun _=>by kernel_rfl
theorem B8v:SQ (A8h A2L):=sF MO F5 D7 func20 B8u
def A6w(f:A3d):Nat×Fn:=(72,⟨[.val false (.rs 150 C1) false,.val false (.int .i64) false],[.val false (.int .i64)],fun x=>f x.1 x.2.1⟩)
theorem B8F{L2:W7}:EF cfg [A6K L2] [(26,⟨[.t 1 false [.int .i64],.t 5 false [.int .i64]],lt 6 26 [],false⟩)] f72 (A6w (A6q L2)):=fun _=>by kernel_rfl
theorem B8G:SQ (A6w A3e):=sF MO F5 (tc call124 B4G D7) func72 B8F
def A8i(f:A57):Nat×Fn:=(21,⟨[.val true (.pair (.int .i64) (.rs 150 C1)) false,.val false (.int .i64) false],[.val false (.int .i64)],fun x=>f x.1 x.2.1⟩)
theorem B8w{A3n:A3d}:EF cfg [A6w A3n] [] f21 (A8i (A8O A3n)):=fun _=>by kernel_rfl
theorem B90:SQ (A8i A2M):=sF MO F5 (tc call72 B8G D7) func21 B8w
def A3i(f:A11):Nat×Fn:=(11,⟨[.val true (.pair (.int .i64) (.rs 150 C1)) false,.val false (.int .i64) false,.val true A9g false,.val false (.rs 5 (.int .u8)) false,.val false (.int .i64) false],[.val false (.sl 5 (.int .u8)),.val true (.pair (.int .i64) (.rs 150 C1))],fun x=>f x.1 x.2.1 x.2.2.1 x.2.2.2.1 x.2.2.2.2.1⟩)
theorem B4H{W8:A3B}{A22:A6U}{G1:O4}{P8:A19}{A0B:A09}{A6Q:A69}{A5H:A4o}{B4N:B3r}{N6:W0}:EF cfg [A7o W8,B2J A22,A1D G1,A6t P8,A26 A0B,B0E A6Q,A8U A5H,B86 B4N,A6I N6] [(3,⟨[],lt 18 13 [],false⟩),(6,⟨[.t 30 false [.bool]],lt 18 12 [],true⟩),(31,⟨[.t 4 false [.int .i64]],[.t 49,.t 50],true⟩),(63,⟨[.t 4 false [.int .i64]],[.t 51,.t 52],true⟩),(127,⟨[.t 14 false [.own 100004000],.r 100004000 5 (.int .u8)],lt 53 30 (lt 15 3 [.b 17,.r 72,.r 77,.r 82,.r 200704,.r 335872]),true⟩),(1018,⟨[.t 14 false [.own 100004000],.t 15 false [.int .i64],.r 100004000 5 (.int .u8)],lt 53 30 [.b 17,.r 72,.r 77,.r 82,.r 200704,.r 335872,.t 16,.t 17],false⟩),(65171,⟨[.t 16 false [.int .i64],.b 17 [.int .i64,.int .i64,.int .i64,.nil]],lt 65 7 [],true⟩)] f11 (A3i (A3f W8 A22 G1 P8 A0B A6Q A5H B4N N6)):=fun _=>by kernel_rfl
theorem B4I:SQ (A3i S0):=sF MO F5 (tc call51 B5k (tc call52 B9W (tc call53 A3h (tc call54 B3D (tc call55 B2S (tc call56 C0V (tc call57 B8d (tc call58 C8P (tc call59 B4E D7))))))))) func11 B4H
def B3M:Nat->Option Jn:=A90 [(4095,⟨[],lt 62 10 [],false⟩),(262143,⟨[],lt 88 14 [],false⟩),(536870911,⟨[],lt 133 10 [],false⟩)]
abbrev U2:List PK:= [.val true (.pair (.int .i64) (.rs 161 C1)) false,.val false (.int .i64) false,.val true A9g false,.val false (.rs 5 (.int .u8)) false,.val false (.int .i64) false]
abbrev A70:List RK:= [.val false .bool]
def B3N(f:A6r):Nat×Fn:=(3,⟨U2,A70,fun x=>f x.1 x.2.1 x.2.2.1 x.2.2.2.1 x.2.2.2.2.1⟩)
def F_w_FnExactAskWith:Fn:=(B3N A31).2
theorem B3O(A80:A7O)(B2M:B2E)(A13:A11)(A1F:A7c)(A6W:B2H)(A1G:A7d)(A5d:A7h)(A1H:A7i)(A1I:A7k)(A2V:A54)(A2W:A55)(A2a:A56)(A2b:A57):∀ x,(C5V cfg [B1a A80,B4v B2M,A3i A13,B1h A1F,B5I A6W,B1i A1G,B1l A5d,B1m A1H,B1o A1I,A8f A2V,A8g A2W,A8h A2a,A8i A2b] B3M 156 [.tmp 10] (f3.body.getD .skip) U2 A70).fn x=A30 A80 B2M A13 A1F A6W A1G A5d A1H A1I A2V A2W A2a A2b x.1 x.2.1 x.2.2.1 x.2.2.2.1 x.2.2.2.2.1:=by intro x;kernel_rfl
theorem B3P:A0O prog 3 F_w_FnExactAskWith:=sm MO F5 (tc call9 C1v (tc call10 C66 (tc call11 B4I (tc call12 C2D (tc call13 C6B (tc call14 C2F (tc call15 C2N (tc call16 C2P (tc call17 C2T (tc call18 B8r (tc call19 B8t (tc call20 B8v (tc call21 B90 D7))))))))))))) func3 (by kernel_rfl) (by decide) (B3O A18 A91 S0 A5S A9B A5T A3D A5W A5b A2J A2K A2L A2M)
end
end Go.Proofs.YthnfghmjipikhaaGreatDoor.Ev
