/- Each function of the program does what its plain function says. -/
import Derived.Test.YthnfghmjipikhaaGreatDoorTy
import Derived.Test.YthnfghmjipikhaaGreatDoorPu
import Derived.Test.YthnfghmjipikhaaGreatDoorIns
import Derived.Test.YthnfghmjipikhaaGreatDoorGone
import Derived.Test.YthnfghmjipikhaaGreatDoorLibT
import Derived.Test.YthnfghmjipikhaaGreatDoorLibB
import Derived.Test.YthnfghmjipikhaaGreatDoorUnHuff
set_option linter.unusedVariables false
set_option maxRecDepth 100000
namespace Go.Proofs.YthnfghmjipikhaaGreatDoor.Ev
open Tryz
noncomputable section
abbrev D0W:List PK:= [.val false .str false,.val false .str false]
abbrev D0a:List RK:= [.val false (.sl 9 .str)]
def B2v(f:A37):Nat×Fn:=(231,⟨D0W,D0a,fun x=>f x.1 x.2.1⟩)
def D0b:Fn:=(B2v B2n).2
theorem C1o:A1e prog 231 D0b:=D9d
abbrev D46:List PK:= [.val false .str false,.val false .str false]
abbrev D47:List RK:= [.val false .str,.val false .str,.val false .bool]
def C5F(f:A7K):Nat×Fn:=(232,⟨D46,D47,fun x=>f x.1 x.2.1⟩)
def D48:Fn:=(C5F C4u).2
theorem D49:A1e prog 232 D48:=E5n
abbrev D39:List PK:= [.val false .str false]
abbrev D3A:List RK:= [.val false (.int .i64),.val false (.fnc 999999999)]
def C3C(f:A5h):Nat×Fn:=(233,⟨D39,D3A,fun x=>f x.1⟩)
def D3B:Fn:=(C3C C2R).2
theorem D3C:A1e prog 233 D3B:=E1o
abbrev A6l:List PK:= [.val false (.sl 150 B8) false,.val false (.int .i64) false,.val false (.sl 150 B8) false]
abbrev A6m:List RK:= [.val false (.sl 150 B8)]
def A1g(f:P2):Nat×Fn:=(194,⟨A6l,A6m,fun x=>f x.1 x.2.1 x.2.2.1⟩)
def A6n:Fn:=(A1g P3).2
theorem A6o:A1e prog 194 A6n:=C6F B8 (by decide)
abbrev D3D:List PK:= [.val false (.int .i64) false]
abbrev D3E:List RK:= [.val false .str]
def C3D(f:A96):Nat×Fn:=(142,⟨D3D,D3E,fun x=>f x.1⟩)
def D3F:Fn:=(C3D A97).2
theorem D3G:A1e prog 142 D3F:=E1n
abbrev A8t:List PK:= [.val false (.sl 113 E6) false,.val false (.int .i64) false,.val false (.int .i64) false]
abbrev A8u:List RK:= [.val false (.sl 113 E6)]
def A30(f:S8):Nat×Fn:=(86,⟨A8t,A8u,fun x=>f x.1 x.2.1 x.2.2.1⟩)
def A8v:Fn:=(A30 S9).2
theorem A8w:A1e prog 86 A8v:=C9E E6 (by decide)
abbrev B8c:List PK:= [.val false (.sl 5 (.int .u8)) false,.val false (.int .i64) false]
abbrev B8d:List RK:= [.val false (.sl 5 (.int .u8))]
def A8l(f:A1f):Nat×Fn:=(153,⟨B8c,B8d,fun x=>f x.1 x.2.1⟩)
def B8e:Fn:=(A8l A3w).2
theorem B8f:A1e prog 153 B8e:=D0V
abbrev C9F:List PK:= [.ptr (.pair (.pair (.int .i64) (.pair (.sl 5 (.int .u8)) (.pair A03 (.pair (.pair (.int .i64) (.rs 150 B8)) (.pair A07 (.pair (.sl 113 E6) M8)))))) (.pair (.sl 75 M6) (.sl 5 (.int .u8)))),.val false (.int .i64) false]
abbrev C9G:List RK:= []
def B8g(f:A6B):Nat×Fn:=(227,⟨C9F,C9G,fun x=>f x.1 x.2.1⟩)
def C9H:Fn:=(B8g A6C).2
theorem C9I:A1e prog 227 C9H:=E1m _ _ _ _ _ _ _ _ rfl rfl rfl rfl rfl rfl
def A8m(f:A2M):Nat×Fn:=(14,⟨[.val false (.rs 5 (.int .u8)) false],[.val false (.sl 5 (.int .u8))],fun x=>f x.1⟩)
theorem D9f:EF cfg [] [(58,⟨[.t 3 false [.own 7],.t 4 false [.int .i64],.r 7 5 (.int .u8)],lt 8 13 [.x 20],false⟩)] f14 (A8m C2S):=fun _=>by kernel_rfl
theorem B6j:SQ (A8m A3B):=sF MO C5 B9 func14 D9f
def A5v(f:A11):Nat×Fn:=(16,⟨[.val false (.rs 5 (.int .u8)) false,.val false (.rs 5 (.int .u8)) false],[.val false .bool],fun x=>f x.1 x.2.1⟩)
theorem D9g:EF cfg [] [(58,⟨[.t 5 false [.int .i64]],lt 11 15 [],false⟩)] f16 (A5v C2T):=fun _=>by kernel_rfl
theorem B2a:SQ (A5v A3C):=sF MO C5 B9 func16 D9g
def A3g(f:Q5):Nat×Fn:=(19,⟨[.val false (.sl 5 (.int .u8)) true,.val false (.int .i64) false],[.val false (.int .i64)],fun x=>f x.1 x.2.1⟩)
theorem D4A:EF cfg [] [(26,⟨[.t 0 false [.own 1000],.t 1 false [.int .i64],.t 5 false [.int .i64],.r 1000 5 (.int .u8)],lt 6 13 [.x 16],false⟩)] f19 (A3g B7H):=fun _=>by kernel_rfl
theorem A7W:SQ (A3g V9):=sF MO C5 B9 func19 D4A
def A3h(f:Q6):Nat×Fn:=(20,⟨[.val false (.rs 5 (.int .u8)) false,.val false (.int .i64) false],[.val false (.int .i64)],fun x=>f x.1 x.2.1⟩)
theorem D4B:EF cfg [] [(26,⟨[.t 1 false [.int .i64],.t 5 false [.int .i64]],lt 6 15 [],false⟩)] f20 (A3h B7I):=fun _=>by kernel_rfl
theorem A7a:SQ (A3h W3):=sF MO C5 B9 func20 D4B
def C3E(f:B2I):Nat×Fn:=(125,⟨[.val true B8 false,.val false (.int .i64) false],[.val false (.int .i64)],fun x=>f x.1 x.2.1⟩)
theorem D9h:EF cfg [] [] f125 (C3E C2U):=fun _=>by kernel_rfl
theorem D9i:SQ (C3E A8a):=sF MO C5 B9 func125 D9h
def C0e(f:B3H):Nat×Fn:=(50,⟨[.val false (.rs 161 B8) false,.val false (.int .i64) false],[.val false (.int .i64)],fun x=>f x.1 x.2.1⟩)
theorem D7B{A8n:B2I}:EF cfg [C3E A8n] [(122,⟨[.t 1 false [.int .i64],.t 5 false [.int .i64]],lt 12 14 [],false⟩)] f50 (C0e (B9D A8n)):=fun _=>by kernel_rfl
theorem D7C:SQ (C0e B3I):=sF MO C5 (tc call125 D9i B9) func50 D7B
def C3F(f:B65):Nat×Fn:=(9,⟨[.val true (.pair (.int .i64) (.rs 161 B8)) false,.val false (.int .i64) false],[.val false (.int .i64)],fun x=>f x.1 x.2.1⟩)
theorem D9j{B47:B3H}:EF cfg [C0e B47] [] f9 (C3F (C2V B47)):=fun _=>by kernel_rfl
theorem D9k:SQ (C3F B66):=sF MO C5 (tc call50 D7C B9) func9 D9j
def B2b(f:A4E):Nat×Fn:=(73,⟨[.val false (.rs 5 (.int .u8)) false,.val false (.int .i64) false],[.val false (.int .i64)],fun x=>f x.1 x.2.1⟩)
theorem D9l:EF cfg [] [] f73 (B2b C2W):=fun _=>by kernel_rfl
theorem C3G:SQ (B2b A5i):=sF MO C5 B9 func73 D9l
def C0f(f:B3J):Nat×Fn:=(74,⟨[.val true (.pair (.int .i64) (.pair .bool (.rs 5 (.int .u8)))) false,.val false (.int .i64) false],[.val false (.int .i64)],fun x=>f x.1 x.2.1⟩)
theorem D7D{A04:A4E}:EF cfg [B2b A04] [] f74 (C0f (B9E A04)):=fun _=>by kernel_rfl
theorem D7E:SQ (C0f B3K):=sF MO C5 (tc call73 C3G B9) func74 D7D
def C9J(f:C4A):Nat×Fn:=(10,⟨[.val true B4i false,.val false (.int .i64) false],[.val false (.int .i64)],fun x=>f x.1 x.2.1⟩)
theorem E5p:EF cfg [] [] f10 (C9J C8m):=fun _=>by kernel_rfl
theorem E5q:SQ (C9J C4B):=sF MO C5 B9 func10 E5p
def C9K(f:B8K):Nat×Fn:=(147,⟨[.val true (.pair (.int .i64) (.pair (.int .i64) (.pair B4i (.rs 5 (.int .u8))))) false,.val false (.int .i64) false],[.val false (.int .i64)],fun x=>f x.1 x.2.1⟩)
theorem E5r{C4S:C4A}{A04:A4E}:EF cfg [C9J C4S,B2b A04] [] f147 (C9K (C8n C4S A04)):=fun _=>by kernel_rfl
theorem E5s:SQ (C9K B4R):=sF MO C5 (tc call10 E5q (tc call73 C3G B9)) func147 E5r
def C6G(f:B9F):Nat×Fn:=(75,⟨[.val false (.rs 180 E6) false,.val false (.int .i64) false],[.val false (.int .i64)],fun x=>f x.1 x.2.1⟩)
theorem E1p{B4V:B8K}:EF cfg [C9K B4V] [(122,⟨[.t 1 false [.int .i64],.t 5 false [.int .i64]],lt 12 14 [],false⟩)] f75 (C6G (C5e B4V)):=fun _=>by kernel_rfl
theorem E1q:SQ (C6G B9G):=sF MO C5 (tc call147 E5s B9) func75 E1p
def C6H(f:B9H):Nat×Fn:=(22,⟨[.val true (.pair (.int .i64) (.pair (.rs 5 (.int .u8)) (.pair (.pair (.int .i64) (.pair .bool (.rs 5 (.int .u8)))) (.pair (.pair (.int .i64) (.rs 161 B8)) (.pair (.pair (.int .i64) (.rs 161 B8)) (.pair (.rs 180 E6) M8)))))) false,.val false (.int .i64) false],[.val false (.int .i64)],fun x=>f x.1 x.2.1⟩)
theorem E1r{B2f:B65}{A04:A4E}{B48:B3J}{C1F:B9F}:EF cfg [C3F B2f,B2b A04,C0f B48,C6G C1F] [] f22 (C6H (C5f B2f A04 B48 C1F)):=fun _=>by kernel_rfl
theorem E1s:SQ (C6H B4j):=sF MO C5 (tc call9 D9k (tc call73 C3G (tc call74 D7E (tc call75 E1q B9)))) func22 E1r
def C3H(f:B2J):Nat×Fn:=(135,⟨[.val true B8 false],[.val true B8],fun x=>f x.1⟩)
theorem D9m:EF cfg [] [] f135 (C3H C2a):=fun _=>by kernel_rfl
theorem D9n:SQ (C3H B67):=sF MO C5 B9 func135 D9m
def C0g(f:B3M):Nat×Fn:=(60,⟨[.val false (.rs 161 B8) false],[.val false (.sl 150 B8)],fun x=>f x.1⟩)
theorem D7F{A8o:B2J}:EF cfg [C3H A8o] [(58,⟨[.t 3 false [.own 7],.t 4 false [.int .i64],.r 7 150 B8],lt 8 14 [.x 21],false⟩)] f60 (C0g (B9I A8o)):=fun _=>by kernel_rfl
theorem D7G:SQ (C0g B3N):=sF MO C5 (tc call135 D9n B9) func60 D7F
def C3I(f:B68):Nat×Fn:=(12,⟨[.val true (.pair (.int .i64) (.rs 161 B8)) false],[.val true A07],fun x=>f x.1⟩)
theorem D9o{B49:B3M}:EF cfg [C0g B49] [] f12 (C3I (C2b B49)):=fun _=>by kernel_rfl
theorem D9p:SQ (C3I B69):=sF MO C5 (tc call60 D7G B9) func12 D9o
def C0h(f:B3O):Nat×Fn:=(80,⟨[.val true (.pair (.int .i64) (.pair .bool (.rs 5 (.int .u8)))) false],[.val true A03],fun x=>f x.1⟩)
theorem D7H{M4:A2M}:EF cfg [A8m M4] [] f80 (C0h (B9J M4)):=fun _=>by kernel_rfl
theorem D7I:SQ (C0h B3P):=sF MO C5 (tc call14 B6j B9) func80 D7H
def C9L(f:C4C):Nat×Fn:=(13,⟨[.val true B4i false],[.val true B4i],fun x=>f x.1⟩)
theorem E5t:EF cfg [] [] f13 (C9L C8o):=fun _=>by kernel_rfl
theorem E5u:SQ (C9L C4D):=sF MO C5 B9 func13 E5t
def C9M(f:B8L):Nat×Fn:=(149,⟨[.val true (.pair (.int .i64) (.pair (.int .i64) (.pair B4i (.rs 5 (.int .u8))))) false],[.val true E6],fun x=>f x.1⟩)
theorem E5v{C4T:C4C}{M4:A2M}:EF cfg [C9L C4T,A8m M4] [] f149 (C9M (C8p C4T M4)):=fun _=>by kernel_rfl
theorem E5w:SQ (C9M C4E):=sF MO C5 (tc call13 E5u (tc call14 B6j B9)) func149 E5v
def C6I(f:B9L):Nat×Fn:=(81,⟨[.val false (.rs 180 E6) false],[.val false (.sl 113 E6)],fun x=>f x.1⟩)
theorem E1t{B4W:B8L}:EF cfg [C9M B4W] [(58,⟨[.t 3 false [.own 7],.t 4 false [.int .i64],.r 7 113 E6],lt 8 14 [.r 86021,.x 21],false⟩)] f81 (C6I (C5g B4W)):=fun _=>by kernel_rfl
theorem E1u:SQ (C6I B9M):=sF MO C5 (tc call149 E5w B9) func81 E1t
def C6J(f:B9N):Nat×Fn:=(24,⟨[.val true (.pair (.int .i64) (.pair (.rs 5 (.int .u8)) (.pair (.pair (.int .i64) (.pair .bool (.rs 5 (.int .u8)))) (.pair (.pair (.int .i64) (.rs 161 B8)) (.pair (.pair (.int .i64) (.rs 161 B8)) (.pair (.rs 180 E6) M8)))))) false],[.val true B8J],fun x=>f x.1⟩)
theorem E1v{B2g:B68}{M4:A2M}{B4A:B3O}{C1G:B9L}:EF cfg [C3I B2g,A8m M4,C0h B4A,C6I C1G] [] f24 (C6J (C5h B2g M4 B4A C1G)):=fun _=>by kernel_rfl
theorem E1w:SQ (C6J B4l):=sF MO C5 (tc call12 D9p (tc call14 B6j (tc call80 D7I (tc call81 E1u B9)))) func24 E1v
def C3J(f:B2K):Nat×Fn:=(146,⟨[.val true B8 false,.val true B8 false],[.val false .bool],fun x=>f x.1 x.2.1⟩)
theorem D9q:EF cfg [] [] f146 (C3J C2c):=fun _=>by kernel_rfl
theorem D9r:SQ (C3J B6A):=sF MO C5 B9 func146 D9q
def C0i(f:B3Q):Nat×Fn:=(70,⟨[.val false (.rs 150 B8) false,.val false (.rs 150 B8) false],[.val false .bool],fun x=>f x.1 x.2.1⟩)
theorem D7J{A8p:B2K}:EF cfg [C3J A8p] [(58,⟨[.t 5 false [.int .i64]],lt 11 16 [],false⟩)] f70 (C0i (B9O A8p)):=fun _=>by kernel_rfl
theorem D7K:SQ (C0i B3R):=sF MO C5 (tc call146 D9r B9) func70 D7J
def C3K(f:B6B):Nat×Fn:=(17,⟨[.val true (.pair (.int .i64) (.rs 150 B8)) false,.val true (.pair (.int .i64) (.rs 150 B8)) false],[.val false .bool],fun x=>f x.1 x.2.1⟩)
theorem D9s{B4B:B3Q}:EF cfg [C0i B4B] [] f17 (C3K (C2d B4B)):=fun _=>by kernel_rfl
theorem D9t:SQ (C3K B6C):=sF MO C5 (tc call70 D7K B9) func17 D9s
def C0j(f:B3S):Nat×Fn:=(87,⟨[.val true (.pair (.int .i64) (.pair .bool (.rs 5 (.int .u8)))) false,.val true (.pair (.int .i64) (.pair .bool (.rs 5 (.int .u8)))) false],[.val false .bool],fun x=>f x.1 x.2.1⟩)
theorem D7L{K0:A11}:EF cfg [A5v K0] [] f87 (C0j (B9P K0)):=fun _=>by kernel_rfl
theorem D7M:SQ (C0j B9Q):=sF MO C5 (tc call16 B2a B9) func87 D7L
def C4P(f:B4S):Nat×Fn:=(172,⟨[.val true B4i false,.val true B4i false],[.val false .bool],fun x=>f x.1 x.2.1⟩)
theorem E60:EF cfg [] [] f172 (C4P C8q):=fun _=>by kernel_rfl
theorem D5p:SQ (C4P B8M):=sF MO C5 B9 func172 E60
def C9N(f:B8N):Nat×Fn:=(150,⟨[.val true (.pair (.int .i64) (.pair (.int .i64) (.pair B4i (.rs 5 (.int .u8))))) false,.val true (.pair (.int .i64) (.pair (.int .i64) (.pair B4i (.rs 5 (.int .u8))))) false],[.val false .bool],fun x=>f x.1 x.2.1⟩)
theorem E61{K0:A11}{A6r:B4S}:EF cfg [A5v K0,C4P A6r] [] f150 (C9N (C8r K0 A6r)):=fun _=>by kernel_rfl
theorem E62:SQ (C9N C4F):=sF MO C5 (tc call16 B2a (tc call172 D5p B9)) func150 E61
def C6K(f:B9S):Nat×Fn:=(88,⟨[.val false (.rs 113 E6) false,.val false (.rs 113 E6) false],[.val false .bool],fun x=>f x.1 x.2.1⟩)
theorem E20{B4a:B8N}:EF cfg [C9N B4a] [(58,⟨[.t 5 false [.int .i64]],lt 11 16 [],false⟩)] f88 (C6K (C5i B4a)):=fun _=>by kernel_rfl
theorem E21:SQ (C6K B9T):=sF MO C5 (tc call150 E62 B9) func88 E20
def C6L(f:B9U):Nat×Fn:=(27,⟨[.val true (.pair (.int .i64) (.pair (.rs 5 (.int .u8)) (.pair (.pair (.int .i64) (.pair .bool (.rs 5 (.int .u8)))) (.pair (.pair (.int .i64) (.rs 150 B8)) (.pair (.pair (.int .i64) (.rs 150 B8)) (.pair (.rs 113 E6) M8)))))) false,.val true (.pair (.int .i64) (.pair (.rs 5 (.int .u8)) (.pair (.pair (.int .i64) (.pair .bool (.rs 5 (.int .u8)))) (.pair (.pair (.int .i64) (.rs 150 B8)) (.pair (.pair (.int .i64) (.rs 150 B8)) (.pair (.rs 113 E6) M8)))))) false],[.val false .bool],fun x=>f x.1 x.2.1⟩)
theorem E22{K0:A11}{B2h:B6B}{B4C:B3S}{C1H:B9S}:EF cfg [A5v K0,C3K B2h,C0j B4C,C6K C1H] [] f27 (C6L (C5j K0 B2h B4C C1H)):=fun _=>by kernel_rfl
theorem E23:SQ (C6L B4n):=sF MO C5 (tc call16 B2a (tc call17 D9t (tc call87 D7M (tc call88 E21 B9)))) func27 E22
def A3L(f:M1):Nat×Fn:=(124,⟨[.val false (.int .i64) false],[.val false .str],fun x=>f x.1⟩)
theorem D7N:EF cfg [] [(15,⟨[.t 3 false [.str]],lt 6 12 [.r 12,.t 0],true⟩),(60,⟨[.t 0 false [.int .i64],.t 3 false [.str]],lt 6 12 [.r 12],false⟩)] f124 (A3L B9V):=fun _=>by kernel_rfl
theorem A6p:SQ (A3L O0):=sF MO C5 B9 func124 D7N
def B5I(f:A99):Nat×Fn:=(71,⟨[.val false (.sl 150 B8) true,.val false (.int .i64) false],[.val false (.int .i64)],fun x=>f x.1 x.2.1⟩)
theorem D3H{F7:M1}:EF cfg [A3L F7] [(26,⟨[.t 0 false [.own 1000],.t 1 false [.int .i64],.t 5 false [.int .i64],.r 1000 150 B8],lt 6 22 [.x 16,.x 24],false⟩)] f71 (B5I (B4p F7)):=fun _=>by kernel_rfl
theorem D3I:SQ (B5I A9A):=sF MO C5 (tc call124 A6p B9) func71 D3H
def B7h(f:B1L):Nat×Fn:=(18,⟨[.val true A07 true,.val false (.int .i64) false],[.val false (.int .i64)],fun x=>f x.1 x.2.1⟩)
theorem D4C{B0B:A99}:EF cfg [B5I B0B] [] f18 (B7h (B7J B0B)):=fun _=>by kernel_rfl
theorem D4D:SQ (B7h A7L):=sF MO C5 (tc call71 D3I B9) func18 D4C
def B5J(f:A9B):Nat×Fn:=(89,⟨[.val true A03 true,.val false (.int .i64) false],[.val false (.int .i64)],fun x=>f x.1 x.2.1⟩)
theorem D3J{H8:Q5}:EF cfg [A3g H8] [] f89 (B5J (B4q H8)):=fun _=>by kernel_rfl
theorem D3K:SQ (B5J B4r):=sF MO C5 (tc call19 A7W B9) func89 D3J
def C0k(f:B3T):Nat×Fn:=(90,⟨[.val false (.sl 113 E6) true,.val false (.int .i64) false],[.val false (.int .i64)],fun x=>f x.1 x.2.1⟩)
theorem D7O{H8:Q5}{F7:M1}:EF cfg [A3g H8,A3L F7] [(26,⟨[.t 0 false [.own 1000],.t 1 false [.int .i64],.t 5 false [.int .i64],.r 1000 113 E6],lt 6 52 [.x 15,.x 22,.x 29,.x 38,.x 46,.x 53],false⟩)] f90 (C0k (C7L H8 F7)):=fun _=>by kernel_rfl
theorem D7P:SQ (C0k B9W):=sF MO C5 (tc call19 A7W (tc call124 A6p B9)) func90 D7O
def C0l(f:B3U):Nat×Fn:=(28,⟨[.val true B8J true,.val false (.int .i64) false],[.val false (.int .i64)],fun x=>f x.1 x.2.1⟩)
theorem D7Q{A7c:B1L}{H8:Q5}{B0C:A9B}{B4D:B3T}:EF cfg [B7h A7c,A3g H8,B5J B0C,C0k B4D] [] f28 (C0l (B9a A7c H8 B0C B4D)):=fun _=>by kernel_rfl
theorem D7R:SQ (C0l A9D):=sF MO C5 (tc call18 D4D (tc call19 A7W (tc call89 D3K (tc call90 D7P B9)))) func28 D7Q
def B5K(f:A9E):Nat×Fn:=(72,⟨[.val false (.rs 150 B8) false,.val false (.int .i64) false],[.val false (.int .i64)],fun x=>f x.1 x.2.1⟩)
theorem D3L{F7:M1}:EF cfg [A3L F7] [(26,⟨[.t 1 false [.int .i64],.t 5 false [.int .i64]],lt 6 26 [],false⟩)] f72 (B5K (B4s F7)):=fun _=>by kernel_rfl
theorem D3M:SQ (B5K A9F):=sF MO C5 (tc call124 A6p B9) func72 D3L
def B7i(f:B1M):Nat×Fn:=(21,⟨[.val true (.pair (.int .i64) (.rs 150 B8)) false,.val false (.int .i64) false],[.val false (.int .i64)],fun x=>f x.1 x.2.1⟩)
theorem D4E{B0D:A9E}:EF cfg [B5K B0D] [] f21 (B7i (B7K B0D)):=fun _=>by kernel_rfl
theorem D4F:SQ (B7i A7M):=sF MO C5 (tc call72 D3M B9) func21 D4E
def B5L(f:A9G):Nat×Fn:=(91,⟨[.val true (.pair (.int .i64) (.pair .bool (.rs 5 (.int .u8)))) false,.val false (.int .i64) false],[.val false (.int .i64)],fun x=>f x.1 x.2.1⟩)
theorem D3N{H9:Q6}:EF cfg [A3h H9] [] f91 (B5L (B4t H9)):=fun _=>by kernel_rfl
theorem D3O:SQ (B5L B4u):=sF MO C5 (tc call20 A7a B9) func91 D3N
def C0m(f:B3V):Nat×Fn:=(92,⟨[.val false (.rs 113 E6) false,.val false (.int .i64) false],[.val false (.int .i64)],fun x=>f x.1 x.2.1⟩)
theorem D7S{H9:Q6}{F7:M1}:EF cfg [A3h H9,A3L F7] [(26,⟨[.t 1 false [.int .i64],.t 5 false [.int .i64]],lt 6 64 [],false⟩)] f92 (C0m (C7M H9 F7)):=fun _=>by kernel_rfl
theorem D7T:SQ (C0m B9b):=sF MO C5 (tc call20 A7a (tc call124 A6p B9)) func92 D7S
def C0n(f:B3W):Nat×Fn:=(29,⟨[.val true (.pair (.int .i64) (.pair (.rs 5 (.int .u8)) (.pair (.pair (.int .i64) (.pair .bool (.rs 5 (.int .u8)))) (.pair (.pair (.int .i64) (.rs 150 B8)) (.pair (.pair (.int .i64) (.rs 150 B8)) (.pair (.rs 113 E6) M8)))))) false,.val false (.int .i64) false],[.val false (.int .i64)],fun x=>f x.1 x.2.1⟩)
theorem D7U{H9:Q6}{A7d:B1M}{B0E:A9G}{B4E:B3V}:EF cfg [A3h H9,B7i A7d,B5L B0E,C0m B4E] [] f29 (C0n (B9c H9 A7d B0E B4E)):=fun _=>by kernel_rfl
theorem D7V:SQ (C0n A9I):=sF MO C5 (tc call20 A7a (tc call21 D4F (tc call91 D3O (tc call92 D7T B9)))) func29 D7U
def V5(f:J3):Nat×Fn:=(61,⟨[.val false (.int .i64) false,.val false (.int .i64) false,.val false (.int .i64) false],[.val false .bool],fun x=>f x.1 x.2.1 x.2.2.1⟩)
theorem D9u:EF cfg [] [] f61 (V5 D04):=fun _=>by kernel_rfl
theorem A0O:SQ (V5 T3):=sF MO C5 B9 func61 D9u
def C0o(f:A5j):Nat×Fn:=(179,⟨[.val true B8 false],[.val false (.int .i64)],fun x=>f x.1⟩)
theorem E24:EF cfg [] [] f179 (C0o D21):=fun _=>by kernel_rfl
theorem D3P:SQ (C0o B0g):=sF MO C5 B9 func179 E24
def C6M(f:B9d):Nat×Fn:=(138,⟨[.val true (.pair (.int .i64) (.rs 150 B8)) false],[.val false (.int .i64)],fun x=>f x.1⟩)
theorem E25{A1I:A5j}:EF cfg [C0o A1I] [(58,⟨[.t 3 false [.int .i64],.t 9 false [.int .i64]],lt 10 8 [.b 5,.t 5],false⟩)] f138 (C6M (C5k A1I)):=fun _=>by kernel_rfl
theorem E26:SQ (C6M B9e):=sF MO C5 (tc call179 D3P B9) func138 E25
def B2c(f:A4F):Nat×Fn:=(63,⟨[.val true (.pair (.int .i64) (.rs 150 B8)) false],[.val false .bool],fun x=>f x.1⟩)
theorem D9v{D3:J3}{C1I:B9d}:EF cfg [V5 D3,C6M C1I] [] f63 (B2c (C2e D3 C1I)):=fun _=>by kernel_rfl
theorem C3L:SQ (B2c A5k):=sF MO C5 (tc call61 A0O (tc call138 E26 B9)) func63 D9v
def L8(f:G0):Nat×Fn:=(144,⟨[.val false (.rs 5 (.int .u8)) false],[.val false (.sl 5 (.int .u8))],fun x=>f x.1⟩)
theorem B7j:EF cfg [] [] f144 (L8 A1L):=fun _=>by kernel_rfl
theorem O9:SQ (L8 H1):=sF MO C5 B9 func144 B7j
def C0p(f:B0h):Nat×Fn:=(155,⟨[.val false (.rs 5 (.int .u8)) false,.val false (.int .i64) false,.val false (.int .i64) false],[.val false (.int .i64),.val false .bool],fun x=>f x.1 x.2.1 x.2.2.1⟩)
theorem E27{D3:J3}:EF cfg [V5 D3] [(3,⟨[],lt 11 15 [],false⟩),(15,⟨[.t 8 false [.int .i64]],lt 26 17 [.t 10],true⟩),(122,⟨[.t 8 false [.int .i64],.t 33 false [.int .i64]],lt 34 9 [.t 10],false⟩)] f155 (C0p (C5l D3)):=fun _=>by kernel_rfl
theorem D3Q:SQ (C0p B0i):=sF MO C5 (tc call61 A0O B9) func155 E27
def B3v(f:A4M):Nat×Fn:=(103,⟨[.val false (.rs 5 (.int .u8)) false,.val false (.int .i64) false],[.val true D6R,.val false (.int .i64),.val false (.int .i64)],fun x=>f x.1 x.2.1⟩)
theorem D7W{C2:G0}{A3i:B0h}:EF cfg [L8 C2,C0p A3i] [(3,⟨[],lt 13 9 [],false⟩)] f103 (B3v (B9f C2 A3i)):=fun _=>by kernel_rfl
theorem C83:SQ (B3v A4N):=sF MO C5 (tc call144 O9 (tc call155 D3Q B9)) func103 D7W
def B3w(f:A6F):Nat×Fn:=(104,⟨[.val true (.pair (.int .i64) (.pair .bool (.rs 5 (.int .u8)))) false],[.val false .bool],fun x=>f x.1⟩)
theorem D7a{D3:J3}:EF cfg [V5 D3] [] f104 (B3w (B9g D3)):=fun _=>by kernel_rfl
theorem C84:SQ (B3w A6G):=sF MO C5 (tc call61 A0O B9) func104 D7a
def C6N(f:B9h):Nat×Fn:=(116,⟨[.val true (.pair (.int .i64) (.pair (.rs 5 (.int .u8)) (.pair (.pair (.int .i64) (.pair .bool (.rs 5 (.int .u8)))) (.pair (.pair (.int .i64) (.rs 150 B8)) (.pair (.pair (.int .i64) (.rs 150 B8)) (.pair (.rs 113 E6) M8)))))) false],[.val false .bool],fun x=>f x.1⟩)
theorem E28{D3:J3}:EF cfg [V5 D3] [(3,⟨[],lt 3 53 [.b 4],false⟩),(26,⟨[.t 8 false [.int .i64]],lt 9 47 [.b 4,.t 3,.t 4],false⟩),(1689,⟨[],lt 13 28 [],false⟩)] f116 (C6N (C5m D3)):=fun _=>by kernel_rfl
theorem E29:SQ (C6N B9i):=sF MO C5 (tc call61 A0O B9) func116 E28
def C6O(f:B9j):Nat×Fn:=(43,⟨[.val true (.pair (.int .i64) (.pair (.rs 5 (.int .u8)) (.pair (.pair (.int .i64) (.pair .bool (.rs 5 (.int .u8)))) (.pair (.pair (.int .i64) (.rs 150 B8)) (.pair (.pair (.int .i64) (.rs 150 B8)) (.pair (.rs 113 E6) M8)))))) false],[.val false .bool],fun x=>f x.1⟩)
theorem E2A{D3:J3}{V6:A4F}{A0l:A4M}{A2F:A6F}{C1J:B9h}:EF cfg [V5 D3,B2c V6,B3v A0l,B3w A2F,C6N C1J] [(3,⟨[],lt 6 27 [],false⟩),(7,⟨[],lt 33 16 [],false⟩),(15,⟨[],lt 49 31 [],false⟩)] f43 (C6O (B9k D3 V6 A0l A2F C1J)):=fun _=>by kernel_rfl
theorem E2B:SQ (C6O A5l):=sF MO C5 (tc call61 A0O (tc call63 C3L (tc call103 C83 (tc call104 C84 (tc call116 E29 B9))))) func43 E2A
def Q0(f:J2):Nat×Fn:=(139,⟨[.val false (.rs 150 B8) false],[.val false (.sl 150 B8)],fun x=>f x.1⟩)
theorem A7E:EF cfg [] [] f139 (Q0 A02):=fun _=>by kernel_rfl
theorem A22:SQ (Q0 K4):=sF MO C5 B9 func139 A7E
def A7b(f:A2N):Nat×Fn:=(64,⟨[.val true (.pair (.int .i64) (.rs 150 B8)) false],[.val true A07],fun x=>f x.1⟩)
theorem D4G{G1:J2}:EF cfg [Q0 G1] [] f64 (A7b (B7L G1)):=fun _=>by kernel_rfl
theorem B7k:SQ (A7b A4u):=sF MO C5 (tc call139 A22 B9) func64 D4G
def A9s(f:A40):Nat×Fn:=(107,⟨[.val true (.pair (.int .i64) (.pair .bool (.rs 5 (.int .u8)))) false],[.val true A03],fun x=>f x.1⟩)
theorem D3R{C2:G0}:EF cfg [L8 C2] [] f107 (A9s (B4v C2)):=fun _=>by kernel_rfl
theorem C3M:SQ (A9s A5m):=sF MO C5 (tc call144 O9 B9) func107 D3R
def C0q(f:B3c):Nat×Fn:=(82,⟨[.val true (.pair (.int .i64) (.pair (.rs 5 (.int .u8)) (.pair (.pair (.int .i64) (.pair .bool (.rs 5 (.int .u8)))) (.pair (.pair (.int .i64) (.rs 150 B8)) (.pair (.pair (.int .i64) (.rs 150 B8)) (.pair (.rs 113 E6) M8)))))) false],[.val true B8J],fun x=>f x.1⟩)
theorem D7b{N0:A2N}{S1:A40}{C2:G0}:EF cfg [A7b N0,A9s S1,L8 C2] [(1018,⟨[.t 27 false [.int .i64],.b 3 [.int .i64,.own 40960,.int .i64,.bool,.own 57346,.int .i64,.own 73729,.int .i64,.own 86017,.own 100000000,.int .i64,.int .i64],.r 40960 5 (.int .u8),.r 57346 5 (.int .u8),.r 73729 150 B8,.r 86017 150 B8,.r 100000000 113 E6],lt 28 14 [.b 5,.r 38,.r 39,.r 139264,.t 5],false⟩)] f82 (C0q (B9l N0 S1 C2)):=fun _=>by kernel_rfl
theorem D7c:SQ (C0q B3d):=sF MO C5 (tc call64 B7k (tc call107 C3M (tc call144 O9 B9))) func82 D7b
def C3N(f:B6D):Nat×Fn:=(156,⟨[.val true (.pair (.int .i64) (.pair (.int .i64) (.pair (.int .i64) (.rs 5 (.int .u8))))) false],[.val false .bool],fun x=>f x.1⟩)
theorem D9w{D3:J3}:EF cfg [V5 D3] [] f156 (C3N (A5n D3)):=fun _=>by kernel_rfl
theorem E00:SQ (C3N A12):=sF MO C5 (tc call61 A0O B9) func156 D9w
def A2T(f:Q7):Nat×Fn:=(109,⟨[.val true (.pair (.int .i64) (.pair (.int .i64) (.pair (.int .i64) (.rs 5 (.int .u8))))) false,.val false (.int .i64) false],[.val false .bool],fun x=>f x.1 x.2.1⟩)
theorem D4H:EF cfg [] [] f109 (A2T C4v):=fun _=>by kernel_rfl
theorem A57:SQ (A2T A2O):=sF MO C5 B9 func109 D4H
def C6P(f:B9m):Nat×Fn:=(157,⟨[.val true (.pair (.int .i64) (.pair (.int .i64) (.pair (.int .i64) (.rs 5 (.int .u8))))) false],[.val false .bool],fun x=>f x.1⟩)
theorem E2C{H6:Q7}:EF cfg [A2T H6] [(235,⟨[.t 13 false [.bool]],[.t 14,.t 15],true⟩)] f157 (C6P (A8B H6)):=fun _=>by kernel_rfl
theorem E2D:SQ (C6P A1n):=sF MO C5 (tc call109 A57 B9) func157 E2C
def B1u(f:A4v):Nat×Fn:=(105,⟨[.val true (.pair (.int .i64) (.pair (.int .i64) (.pair (.int .i64) (.rs 5 (.int .u8))))) false],[.val false (.int .i64)],fun x=>f x.1⟩)
theorem D4I{B6p:B6D}{C1K:B9m}:EF cfg [C3N B6p,C6P C1K] [(3,⟨[],lt 3 8 [],false⟩),(58,⟨[.t 13 false [.bool]],lt 14 6 [],true⟩)] f105 (B1u (A3a B6p C1K)):=fun _=>by kernel_rfl
theorem C5G:SQ (B1u T1):=sF MO C5 (tc call156 E00 (tc call157 E2D B9)) func105 D4I
def B7l(f:B1N):Nat×Fn:=(106,⟨[.val true (.pair (.int .i64) (.pair .bool (.rs 5 (.int .u8)))) false,.val true (.pair (.int .i64) (.pair (.int .i64) (.pair (.int .i64) (.rs 5 (.int .u8))))) false],[.val false .bool],fun x=>f x.1 x.2.1⟩)
theorem D4J:EF cfg [] [] f106 (B7l B7M):=fun _=>by kernel_rfl
theorem D4K:SQ (B7l B1O):=sF MO C5 B9 func106 D4J
def C4Q(f:B4T):Nat×Fn:=(108,⟨[.val true (.pair (.int .i64) (.pair (.int .i64) (.pair (.int .i64) (.rs 5 (.int .u8))))) false],[.val false (.sl 5 (.int .u8)),.val false .bool],fun x=>f x.1⟩)
theorem E63{H6:Q7}{C2:G0}:EF cfg [A2T H6,L8 C2] [(7,⟨[.t 4 false [.ro 5 (.int .u8)],.t 5 false [.int .i64]],lt 9 11 [],false⟩),(31,⟨[.t 6 false [.int .i64]],lt 20 7 [],true⟩)] f108 (C4Q (C8s H6 C2)):=fun _=>by kernel_rfl
theorem D5q:SQ (C4Q B8O):=sF MO C5 (tc call109 A57 (tc call144 O9 B9)) func108 E63
def D3S(f:C7N):Nat×Fn:=(38,⟨[.val true (.pair (.int .i64) (.pair .bool (.rs 5 (.int .u8)))) false,.val true (.pair (.int .i64) (.pair (.int .i64) (.pair (.int .i64) (.rs 5 (.int .u8))))) false],[.val true A03,.val false (.sl 5 (.int .u8)),.val false (.int .i64)],fun x=>f x.1 x.2.1⟩)
theorem E8r{A2F:A6F}{A1M:A4v}{B21:B1N}{S1:A40}{A6s:B4T}{H6:Q7}:EF cfg [B3w A2F,B1u A1M,B7l B21,A9s S1,C4Q A6s,A2T H6] [(3,⟨[],lt 10 14 [],false⟩),(6,⟨[.t 23 false [.bool]],lt 10 13 [],true⟩),(15,⟨[.b 7 [.int .i64,.bool,.own 100002000],.r 100002000 5 (.int .u8)],lt 42 14 (lt 31 9 [.r 54,.r 114690,.r 147456,.t 8,.t 9,.t 28,.t 29]),false⟩)] f38 (D3S (D22 A2F A1M B21 S1 A6s H6)):=fun _=>by kernel_rfl
theorem E8s:SQ (D3S C7O):=sF MO C5 (tc call104 C84 (tc call105 C5G (tc call106 D4K (tc call107 C3M (tc call108 D5q (tc call109 A57 B9)))))) func38 E8r
def B2w(f:A7k):Nat×Fn:=(209,⟨[],[.val false (.sl 150 B8)],fun x=>f⟩)
theorem D0c{A0E:A37}{A59:A7K}:EF cfg [B2v A0E,C5F A59] [(58,⟨[.t 1 false [.own 100000000],.t 9 false [.int .i64],.r 100000000 150 B8],lt 10 16 (lt 3 4 [.r 23,.r 24,.x 11]),false⟩)] f209 (B2w (C1k A0E A59)):=fun _=>by kernel_rfl
theorem D0d:SQ (B2w A7l):=sF MO C5 (tc call231 C1o (tc call232 D49 B9)) func209 D0c
def B5M(f:A9L):Nat×Fn:=(217,⟨[.val false (.int .i64) false],[.val true B8,.val false .bool],fun x=>f x.1⟩)
theorem D3T{D3:J3}{A82:A7k}:EF cfg [V5 D3,B2w A82] [] f217 (B5M (B4w D3 A82)):=fun _=>by kernel_rfl
theorem D3U:SQ (B5M B50):=sF MO C5 (tc call61 A0O (tc call209 D0d B9)) func217 D3T
def C3O(f:B6E):Nat×Fn:=(191,⟨[.val true (.pair (.int .i64) (.rs 150 B8)) false,.val false (.int .i64) false],[.val true B8,.val false .bool],fun x=>f x.1 x.2.1⟩)
theorem E01{B0F:A9L}:EF cfg [B5M B0F] [] f191 (C3O (C2f B0F)):=fun _=>by kernel_rfl
theorem E02:SQ (C3O B6F):=sF MO C5 (tc call217 D3U B9) func191 E01
def B1v(f:A4w):Nat×Fn:=(192,⟨[.val false (.rs 5 (.int .u8)) false,.val false (.int .i64) false,.val false (.int .i64) false],[.val false (.int .i64),.val false (.int .i64),.val false .bool],fun x=>f x.1 x.2.1 x.2.2.1⟩)
theorem D4L{D3:J3}:EF cfg [V5 D3] [(3,⟨[],lt 13 11 [],false⟩),(127,⟨[],lt 42 27 (lt 10 3 [.t 1]),false⟩),(1018,⟨[.t 1 false [.int .i64],.t 10 false [.int .i64],.t 11 false [.int .i64]],lt 42 27 [.t 12],false⟩),(2036,⟨[],lt 42 8 [],false⟩)] f192 (B1v (B7N D3)):=fun _=>by kernel_rfl
theorem C5H:SQ (B1v A7N):=sF MO C5 (tc call61 A0O B9) func192 D4L
def C3P(f:B6G):Nat×Fn:=(210,⟨[],[.val false (.pa 257 M8)],fun x=>f⟩)
theorem E03{A0E:A37}{A48:A5h}:EF (cfg.withAr [(247,257,246)]) [B2v A0E,C3C A48] [(7,⟨[.r 1 247 M8],lt 7 16 [.r 32768,.t 2,.t 3,.x 12,.x 20],true⟩),(58,⟨[.t 9 false [.int .i64],.r 1 247 M8],lt 10 13 [.t 2,.t 3,.x 12,.x 20],false⟩),(250,⟨[.t 4 false [.int .i64],.t 5 false [.int .i64],.r 1 247 M8],lt 23 22 [.t 6,.x 33,.x 40],false⟩),(32038,⟨[.t 4 false [.int .i64],.t 29 false [.int .i64],.r 1 247 M8],lt 30 15 [.t 6,.x 33,.x 40],false⟩)] f210 (C3P (D05 A0E A48)):=fun _=>by kernel_rfl
theorem E04:SQ (C3P B2L):=sF MO (B4Q (l:= [(247,257,246)]) C5 ⟨tA t247 ⟨true,M8,16,[(0,1,false),(1,1,false)]⟩ underlying247,trivial⟩) (tc call231 C1o (tc call233 D3C B9)) func210 E03
def D3V(f:C7P):Nat×Fn:=(212,⟨[.val false (.pa 257 M8) false,.val false (.sl 5 (.int .u8)) false,.val false .str false],[.val false (.sl 5 (.int .u8))],fun x=>f x.1 x.2.1 x.2.2.1⟩)
theorem E8t:EF (cfg.withAr [(247,257,246)]) [] [(7,⟨[.t 1 false [.own 100000001],.t 7 false [.int .i64],.t 8 false [.int .i64],.r 100000001 5 (.int .u8)],lt 12 43 [.b 10,.r 47,.r 48,.r 1100,.r 100001000,.t 9,.t 10],true⟩),(58,⟨[.t 1 false [.own 100000001],.t 7 false [.int .i64],.t 8 false [.int .i64],.t 9 false [.int .i64],.r 100000001 5 (.int .u8)],lt 12 43 [.b 10,.r 47,.r 48,.r 1100,.r 100001000,.t 10],false⟩),(14926,⟨[.t 1 false [.own 100001000],.t 7 false [.int .i64],.t 8 false [.int .i64],.r 100001000 5 (.int .u8)],lt 37 18 [.r 47,.r 48,.r 1100,.r 100000001],false⟩)] f212 (D3V D24):=fun _=>by kernel_rfl
theorem E8u:SQ (D3V C7Q):=sF MO (B4Q (l:= [(247,257,246)]) C5 ⟨tA t247 ⟨true,M8,16,[(0,1,false),(1,1,false)]⟩ underlying247,trivial⟩) B9 func212 E8t
def E2E:Nat->Option Jn:=B8H [(63,⟨[.t 8 false [.own 100000001],.r 100000001 5 (.int .u8)],lt 71 8 (lt 28 41 (lt 11 4 [.b 9,.r 75,.r 76,.r 100001000])),false⟩),(506,⟨[.t 8 false [.own 100000001],.t 30 false [.int .i64],.b 9 [.int .i64,.int .i64],.r 100000001 5 (.int .u8)],lt 71 8 (lt 31 38 (lt 11 4 [.r 75,.r 76,.r 100001000])),false⟩),(129638,⟨[.t 8 false [.own 100001000],.t 12 false [.int .i64],.b 9 [.int .i64,.int .i64],.r 100001000 5 (.int .u8)],lt 71 7 (lt 34 35 [.r 75,.r 76,.r 100000001,.t 13,.t 14]),false⟩),(16593703,⟨[],lt 59 10 [],false⟩)]
abbrev E2F:List PK:= [.val false (.pa 257 M8) false,.val false (.rs 5 (.int .u8)) false]
abbrev E2G:List RK:= [.val false .str]
def D3W(f:B9o):Nat×Fn:=(265,⟨E2F,E2G,fun x=>f x.1 x.2.1⟩)
def E2H:Fn:=(D3W B9p).2
theorem E2I:∀ x,F1I E2E x=C5n x.1 x.2.1:=by intro x;kernel_rfl
theorem E2J:A1e prog 265 E2H:=E8q E2I
def B7m(f:B1P):Nat×Fn:=(266,⟨[.val false (.rs 5 (.int .u8)) false,.val false (.rs 5 (.int .u8)) false],[.val false .bool],fun x=>f x.1 x.2.1⟩)
theorem D4M:EF cfg [] [] f266 (B7m B7O):=fun _=>by kernel_rfl
theorem D4N:SQ (B7m B7P):=sF MO C5 B9 func266 D4M
def C6Q(f:B9q):Nat×Fn:=(242,⟨[.val false (.rs 5 (.int .u8)) false],[.val false .str,.val false .bool],fun x=>f x.1⟩)
theorem E2K{B6r:B6G}{C8N:C7P}{C1L:B9o}{B22:B1P}:EF cfg [C3P B6r,D3V C8N,D3W C1L,B7m B22] [] f242 (C6Q (C5o B6r C8N C1L B22)):=fun _=>by kernel_rfl
theorem E2L:SQ (C6Q B9r):=sF MO C5 (tc call210 E04 (tc call212 E8u (tc call265 E2J (tc call266 D4N B9)))) func242 E2K
def B7n(f:B1Q):Nat×Fn:=(218,⟨[.val false (.rs 5 (.int .u8)) false,.val false (.int .i64) false],[.val false .str,.val false (.int .i64),.val false .bool],fun x=>f x.1 x.2.1⟩)
theorem D4O{A1N:A4w}{C1M:B9q}:EF cfg [B1v A1N,C6Q C1M] [(7,⟨[],lt 19 14 [],false⟩)] f218 (B7n (B7Q A1N C1M)):=fun _=>by kernel_rfl
theorem D4P:SQ (B7n B1R):=sF MO C5 (tc call192 C5H (tc call242 E2L B9)) func218 D4O
def A9t(f:A41):Nat×Fn:=(195,⟨[.ptr A07],[],fun x=>f x.1⟩)
theorem D3a{G1:J2}{A1I:A5j}:EF cfg [Q0 G1,C0o A1I] [(14,⟨[.t 2 false [.int .i64],.t 14 false [.int .i64]],lt 15 10 [.b 4,.t 3,.t 4,.t 35,.x 17],false⟩)] f195 (A9t (B51 G1 A1I)):=fun _=>by kernel_rfl
theorem C3Q:SQ (A9t A1Q):=sF MO C5 (tc call139 A22 (tc call179 D3P B9)) func195 D3a
def B7o(f:B1S):Nat×Fn:=(161,⟨[.ptr A07,.val true B8 false],[],fun x=>f x.1 x.2.1⟩)
theorem D4Q{P4:P2}{A0m:A41}:EF cfg [A1g P4,A9t A0m] [] f161 (B7o (B1T P4 A0m)):=fun _=>by kernel_rfl
theorem D4R:SQ (B7o A2P):=sF MO C5 (tc call194 A6o (tc call195 C3Q B9)) func161 D4Q
def C6R(f:B9s):Nat×Fn:=(196,⟨[.val true (.pair (.int .i64) (.rs 150 B8)) false,.val false (.int .i64) false],[.val true A07],fun x=>f x.1 x.2.1⟩)
theorem E2M{D3:J3}{V6:A4F}{N0:A2N}{A0m:A41}:EF cfg [V5 D3,B2c V6,A7b N0,A9t A0m] [(7,⟨[],lt 8 8 [],false⟩)] f196 (C6R (C5p D3 V6 N0 A0m)):=fun _=>by kernel_rfl
theorem E2N:SQ (C6R B9t):=sF MO C5 (tc call61 A0O (tc call63 C3L (tc call64 B7k (tc call195 C3Q B9)))) func196 E2M
def N9(f:K6):Nat×Fn:=(163,⟨[.ptr (.pair (.rs 5 (.int .u8)) (.pair (.int .i64) (.pair (.int .i64) (.pair A07 (.sl 150 B8))))),.val false (.int .i64) false],[],fun x=>f x.1 x.2.1⟩)
theorem B5k:EF cfg [] [] f163 (N9 V4):=fun _=>by kernel_rfl
theorem A01:SQ (N9 K7):=sF MO C5 B9 func163 B5k
def U5(f:O1):Nat×Fn:=(159,⟨[.ptr (.pair (.rs 5 (.int .u8)) (.pair (.int .i64) (.pair (.int .i64) (.pair A07 (.sl 150 B8))))),.val false (.int .i64) false],[.val false (.int .i64)],fun x=>f x.1 x.2.1⟩)
theorem B40{E9:K6}{A1N:A4w}:EF cfg [N9 E9,B1v A1N] [] f159 (U5 (A4O E9 A1N)):=fun _=>by kernel_rfl
theorem A2D:SQ (U5 W5):=sF MO C5 (tc call163 A01 (tc call192 C5H B9)) func159 B40
def A0i(f:A06):Nat×Fn:=(158,⟨[.ptr (.pair (.rs 5 (.int .u8)) (.pair (.int .i64) (.pair (.int .i64) (.pair A07 (.sl 150 B8))))),.val false (.int .i64) false],[.val true B8],fun x=>f x.1 x.2.1⟩)
theorem B5N{E9:K6}{B6q:B6E}:EF cfg [N9 E9,C3O B6q] [] f158 (A0i (A5E E9 B6q)):=fun _=>by kernel_rfl
theorem A5w:SQ (A0i T7):=sF MO C5 (tc call163 A01 (tc call191 E02 B9)) func158 B5N
def A34(f:A3E):Nat×Fn:=(193,⟨[.ptr (.pair (.rs 5 (.int .u8)) (.pair (.int .i64) (.pair (.int .i64) (.pair A07 (.sl 150 B8)))))],[.val false .str],fun x=>f x.1⟩)
theorem B5l{E9:K6}{B23:B1Q}:EF cfg [N9 E9,B7n B23] [] f193 (A34 (A3F E9 B23)):=fun _=>by kernel_rfl
theorem B5m:SQ (A34 A0M):=sF MO C5 (tc call163 A01 (tc call218 D4P B9)) func193 B5l
def A1u(f:A0B):Nat×Fn:=(160,⟨[.ptr (.pair (.rs 5 (.int .u8)) (.pair (.int .i64) (.pair (.int .i64) (.pair A07 (.sl 150 B8))))),.val false (.int .i64) false],[.val true B8],fun x=>f x.1 x.2.1⟩)
theorem B30{N5:A06}{I3:O1}{A1a:A3E}:EF cfg [A0i N5,U5 I3,A34 A1a] [(15,⟨[.b 6 [.str,.str],.b 1000 [.ro 5 (.int .u8),.int .i64,.int .i64,.int .i64,.own 100000000,.own 100000001],.r 100000000 150 B8,.r 100000001 150 B8],lt 22 6 (lt 10 11 [.r 43012,.r 43013,.r 55300,.r 55301,.r 112644,.r 112645]),false⟩)] f160 (A1u (A1o N5 I3 A1a)):=fun _=>by kernel_rfl
theorem B31:SQ (A1u A0C):=sF MO C5 (tc call158 A5w (tc call159 A2D (tc call193 B5m B9))) func160 B30
def A2E(f:A0T):Nat×Fn:=(162,⟨[.ptr (.pair (.rs 5 (.int .u8)) (.pair (.int .i64) (.pair (.int .i64) (.pair A07 (.sl 150 B8))))),.val false (.int .i64) false],[],fun x=>f x.1 x.2.1⟩)
theorem B41{I3:O1}{E9:K6}{C1N:B9s}:EF cfg [U5 I3,N9 E9,C6R C1N] [(3,⟨[.b 1000 [.ro 5 (.int .u8),.int .i64,.int .i64,.int .i64,.own 100000000,.own 100000001],.r 100000000 150 B8,.r 100000001 150 B8],lt 7 13 [.r 30724,.r 30725,.r 83972,.r 83973],true⟩)] f162 (A2E (A25 I3 E9 C1N)):=fun _=>by kernel_rfl
theorem B42:SQ (A2E A26):=sF MO C5 (tc call159 A2D (tc call163 A01 (tc call196 E2N B9))) func162 B41
def A35(f:A00):Nat×Fn:=(110,⟨[.ptr (.pair (.rs 5 (.int .u8)) (.pair (.int .i64) (.pair (.int .i64) (.pair A07 (.sl 150 B8))))),.val false (.int .i64) false],[],fun x=>f x.1 x.2.1⟩)
theorem B5n{N5:A06}{I3:O1}{S2:A0B}{B24:B1S}{A0W:A0T}{E9:K6}:EF cfg [A0i N5,U5 I3,A1u S2,B7o B24,A2E A0W,N9 E9] [(7,⟨[.b 5 [.str,.str],.b 1000 [.ro 5 (.int .u8),.int .i64,.int .i64,.int .i64,.own 100000000,.own 100000001],.r 100000000 150 B8,.r 100000001 150 B8],lt 16 27 [.r 1004,.r 1005,.r 75780,.r 75781,.r 100356,.r 100357,.r 104452,.r 104453,.r 124932,.r 124933,.r 165889],false⟩)] f110 (A35 (A32 N5 I3 S2 B24 A0W E9)):=fun _=>by kernel_rfl
theorem B5o:SQ (A35 R2):=sF MO C5 (tc call158 A5w (tc call159 A2D (tc call160 B31 (tc call161 D4R (tc call162 B42 (tc call163 A01 B9)))))) func110 B5n
def B7p(f:B1U):Nat×Fn:=(39,⟨[.val true (.pair (.int .i64) (.rs 150 B8)) false,.val false (.int .i64) false,.val false (.rs 5 (.int .u8)) false],[.val false (.sl 150 B8),.val true A07,.val false (.int .i64)],fun x=>f x.1 x.2.1 x.2.2.1⟩)
theorem D4S{D3:J3}{V6:A4F}{N0:A2N}{R3:A00}:EF cfg [V5 D3,B2c V6,A7b N0,A35 R3] [(3,⟨[],lt 10 8 [],false⟩),(6,⟨[.t 17 false [.bool]],lt 10 7 [],true⟩),(15,⟨[.b 9 [.ro 5 (.int .u8),.int .i64,.int .i64,.int .i64,.own 100002000,.own 100002001],.r 100002000 150 B8,.r 100002001 150 B8],lt 24 12 [.r 94209,.r 149508,.r 149509],true⟩),(60,⟨[.b 9 [.ro 5 (.int .u8),.int .i64,.int .i64,.int .i64,.own 100002000,.own 100002001],.r 100002000 150 B8,.r 100002001 150 B8],lt 24 12 [.r 94209,.r 149508,.r 149509],false⟩)] f39 (B7p (B7R D3 V6 N0 R3)):=fun _=>by kernel_rfl
theorem D4T:SQ (B7p B1V):=sF MO C5 (tc call61 A0O (tc call63 C3L (tc call64 B7k (tc call110 B5o B9)))) func39 D4S
def A9u(f:A3G):Nat×Fn:=(83,⟨[.ptr B8J,.val false (.int .i64) false],[.val false (.int .i64),.val false .bool],fun x=>f x.1 x.2.1⟩)
theorem D7d:EF cfg [] [(7,⟨[.t 6 false [.int .i64]],lt 7 21 [.x 20],true⟩),(28,⟨[.t 6 false [.int .i64]],lt 7 21 [.x 20],false⟩)] f83 (A9u B9u):=fun _=>by kernel_rfl
theorem C0r:SQ (A9u A3H):=sF MO C5 B9 func83 D7d
def C0s(f:B3f):Nat×Fn:=(261,⟨[.val false (.int .i64) false],[.val false (.int .i64),.val false (.int .i64)],fun x=>f x.1⟩)
theorem D7e:EF cfg [] [(26,⟨[.t 5 false [.bool]],[.t 6,.t 7],true⟩)] f261 (C0s B9v):=fun _=>by kernel_rfl
theorem D7f:SQ (C0s B3g):=sF MO C5 B9 func261 D7e
def C0t(f:B3h):Nat×Fn:=(262,⟨[.val false (.int .i64) false],[.val false (.int .i64),.val false (.int .i64)],fun x=>f x.1⟩)
theorem D7g:EF cfg [] [(26,⟨[.t 5 false [.bool]],[.t 6,.t 7],true⟩),(107,⟨[.t 8 false [.bool]],[.t 9,.t 10],true⟩),(431,⟨[.t 11 false [.bool]],[.t 12,.t 13],true⟩)] f262 (C0t B9w):=fun _=>by kernel_rfl
theorem D7h:SQ (C0t B3i):=sF MO C5 B9 func262 D7g
def A9v(f:A5I):Nat×Fn:=(263,⟨[.val false (.int .i64) false],[.val false (.int .i64),.val false (.int .i64)],fun x=>f x.1⟩)
theorem C85:EF cfg [] [(26,⟨[.t 5 false [.bool]],lt 6 4 [],true⟩)] f263 (A9v A9O):=fun _=>by kernel_rfl
theorem C86:SQ (A9v A5J):=sF MO C5 B9 func263 C85
def B14(f:A6I):Nat×Fn:=(264,⟨[.val false (.int .i64) false],[.val false (.int .i64),.val false (.int .i64)],fun x=>f x.1⟩)
theorem C9O:EF cfg [] [(26,⟨[.t 5 false [.bool]],lt 6 4 [],true⟩)] f264 (B14 B0j):=fun _=>by kernel_rfl
theorem C9P:SQ (B14 A6J):=sF MO C5 B9 func264 C9O
def A9w(f:A42):Nat×Fn:=(240,⟨[.val false (.int .i64) false,.val false (.int .i64) false],[.val false (.int .i64),.val false (.int .i64)],fun x=>f x.1 x.2.1⟩)
theorem D3b{D3:J3}{B4F:B3f}{B4G:B3h}{A5W:A5I}{A6t:A6I}:EF cfg [V5 D3,C0s B4F,C0t B4G,A9v A5W,B14 A6t] [] f240 (A9w (A9P D3 B4F B4G A5W A6t)):=fun _=>by kernel_rfl
theorem C3R:SQ (A9w A08):=sF MO C5 (tc call61 A0O (tc call261 D7f (tc call262 D7h (tc call263 C86 (tc call264 C9P B9))))) func240 D3b
def B15(f:A6K):Nat×Fn:=(241,⟨[.ptr A2u,.val true (.pair (.int .i64) (.pair (.int .i64) (.pair B4i (.rs 5 (.int .u8))))) false],[],fun x=>f x.1 x.2.1⟩)
theorem C9Q{C2:G0}:EF cfg [L8 C2] [] f241 (B15 (B0k C2)):=fun _=>by kernel_rfl
theorem C9R:SQ (B15 A6L):=sF MO C5 (tc call144 O9 B9) func241 C9Q
abbrev C0u:List PK:= [.ptr A2u,.val true (.pair (.int .i64) (.pair (.int .i64) B4i)) false,.val false (.int .i64) false]
abbrev B00:List RK:= []
def B01(f:A27):Nat×Fn:=(241,⟨C0u,B00,fun x=>f x.1 x.2.1 x.2.2.1⟩)
def C0v:Fn:=(B01 A0c).2
theorem C0w(C2:G0):∀ x,F0R cfg [L8 C2] (B8H []) 24 [] (f241.body.getD .skip) A2u (.pair (.int .i64) (.pair (.int .i64) B4i)) (kr:=E6) 9 5 (fun x0=>x0.1.2.2.2.2.2.1) B00 x=A4P C2 x.1 x.2.1 x.2.2.1:=by intro x;kernel_rfl
theorem C10:C5d prog ⟨241,C0v,9,6,5⟩:=F1T MO C5 (tc call144 O9 B9) func241 (by kernel_rfl) (lq:=9) (off:=5) (by decide) (by decide) (fun x0=>rfl) (fun x0=>rfl) (fun x1=>rfl) (C0w H1)
end
end Go.Proofs.YthnfghmjipikhaaGreatDoor.Ev
