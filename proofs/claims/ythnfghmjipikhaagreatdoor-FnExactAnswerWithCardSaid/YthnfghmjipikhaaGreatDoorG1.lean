/- Each function of the program does what its plain function says. -/
import Derived.Test.YthnfghmjipikhaaGreatDoorTy
import Derived.Test.YthnfghmjipikhaaGreatDoorPu
import Derived.Test.YthnfghmjipikhaaGreatDoorIns
import Derived.Test.YthnfghmjipikhaaGreatDoorLibT
import Derived.Test.YthnfghmjipikhaaGreatDoorChunk
set_option linter.unusedVariables false
set_option maxRecDepth 100000
namespace Go.Proofs.YthnfghmjipikhaaGreatDoor.Ev
open Tryz
noncomputable section
abbrev C1P:List PK:= [.val false (.int .i64) false]
abbrev C1Q:List RK:= [.val false .str]
def B4O(f:A41):Nat×Fn:=(132,⟨C1P,C1Q,fun x=>f x.1⟩)
def C1R:Fn:=(B4O A8D).2
theorem C1S:A0d prog 132 C1R:=fun x y h=>by cases h
abbrev A2D:List PK:= [.val false (.sl 150 B6) false,.val false (.int .i64) false,.val false (.sl 150 B6) false]
abbrev A2E:List RK:= [.val false (.sl 150 B6)]
def V2(f:L5):Nat×Fn:=(194,⟨A2D,A2E,fun x=>f x.1 x.2.1 x.2.2.1⟩)
def A2F:Fn:=(V2 P3).2
theorem A2G:A0d prog 194 A2F:=B6U B6 (by decide)
abbrev A2t:List PK:= [.val false (.sl 150 B6) false,.val false (.int .i64) false]
abbrev A2u:List RK:= [.val false (.sl 150 B6)]
def A00(f:M1):Nat×Fn:=(230,⟨A2t,A2u,fun x=>f x.1 x.2.1⟩)
def A2v:Fn:=(A00 Q7).2
theorem A2w:A0d prog 230 A2v:=B8N
abbrev B9L:List PK:= [.val false .str false,.val false .str false]
abbrev B9M:List RK:= [.val false (.sl 9 .str)]
def A6w(f:A0H):Nat×Fn:=(231,⟨B9L,B9M,fun x=>f x.1 x.2.1⟩)
def B9N:Fn:=(A6w A6s).2
theorem B3O:A0d prog 231 B9N:=C6G
abbrev C2N:List PK:= [.val false .str false,.val false .str false]
abbrev C2O:List RK:= [.val false .str,.val false .str,.val false .bool]
def B5l(f:A2i):Nat×Fn:=(232,⟨C2N,C2O,fun x=>f x.1 x.2.1⟩)
def C2P:Fn:=(B5l B5g).2
theorem C2Q:A0d prog 232 C2P:=D12
abbrev C1T:List PK:= [.val false .str false]
abbrev C1U:List RK:= [.val false (.int .i64),.val false (.fnc 999999999)]
def B4P(f:A1a):Nat×Fn:=(233,⟨C1T,C1U,fun x=>f x.1⟩)
def C1V:Fn:=(B4P B41).2
theorem C1W:A0d prog 233 C1V:=C7w
abbrev C1a:List PK:= [.val false (.int .i64) false]
abbrev C1b:List RK:= [.val false .str]
def B4Q(f:A42):Nat×Fn:=(142,⟨C1a,C1b,fun x=>f x.1⟩)
def C1c:Fn:=(B4Q A43).2
theorem C1d:A0d prog 142 C1c:=C7v
abbrev A3o:List PK:= [.val false (.sl 113 F6) false,.val false (.int .i64) false,.val false (.int .i64) false]
abbrev A3p:List RK:= [.val false (.sl 113 F6)]
def A0E(f:N3):Nat×Fn:=(86,⟨A3o,A3p,fun x=>f x.1 x.2.1 x.2.2.1⟩)
def A3q:Fn:=(A0E N4).2
theorem A3r:A0d prog 86 A3q:=B8M F6 (by decide)
def A3h(f:W8):Nat×Fn:=(16,⟨[.val false (.rs 5 (.int .u8)) false,.val false (.rs 5 (.int .u8)) false],[.val false .bool],fun x=>f x.1 x.2.1⟩)
theorem C6I:EF cfg [] [(58,⟨[.t 5 false [.int .i64]],lt 11 15 [],false⟩)] f16 (A3h B42):=fun _=>by kernel_rfl
theorem A9k:SQ (A3h A0K):=sF MO D9 C7 func16 C6I
def A1K(f:Q8):Nat×Fn:=(19,⟨[.val false (.sl 5 (.int .u8)) true,.val false (.int .i64) false],[.val false (.int .i64)],fun x=>f x.1 x.2.1⟩)
theorem C2R:EF cfg [] [(26,⟨[.t 0 false [.own 1000],.t 1 false [.int .i64],.t 5 false [.int .i64],.r 1000 5 (.int .u8)],lt 6 13 [.x 16],false⟩)] f19 (A1K B04):=fun _=>by kernel_rfl
theorem A6C:SQ (A1K S4):=sF MO D9 C7 func19 C2R
def A1L(f:Q9):Nat×Fn:=(20,⟨[.val false (.rs 5 (.int .u8)) false,.val false (.int .i64) false],[.val false (.int .i64)],fun x=>f x.1 x.2.1⟩)
theorem C2S:EF cfg [] [(26,⟨[.t 1 false [.int .i64],.t 5 false [.int .i64]],lt 6 15 [],false⟩)] f20 (A1L B05):=fun _=>by kernel_rfl
theorem A6D:SQ (A1L S5):=sF MO D9 C7 func20 C2S
def B4R(f:A6U):Nat×Fn:=(125,⟨[.val true B6 false,.val false (.int .i64) false],[.val false (.int .i64)],fun x=>f x.1 x.2.1⟩)
theorem C6J:EF cfg [] [] f125 (B4R B43):=fun _=>by kernel_rfl
theorem C6K:SQ (B4R A3d):=sF MO D9 C7 func125 C6J
def B2e(f:A7C):Nat×Fn:=(50,⟨[.val false (.rs 161 B6) false,.val false (.int .i64) false],[.val false (.int .i64)],fun x=>f x.1 x.2.1⟩)
theorem C4O{A3i:A6U}:EF cfg [B4R A3i] [(122,⟨[.t 1 false [.int .i64],.t 5 false [.int .i64]],lt 12 14 [],false⟩)] f50 (B2e (B1W A3i)):=fun _=>by kernel_rfl
theorem C4P:SQ (B2e A7D):=sF MO D9 (tc call125 C6K C7) func50 C4O
def B4S(f:A9J):Nat×Fn:=(9,⟨[.val true (.pair (.int .i64) (.rs 161 B6)) false,.val false (.int .i64) false],[.val false (.int .i64)],fun x=>f x.1 x.2.1⟩)
theorem C6L{A7h:A7C}:EF cfg [B2e A7h] [] f9 (B4S (B44 A7h)):=fun _=>by kernel_rfl
theorem C6M:SQ (B4S A9K):=sF MO D9 (tc call50 C4P C7) func9 C6L
def A6g(f:A0p):Nat×Fn:=(73,⟨[.val false (.rs 5 (.int .u8)) false,.val false (.int .i64) false],[.val false (.int .i64)],fun x=>f x.1 x.2.1⟩)
theorem C6N:EF cfg [] [] f73 (A6g B45):=fun _=>by kernel_rfl
theorem B4T:SQ (A6g A1b):=sF MO D9 C7 func73 C6N
def B2f(f:A7E):Nat×Fn:=(74,⟨[.val true (.pair (.int .i64) (.pair .bool (.rs 5 (.int .u8)))) false,.val false (.int .i64) false],[.val false (.int .i64)],fun x=>f x.1 x.2.1⟩)
theorem C4Q{Q1:A0p}:EF cfg [A6g Q1] [] f74 (B2f (B1a Q1)):=fun _=>by kernel_rfl
theorem C4R:SQ (B2f A7F):=sF MO D9 (tc call73 B4T C7) func74 C4Q
def B8O(f:B57):Nat×Fn:=(10,⟨[.val true A1w false,.val false (.int .i64) false],[.val false (.int .i64)],fun x=>f x.1 x.2.1⟩)
theorem D15:EF cfg [] [] f10 (B8O B89):=fun _=>by kernel_rfl
theorem D16:SQ (B8O B58):=sF MO D9 C7 func10 D15
def B8P(f:B0p):Nat×Fn:=(147,⟨[.val true (.pair (.int .i64) (.pair (.int .i64) (.pair A1w (.rs 5 (.int .u8))))) false,.val false (.int .i64) false],[.val false (.int .i64)],fun x=>f x.1 x.2.1⟩)
theorem D17{B5K:B57}{Q1:A0p}:EF cfg [B8O B5K,A6g Q1] [] f147 (B8P (B8A B5K Q1)):=fun _=>by kernel_rfl
theorem D18:SQ (B8P A81):=sF MO D9 (tc call10 D16 (tc call73 B4T C7)) func147 D17
def B6V(f:B1b):Nat×Fn:=(75,⟨[.val false (.rs 180 F6) false,.val false (.int .i64) false],[.val false (.int .i64)],fun x=>f x.1 x.2.1⟩)
theorem C82{A82:B0p}:EF cfg [B8P A82] [(122,⟨[.t 1 false [.int .i64],.t 5 false [.int .i64]],lt 12 14 [],false⟩)] f75 (B6V (B64 A82)):=fun _=>by kernel_rfl
theorem C83:SQ (B6V B1c):=sF MO D9 (tc call147 D18 C7) func75 C82
def B6W(f:B1d):Nat×Fn:=(22,⟨[.val true (.pair (.int .i64) (.pair (.rs 5 (.int .u8)) (.pair (.pair (.int .i64) (.pair .bool (.rs 5 (.int .u8)))) (.pair (.pair (.int .i64) (.rs 161 B6)) (.pair (.pair (.int .i64) (.rs 161 B6)) (.pair (.rs 180 F6) K9)))))) false,.val false (.int .i64) false],[.val false (.int .i64)],fun x=>f x.1 x.2.1⟩)
theorem C84{A6i:A9J}{Q1:A0p}{A7i:A7E}{B34:B1b}:EF cfg [B4S A6i,A6g Q1,B2f A7i,B6V B34] [] f22 (B6W (B65 A6i Q1 A7i B34)):=fun _=>by kernel_rfl
theorem C85:SQ (B6W A8E):=sF MO D9 (tc call9 C6M (tc call73 B4T (tc call74 C4R (tc call75 C83 C7)))) func22 C84
def A0f(f:M9):Nat×Fn:=(53,⟨[.val false (.int .i64) false,.val false (.int .i64) false,.val false (.int .i64) false],[.val false .bool],fun x=>f x.1 x.2.1 x.2.2.1⟩)
theorem D3S:EF cfg [] [] f53 (A0f C0p):=fun _=>by kernel_rfl
theorem A1h:SQ (A0f A05):=sF MO D9 C7 func53 D3S
def C1e(f:B46):Nat×Fn:=(173,⟨[.val true B6 false],[.val false (.int .i64)],fun x=>f x.1⟩)
theorem D3T:EF cfg [] [] f173 (C1e B7J):=fun _=>by kernel_rfl
theorem D3U:SQ (C1e A8F):=sF MO D9 C7 func173 D3T
def B2g(f:A3L):Nat×Fn:=(126,⟨[.val true (.pair (.int .i64) (.rs 150 B6)) false],[.val false (.int .i64)],fun x=>f x.1⟩)
theorem C86{B1A:B46}:EF cfg [C1e B1A] [(58,⟨[.t 3 false [.int .i64],.t 4 false [.int .i64]],lt 5 15 [],false⟩)] f126 (B2g (B66 B1A)):=fun _=>by kernel_rfl
theorem C1f:SQ (B2g A3M):=sF MO D9 (tc call173 D3U C7) func126 C86
def A9l(f:A3e):Nat×Fn:=(51,⟨[.val true (.pair (.int .i64) (.rs 150 B6)) false],[.val false .bool],fun x=>f x.1⟩)
theorem C6O{F2:M9}{A08:A3L}:EF cfg [A0f F2,B2g A08] [] f51 (A9l (A6V F2 A08)):=fun _=>by kernel_rfl
theorem B9F:SQ (A9l U6):=sF MO D9 (tc call53 A1h (tc call126 C1f C7)) func51 C6O
def B2h(f:A7H):Nat×Fn:=(120,⟨[.val true (.pair (.int .i64) (.pair .bool (.rs 5 (.int .u8)))) false],[.val false .bool],fun x=>f x.1⟩)
theorem C4S{F2:M9}:EF cfg [A0f F2] [] f120 (B2h (B1e F2)):=fun _=>by kernel_rfl
theorem C4T:SQ (B2h A45):=sF MO D9 (tc call53 A1h C7) func120 C4S
def B4U(f:A9L):Nat×Fn:=(121,⟨[.val true (.pair (.int .i64) (.pair (.rs 5 (.int .u8)) (.pair (.pair (.int .i64) (.pair .bool (.rs 5 (.int .u8)))) (.pair (.pair (.int .i64) (.rs 150 B6)) (.pair (.pair (.int .i64) (.rs 150 B6)) (.pair (.rs 113 F6) K9)))))) false],[.val false .bool],fun x=>f x.1⟩)
theorem C6P{F2:M9}:EF cfg [A0f F2] [(3,⟨[],lt 3 58 [.b 4],false⟩),(26,⟨[.t 3 false [.int .i64]],lt 4 57 [.b 4],false⟩)] f121 (B4U (B47 F2)):=fun _=>by kernel_rfl
theorem C6Q:SQ (B4U A9M):=sF MO D9 (tc call53 A1h C7) func121 C6P
def B6a(f:B1f):Nat×Fn:=(171,⟨[.val false (.rs 5 (.int .u8)) false,.val false (.int .i64) false,.val false (.int .i64) false],[.val false (.int .i64),.val false .bool],fun x=>f x.1 x.2.1 x.2.2.1⟩)
theorem C87{F2:M9}:EF cfg [A0f F2] [(3,⟨[],lt 10 15 [],false⟩),(15,⟨[.t 8 false [.int .i64]],lt 25 15 [.t 9],true⟩),(122,⟨[.t 8 false [.int .i64],.t 9 false [.int .i64]],lt 25 15 [],false⟩)] f171 (B6a (B67 F2)):=fun _=>by kernel_rfl
theorem C88:SQ (B6a B1g):=sF MO D9 (tc call53 A1h C7) func171 C87
def B2i(f:A7I):Nat×Fn:=(122,⟨[.val false (.rs 5 (.int .u8)) false,.val false (.int .i64) false],[.val true O7,.val false (.int .i64),.val false (.int .i64)],fun x=>f x.1 x.2.1⟩)
theorem C4U{A8r:B1f}:EF cfg [B6a A8r] [(15,⟨[],lt 39 8 (lt 34 3 (lt 25 7 [])),false⟩),(60,⟨[.t 25 false [.bool]],lt 26 6 [],true⟩)] f122 (B2i (B1h A8r)):=fun _=>by kernel_rfl
theorem C4V:SQ (B2i A47):=sF MO D9 (tc call171 C88 C7) func122 C4U
def B6b(f:B1i):Nat×Fn:=(46,⟨[.val true (.pair (.int .i64) (.pair (.rs 5 (.int .u8)) (.pair (.pair (.int .i64) (.pair .bool (.rs 5 (.int .u8)))) (.pair (.pair (.int .i64) (.rs 150 B6)) (.pair (.pair (.int .i64) (.rs 150 B6)) (.pair (.rs 113 F6) K9)))))) false],[.val false .bool],fun x=>f x.1⟩)
theorem C89{A01:A3e}{F2:M9}{A7j:A7H}{A9n:A9L}{A7k:A7I}:EF cfg [A9l A01,A0f F2,B2h A7j,B4U A9n,B2i A7k] [(3,⟨[],lt 6 45 [],false⟩),(15,⟨[],lt 58 13 [],false⟩)] f46 (B6b (B1j A01 F2 A7j A9n A7k)):=fun _=>by kernel_rfl
theorem C8A:SQ (B6b A3N):=sF MO D9 (tc call51 B9F (tc call53 A1h (tc call120 C4T (tc call121 C6Q (tc call122 C4V C7))))) func46 C89
def A8f(f:A1c):Nat×Fn:=(54,⟨[.val true (.pair (.int .i64) (.rs 150 B6)) false],[.val true A40],fun x=>f x.1⟩)
theorem C8B:EF cfg [] [] f54 (A8f B68):=fun _=>by kernel_rfl
theorem B6c:SQ (A8f A5E):=sF MO D9 C7 func54 C8B
def B4V(f:A9N):Nat×Fn:=(205,⟨[],[.val false (.sl 150 B6)],fun x=>f⟩)
theorem C6R:EF cfg [] [] f205 (B4V B95):=fun _=>by kernel_rfl
theorem C6S:SQ (B4V A9O):=sF MO D9 C7 func205 C6R
def B0K(f:A5p):Nat×Fn:=(174,⟨[.val true (.pair (.int .i64) (.rs 150 B6)) false,.val true B6 false],[.val false (.int .i64),.val false .bool],fun x=>f x.1 x.2.1⟩)
theorem C2T{A9o:A9N}:EF (cfg.withEq [(150,1002)]) [B4V A9o] [(15,⟨[.t 7 false [.int .i64]],lt 37 10 (lt 11 25 [.b 9,.t 8,.t 9,.x 25]),false⟩),(122,⟨[.t 7 false [.int .i64],.t 8 false [.int .i64]],lt 37 10 (lt 11 25 [.b 9,.t 9,.x 25]),false⟩),(3913,⟨[.b 9 [.str,.str]],lt 20 13 [.x 25],true⟩)] f174 (B0K (B06 A9o)):=fun _=>by kernel_rfl
theorem C2U:SQ (B0K A5q):=sF MO (C3M (l:= [(150,1002)]) D9 ⟨D5F,trivial⟩) (tc call205 C6S C7) func174 C2T
def A6E(f:A1E):Nat×Fn:=(175,⟨[.val false (.rs 5 (.int .u8)) false,.val false (.int .i64) false,.val false (.int .i64) false,.val false (.int .i64) false],[.val false (.sl 5 (.int .u8))],fun x=>f x.1 x.2.1 x.2.2.1 x.2.2.2.1⟩)
theorem C2V{F2:M9}:EF cfg [A0f F2] [(7,⟨[],lt 14 8 [],false⟩),(15,⟨[.t 3 false [.int .i64]],[.t 23,.t 24],true⟩),(31,⟨[.t 3 false [.int .i64]],[.t 25,.t 26],true⟩),(2047,⟨[.t 3 false [.int .i64],.t 9 false [.own 100003000],.r 100003000 5 (.int .u8)],lt 54 11 [.r 50,.r 61,.r 62],true⟩),(8188,⟨[.t 3 false [.int .i64],.t 9 false [.own 100003000],.r 100003000 5 (.int .u8)],lt 54 11 [.r 50,.r 61,.r 62],false⟩)] f175 (A6E (B07 F2)):=fun _=>by kernel_rfl
theorem B5m:SQ (A6E A1F):=sF MO D9 (tc call53 A1h C7) func175 C2V
def B6d(f:B1k):Nat×Fn:=(176,⟨[.val false (.int .i64) false],[.val false (.int .i64),.val false (.int .i64)],fun x=>f x.1⟩)
theorem C8C:EF cfg [] [] f176 (B6d C0q):=fun _=>by kernel_rfl
theorem C8D:SQ (B6d B69):=sF MO D9 C7 func176 C8C
def B2j(f:A5F):Nat×Fn:=(228,⟨[],[.val false (.sl 3 (.int .i64))],fun x=>f⟩)
theorem C8E:EF cfg [] [] f228 (B2j C0r):=fun _=>by kernel_rfl
theorem C1g:SQ (B2j B1l):=sF MO D9 C7 func228 C8E
def B4W(f:A9P):Nat×Fn:=(229,⟨[],[.val false (.sl 3 (.int .i64))],fun x=>f⟩)
theorem C6T{A12:A5F}:EF cfg [B2j A12] [(506,⟨[.t 2 false [.own 8],.t 3 false [.int .i64],.t 4 false [.int .i64],.t 5 false [.int .i64],.r 8 3 (.int .i64)],lt 9 28 [.t 6,.x 19,.x 36],false⟩),(32402,⟨[.t 2 false [.own 8],.t 3 false [.int .i64],.t 4 false [.int .i64],.t 6 false [.int .i64],.r 8 3 (.int .i64)],lt 13 24 [.x 19,.x 36],false⟩)] f229 (B4W (B48 A12)):=fun _=>by kernel_rfl
theorem C6U:SQ (B4W A6W):=sF MO D9 (tc call228 C1g C7) func229 C6T
def C1h(f:B7K):Nat×Fn:=(206,⟨[.val false .str false],[.val false (.sl 5 (.int .u8))],fun x=>f x.1⟩)
theorem D3V{A12:A5F}{A9p:A9P}:EF cfg [B2j A12,B4W A9p] [(127,⟨[.t 5 false [.own 100000001],.t 6 false [.int .i64],.t 7 false [.int .i64],.r 100000001 5 (.int .u8)],lt 12 48 [.r 11,.r 52,.r 53,.r 100001000,.t 8,.x 23,.x 31,.x 39],true⟩),(1018,⟨[.t 5 false [.own 100000001],.t 6 false [.int .i64],.t 7 false [.int .i64],.t 8 false [.int .i64],.r 100000001 5 (.int .u8)],lt 12 48 [.r 11,.r 52,.r 53,.r 100001000,.x 23,.x 31,.x 39],false⟩),(130342,⟨[.t 5 false [.own 100001000],.t 6 false [.int .i64],.t 7 false [.int .i64],.r 100001000 5 (.int .u8)],lt 42 18 [.r 11,.r 52,.r 53,.r 100000001],false⟩)] f206 (C1h (C0s A12 A9p)):=fun _=>by kernel_rfl
theorem D3W:SQ (C1h B7L):=sF MO D9 (tc call228 C1g (tc call229 C6U C7)) func206 D3V
def B0L(f:A5s):Nat×Fn:=(177,⟨[.val false (.rs 5 (.int .u8)) false,.val false .str false],[.val false (.sl 5 (.int .u8))],fun x=>f x.1 x.2.1⟩)
theorem C2W{R0:A1E}{B7i:B7K}:EF cfg [A6E R0,C1h B7i] [] f177 (B0L (B08 R0 B7i)):=fun _=>by kernel_rfl
theorem C2a:SQ (B0L A2k):=sF MO D9 (tc call175 B5m (tc call206 D3W C7)) func177 C2W
def A70(f:A37):Nat×Fn:=(207,⟨[.val true (.pair (.int .i64) (.rs 150 B6)) false],[.val true (.pair (.int .i64) (.rs 150 B6))],fun x=>f x.1⟩)
theorem B9O{A08:A3L}:EF cfg [B2g A08] [(12,⟨[.b 1 [.int .i64,.ro 150 B6]],lt 3 13 [],false⟩)] f207 (A70 (A6t A08)):=fun _=>by kernel_rfl
theorem B9P:SQ (A70 A38):=sF MO D9 (tc call126 C1f C7) func207 B9O
def A71(f:A39):Nat×Fn:=(178,⟨[.val true (.pair (.int .i64) (.rs 150 B6)) false,.val true B6 false],[.val true (.pair (.int .i64) (.rs 150 B6))],fun x=>f x.1 x.2.1⟩)
theorem B9Q{A3H:A37}:EF cfg [A70 A3H] [] f178 (A71 (A6u A3H)):=fun _=>by kernel_rfl
theorem B9R:SQ (A71 A3A):=sF MO D9 (tc call207 B9P C7) func178 B9Q
def A3Q(f:A06):Nat×Fn:=(129,⟨[.val true (.pair (.int .i64) (.rs 150 B6)) false,.val true B6 false,.val false (.int .i64) false],[.val false (.sl 5 (.int .u8)),.val true (.pair (.int .i64) (.rs 150 B6))],fun x=>f x.1 x.2.1 x.2.2.1⟩)
theorem B6e{A01:A3e}{F2:M9}{R8:A1c}{A6H:A5p}{R0:A1E}{B35:B1k}{A30:A5s}{A3I:A39}:EF cfg [A9l A01,A0f F2,A8f R8,B0K A6H,A6E R0,B6d B35,B0L A30,A71 A3I] [(7,⟨[],lt 16 8 [],false⟩),(31,⟨[],lt 32 5 [],false⟩),(62,⟨[.t 36 false [.bool]],lt 32 4 [],true⟩),(255,⟨[.t 13 false [.own 100003000],.r 100003000 5 (.int .u8)],lt 51 6 [.r 208896,.r 233472],true⟩)] f129 (A3Q (A3O A01 F2 R8 A6H R0 B35 A30 A3I)):=fun _=>by kernel_rfl
theorem B6f:SQ (A3Q R6):=sF MO D9 (tc call51 B9F (tc call53 A1h (tc call54 B6c (tc call174 C2U (tc call175 B5m (tc call176 C8D (tc call177 C2a (tc call178 B9R C7)))))))) func129 B6e
def B4a(f:A9Q):Nat×Fn:=(133,⟨[.val true (.pair (.int .i64) (.pair (.int .i64) (.pair (.int .i64) (.rs 5 (.int .u8))))) false],[.val false .bool],fun x=>f x.1⟩)
theorem C6V{F2:M9}:EF cfg [A0f F2] [] f133 (B4a (B49 F2)):=fun _=>by kernel_rfl
theorem C6W:SQ (B4a A9R):=sF MO D9 (tc call53 A1h C7) func133 C6V
def B6g(f:B1m):Nat×Fn:=(134,⟨[.val false (.rs 5 (.int .u8)) false,.val false (.int .i64) false,.val false (.int .i64) false],[.val false (.sl 5 (.int .u8))],fun x=>f x.1 x.2.1 x.2.2.1⟩)
theorem C8F{F2:M9}:EF cfg [A0f F2] [(7,⟨[.t 1 false [.int .i64]],[.t 12,.t 13],true⟩),(250,⟨[.t 7 false [.own 100001000],.t 8 false [.int .i64],.r 100001000 5 (.int .u8)],lt 20 13 [.r 11,.r 31,.r 32],false⟩)] f134 (B6g (B6A F2)):=fun _=>by kernel_rfl
theorem C8G:SQ (B6g B1n):=sF MO D9 (tc call53 A1h C7) func134 C8F
def B2k(f:A49):Nat×Fn:=(59,⟨[.val true (.pair (.int .i64) (.pair (.int .i64) (.pair (.int .i64) (.rs 5 (.int .u8))))) false],[.val false (.sl 5 (.int .u8))],fun x=>f x.1⟩)
theorem C4W{A9q:A9Q}{A8s:B1m}:EF cfg [B4a A9q,B6g A8s] [] f59 (B2k (B1o A9q A8s)):=fun _=>by kernel_rfl
theorem C4a:SQ (B2k A4A):=sF MO D9 (tc call133 C6W (tc call134 C8G C7)) func59 C4W
def B0M(f:A5t):Nat×Fn:=(57,⟨[.val false (.rs 82 O7) false],[.val false (.sl 5 (.int .u8))],fun x=>f x.1⟩)
theorem C2b{A2M:A49}:EF cfg [B2k A2M] [(58,⟨[.t 3 false [.own 100000000],.t 4 false [.int .i64],.r 100000000 5 (.int .u8)],lt 6 13 [.r 5,.r 18,.r 73728],false⟩)] f57 (B0M (B09 A2M)):=fun _=>by kernel_rfl
theorem C2c:SQ (B0M A5u):=sF MO D9 (tc call59 C4a C7) func57 C2b
def B6h(f:B1q):Nat×Fn:=(148,⟨[.val true (.pair (.int .i64) (.pair .bool (.rs 5 (.int .u8)))) false],[.val true A1S],fun x=>f x.1⟩)
theorem C8H:EF cfg [] [] f148 (B6h B6B):=fun _=>by kernel_rfl
theorem C8I:SQ (B6h B1r):=sF MO D9 C7 func148 C8H
def B8Q(f:B59):Nat×Fn:=(77,⟨[.val true (.pair (.int .i64) (.pair (.rs 5 (.int .u8)) (.pair (.pair (.int .i64) (.pair .bool (.rs 5 (.int .u8)))) (.pair (.pair (.int .i64) (.rs 150 B6)) (.pair (.pair (.int .i64) (.rs 150 B6)) (.pair (.rs 113 F6) K9)))))) false,.val false (.int .i64) false],[.val false (.int .i64)],fun x=>f x.1 x.2.1⟩)
theorem D19:EF cfg [] [(26,⟨[.t 5 false [.int .i64]],lt 6 15 [],false⟩)] f77 (B8Q C3O):=fun _=>by kernel_rfl
theorem D1A:SQ (B8Q B5A):=sF MO D9 C7 func77 D19
def B2l(f:A5H):Nat×Fn:=(78,⟨[.val true K9 false],[.val false .bool],fun x=>f x.1⟩)
theorem C8J{F2:M9}:EF cfg [A0f F2] [] f78 (B2l (B6C F2)):=fun _=>by kernel_rfl
theorem C1i:SQ (B2l A8G):=sF MO D9 (tc call53 A1h C7) func78 C8J
def A5T(f:A21):Nat×Fn:=(132,⟨[.val false (.int .i64) false],[.val false .str],fun x=>f x.1⟩)
theorem B8R{A4e:A41}:EF cfg [B4O A4e] [] f132 (A5T (A0e A4e)):=fun _=>by kernel_rfl
theorem B8S:SQ (A5T A5I):=sF MO D9 (tc call132 C1S C7) func132 B8R
def A5U(f:A22):Nat×Fn:=(132,⟨[.val false (.int .i64) false],[.val false .str],fun x=>f x.1⟩)
theorem B8T{A2N:A21}:EF cfg [A5T A2N] [] f132 (A5U (B0q A2N)):=fun _=>by kernel_rfl
theorem B8U:SQ (A5U A5J):=sF MO D9 (tc call132 B8S C7) func132 B8T
def A5V(f:A23):Nat×Fn:=(132,⟨[.val false (.int .i64) false],[.val false .str],fun x=>f x.1⟩)
theorem B8V{A2O:A22}:EF cfg [A5U A2O] [] f132 (A5V (B0r A2O)):=fun _=>by kernel_rfl
theorem B8W:SQ (A5V A5K):=sF MO D9 (tc call132 B8U C7) func132 B8V
def A5W(f:A24):Nat×Fn:=(132,⟨[.val false (.int .i64) false],[.val false .str],fun x=>f x.1⟩)
theorem B8a{A2P:A23}:EF cfg [A5V A2P] [] f132 (A5W (B0s A2P)):=fun _=>by kernel_rfl
theorem B8b:SQ (A5W A5L):=sF MO D9 (tc call132 B8W C7) func132 B8a
def A5a(f:A25):Nat×Fn:=(132,⟨[.val false (.int .i64) false],[.val false .str],fun x=>f x.1⟩)
theorem B8c{A2Q:A24}:EF cfg [A5W A2Q] [] f132 (A5a (B0t A2Q)):=fun _=>by kernel_rfl
theorem B8d:SQ (A5a A5M):=sF MO D9 (tc call132 B8b C7) func132 B8c
def A5b(f:A26):Nat×Fn:=(132,⟨[.val false (.int .i64) false],[.val false .str],fun x=>f x.1⟩)
theorem B8e{A2R:A25}:EF cfg [A5a A2R] [] f132 (A5b (B0u A2R)):=fun _=>by kernel_rfl
theorem B8f:SQ (A5b A5N):=sF MO D9 (tc call132 B8d C7) func132 B8e
def A5c(f:A27):Nat×Fn:=(132,⟨[.val false (.int .i64) false],[.val false .str],fun x=>f x.1⟩)
theorem B8g{A2S:A26}:EF cfg [A5b A2S] [] f132 (A5c (B0v A2S)):=fun _=>by kernel_rfl
theorem B8h:SQ (A5c A5O):=sF MO D9 (tc call132 B8f C7) func132 B8g
def A5d(f:A28):Nat×Fn:=(132,⟨[.val false (.int .i64) false],[.val false .str],fun x=>f x.1⟩)
theorem B8i{A2T:A27}:EF cfg [A5c A2T] [] f132 (A5d (B0w A2T)):=fun _=>by kernel_rfl
theorem B8j:SQ (A5d A5P):=sF MO D9 (tc call132 B8h C7) func132 B8i
def A5e(f:A29):Nat×Fn:=(132,⟨[.val false (.int .i64) false],[.val false .str],fun x=>f x.1⟩)
theorem B8k{A2U:A28}:EF cfg [A5d A2U] [] f132 (A5e (B10 A2U)):=fun _=>by kernel_rfl
theorem B8l:SQ (A5e A5Q):=sF MO D9 (tc call132 B8j C7) func132 B8k
def B6i(f:B1s):Nat×Fn:=(132,⟨[.val false (.int .i64) false],[.val false .str],fun x=>f x.1⟩)
theorem C8K{A2V:A29}:EF cfg [A5e A2V] [] f132 (B6i (C0u A2V)):=fun _=>by kernel_rfl
theorem C8L:SQ (B6i B6D):=sF MO D9 (tc call132 B8l C7) func132 C8K
def A8g(f:A4B):Nat×Fn:=(79,⟨[.val true K9 false],[.val false (.sl 150 B6)],fun x=>f x.1⟩)
theorem C1j{A13:A5H}{A8t:B1s}:EF cfg [B2l A13,B6i A8t] [] f79 (A8g (A8H A13 A8t)):=fun _=>by kernel_rfl
theorem C1k:SQ (A8g A4C):=sF MO D9 (tc call78 C1i (tc call132 C8L C7)) func79 C1j
def A2e(f:A0V):Nat×Fn:=(55,⟨[.val true (.pair (.int .i64) (.rs 150 B6)) false,.val false (.rs 150 B6) false],[.val false (.sl 5 (.int .u8)),.val true (.pair (.int .i64) (.rs 150 B6))],fun x=>f x.1 x.2.1⟩)
theorem B5S{R8:A1c}{T8:A06}:EF cfg [A8f R8,A3Q T8] [(15,⟨[.t 6 false [.own 100000000],.b 7 [.int .i64,.ro 150 B6],.r 100000000 5 (.int .u8)],lt 14 27 (lt 8 4 [.b 11,.r 12,.r 39,.r 61441,.r 143360]),true⟩),(122,⟨[.t 6 false [.own 100000000],.t 8 false [.int .i64],.b 7 [.int .i64,.ro 150 B6],.r 100000000 5 (.int .u8)],lt 14 27 (lt 9 3 [.b 11,.r 12,.r 39,.r 61441,.r 143360]),false⟩),(3913,⟨[.t 9 false [.int .i64]],lt 21 6 [],true⟩)] f55 (A2e (A2c R8 T8)):=fun _=>by kernel_rfl
theorem B5T:SQ (A2e A0W):=sF MO D9 (tc call54 B6c (tc call129 B6f C7)) func55 B5S
def B4b(f:A6a):Nat×Fn:=(135,⟨[.val true B6 false],[.val true B6],fun x=>f x.1⟩)
theorem C6a:EF cfg [] [] f135 (B4b B4B):=fun _=>by kernel_rfl
theorem C6b:SQ (B4b A9V):=sF MO D9 C7 func135 C6a
def B2m(f:A7J):Nat×Fn:=(60,⟨[.val false (.rs 161 B6) false],[.val false (.sl 150 B6)],fun x=>f x.1⟩)
theorem C4b{A3j:A6a}:EF cfg [B4b A3j] [(58,⟨[.t 3 false [.own 7],.t 4 false [.int .i64],.r 7 150 B6],lt 8 14 [.x 21],false⟩)] f60 (B2m (B1t A3j)):=fun _=>by kernel_rfl
theorem C4c:SQ (B2m A7K):=sF MO D9 (tc call135 C6b C7) func60 C4b
def B4c(f:A9W):Nat×Fn:=(12,⟨[.val true (.pair (.int .i64) (.rs 161 B6)) false],[.val true A40],fun x=>f x.1⟩)
theorem C6c{A7l:A7J}:EF cfg [B2m A7l] [] f12 (B4c (B4C A7l)):=fun _=>by kernel_rfl
theorem C6d:SQ (B4c A9a):=sF MO D9 (tc call60 C4c C7) func12 C6c
def A6h(f:A0q):Nat×Fn:=(14,⟨[.val false (.rs 5 (.int .u8)) false],[.val false (.sl 5 (.int .u8))],fun x=>f x.1⟩)
theorem C6e:EF cfg [] [(58,⟨[.t 3 false [.own 7],.t 4 false [.int .i64],.r 7 5 (.int .u8)],lt 8 13 [.x 20],false⟩)] f14 (A6h B4D):=fun _=>by kernel_rfl
theorem B4d:SQ (A6h A1d):=sF MO D9 C7 func14 C6e
def B2n(f:A7L):Nat×Fn:=(80,⟨[.val true (.pair (.int .i64) (.pair .bool (.rs 5 (.int .u8)))) false],[.val true A1S],fun x=>f x.1⟩)
theorem C4d{Q2:A0q}:EF cfg [A6h Q2] [] f80 (B2n (B1u Q2)):=fun _=>by kernel_rfl
theorem C4e:SQ (B2n A7M):=sF MO D9 (tc call14 B4d C7) func80 C4d
def B8m(f:B5B):Nat×Fn:=(13,⟨[.val true A1w false],[.val true A1w],fun x=>f x.1⟩)
theorem D1B:EF cfg [] [] f13 (B8m B8B):=fun _=>by kernel_rfl
theorem D1C:SQ (B8m B5C):=sF MO D9 C7 func13 D1B
def B8n(f:B11):Nat×Fn:=(149,⟨[.val true (.pair (.int .i64) (.pair (.int .i64) (.pair A1w (.rs 5 (.int .u8))))) false],[.val true F6],fun x=>f x.1⟩)
theorem D1D{B5L:B5B}{Q2:A0q}:EF cfg [B8m B5L,A6h Q2] [] f149 (B8n (B8C B5L Q2)):=fun _=>by kernel_rfl
theorem D1E:SQ (B8n B5D):=sF MO D9 (tc call13 D1C (tc call14 B4d C7)) func149 D1D
def B6j(f:B1w):Nat×Fn:=(81,⟨[.val false (.rs 180 F6) false],[.val false (.sl 113 F6)],fun x=>f x.1⟩)
theorem C8M{A83:B11}:EF cfg [B8n A83] [(58,⟨[.t 3 false [.own 7],.t 4 false [.int .i64],.r 7 113 F6],lt 8 14 [.r 86021,.x 21],false⟩)] f81 (B6j (B6E A83)):=fun _=>by kernel_rfl
theorem C8N:SQ (B6j B20):=sF MO D9 (tc call149 D1E C7) func81 C8M
def B6k(f:B21):Nat×Fn:=(24,⟨[.val true (.pair (.int .i64) (.pair (.rs 5 (.int .u8)) (.pair (.pair (.int .i64) (.pair .bool (.rs 5 (.int .u8)))) (.pair (.pair (.int .i64) (.rs 161 B6)) (.pair (.pair (.int .i64) (.rs 161 B6)) (.pair (.rs 180 F6) K9)))))) false],[.val true A8C],fun x=>f x.1⟩)
theorem C8O{A6j:A9W}{Q2:A0q}{A7m:A7L}{B37:B1w}:EF cfg [B4c A6j,A6h Q2,B2n A7m,B6j B37] [] f24 (B6k (B6F A6j Q2 A7m B37)):=fun _=>by kernel_rfl
theorem C8P:SQ (B6k A8J):=sF MO D9 (tc call12 C6d (tc call14 B4d (tc call80 C4e (tc call81 C8N C7)))) func24 C8O
def B6l(f:B22):Nat×Fn:=(25,⟨[.val true K9 false],[.val true K9],fun x=>f x.1⟩)
theorem C8Q:EF cfg [] [] f25 (B6l C0v):=fun _=>by kernel_rfl
theorem C8R:SQ (B6l B23):=sF MO D9 C7 func25 C8Q
def A0M(f:M4):Nat×Fn:=(61,⟨[.val false (.int .i64) false,.val false (.int .i64) false,.val false (.int .i64) false],[.val false .bool],fun x=>f x.1 x.2.1 x.2.2.1⟩)
theorem C6f:EF cfg [] [] f61 (A0M B96):=fun _=>by kernel_rfl
theorem A1i:SQ (A0M W9):=sF MO D9 C7 func61 C6f
def B2o(f:A1e):Nat×Fn:=(179,⟨[.val true B6 false],[.val false (.int .i64)],fun x=>f x.1⟩)
theorem C8S:EF cfg [] [] f179 (B2o C0w):=fun _=>by kernel_rfl
theorem C1l:SQ (B2o A8K):=sF MO D9 C7 func179 C8S
def B6m(f:B24):Nat×Fn:=(138,⟨[.val true (.pair (.int .i64) (.rs 150 B6)) false],[.val false (.int .i64)],fun x=>f x.1⟩)
theorem C8T{T9:A1e}:EF cfg [B2o T9] [(58,⟨[.t 3 false [.int .i64],.t 9 false [.int .i64]],lt 10 8 [.b 5,.t 5],false⟩)] f138 (B6m (C10 T9)):=fun _=>by kernel_rfl
theorem C8U:SQ (B6m C11):=sF MO D9 (tc call179 C1l C7) func138 C8T
def A9m(f:A3f):Nat×Fn:=(63,⟨[.val true (.pair (.int .i64) (.rs 150 B6)) false],[.val false .bool],fun x=>f x.1⟩)
theorem C6g{G0:M4}{B38:B24}:EF cfg [A0M G0,B6m B38] [] f63 (A9m (B97 G0 B38)):=fun _=>by kernel_rfl
theorem B9G:SQ (A9m A6b):=sF MO D9 (tc call61 A1i (tc call138 C8U C7)) func63 C6g
def N6(f:H1):Nat×Fn:=(144,⟨[.val false (.rs 5 (.int .u8)) false],[.val false (.sl 5 (.int .u8))],fun x=>f x.1⟩)
theorem B0N:EF cfg [] [] f144 (N6 U2):=fun _=>by kernel_rfl
theorem U3:SQ (N6 H7):=sF MO D9 C7 func144 B0N
def B6n(f:B25):Nat×Fn:=(155,⟨[.val false (.rs 5 (.int .u8)) false,.val false (.int .i64) false,.val false (.int .i64) false],[.val false (.int .i64),.val false .bool],fun x=>f x.1 x.2.1 x.2.2.1⟩)
theorem C8V{G0:M4}:EF cfg [A0M G0] [(3,⟨[],lt 11 15 [],false⟩),(15,⟨[.t 8 false [.int .i64]],lt 26 17 [.t 10],true⟩),(122,⟨[.t 8 false [.int .i64],.t 33 false [.int .i64]],lt 34 9 [.t 10],false⟩)] f155 (B6n (B6G G0)):=fun _=>by kernel_rfl
theorem C8W:SQ (B6n B26):=sF MO D9 (tc call61 A1i C7) func155 C8V
def B2p(f:A7N):Nat×Fn:=(103,⟨[.val false (.rs 5 (.int .u8)) false,.val false (.int .i64) false],[.val true O7,.val false (.int .i64),.val false (.int .i64)],fun x=>f x.1 x.2.1⟩)
theorem C4f{D3:H1}{A8u:B25}:EF cfg [N6 D3,B6n A8u] [(3,⟨[],lt 13 9 [],false⟩)] f103 (B2p (B27 D3 A8u)):=fun _=>by kernel_rfl
theorem C4g:SQ (B2p A4E):=sF MO D9 (tc call144 U3 (tc call155 C8W C7)) func103 C4f
def B2q(f:A7O):Nat×Fn:=(104,⟨[.val true (.pair (.int .i64) (.pair .bool (.rs 5 (.int .u8)))) false],[.val false .bool],fun x=>f x.1⟩)
theorem C4h{G0:M4}:EF cfg [A0M G0] [] f104 (B2q (B7O G0)):=fun _=>by kernel_rfl
theorem C4i:SQ (B2q B28):=sF MO D9 (tc call61 A1i C7) func104 C4h
def B6o(f:B29):Nat×Fn:=(116,⟨[.val true (.pair (.int .i64) (.pair (.rs 5 (.int .u8)) (.pair (.pair (.int .i64) (.pair .bool (.rs 5 (.int .u8)))) (.pair (.pair (.int .i64) (.rs 150 B6)) (.pair (.pair (.int .i64) (.rs 150 B6)) (.pair (.rs 113 F6) K9)))))) false],[.val false .bool],fun x=>f x.1⟩)
theorem C8a{G0:M4}:EF cfg [A0M G0] [(3,⟨[],lt 3 53 [.b 4],false⟩),(26,⟨[.t 8 false [.int .i64]],lt 9 47 [.b 4,.t 3,.t 4],false⟩),(1689,⟨[],lt 13 28 [],false⟩)] f116 (B6o (B6H G0)):=fun _=>by kernel_rfl
theorem C8b:SQ (B6o B2A):=sF MO D9 (tc call61 A1i C7) func116 C8a
def B6p(f:B2B):Nat×Fn:=(43,⟨[.val true (.pair (.int .i64) (.pair (.rs 5 (.int .u8)) (.pair (.pair (.int .i64) (.pair .bool (.rs 5 (.int .u8)))) (.pair (.pair (.int .i64) (.rs 150 B6)) (.pair (.pair (.int .i64) (.rs 150 B6)) (.pair (.rs 113 F6) K9)))))) false],[.val false .bool],fun x=>f x.1⟩)
theorem C8c{G0:M4}{A02:A3f}{A7n:A7N}{A7o:A7O}{B39:B29}:EF cfg [A0M G0,A9m A02,B2p A7n,B2q A7o,B6o B39] [(3,⟨[],lt 6 27 [],false⟩),(7,⟨[],lt 33 16 [],false⟩),(15,⟨[],lt 49 31 [],false⟩)] f43 (B6p (B6I G0 A02 A7n A7o B39)):=fun _=>by kernel_rfl
theorem C8d:SQ (B6p A8L):=sF MO D9 (tc call61 A1i (tc call63 B9G (tc call103 C4g (tc call104 C4i (tc call116 C8b C7))))) func43 C8c
def M0(f:H6):Nat×Fn:=(139,⟨[.val false (.rs 150 B6) false],[.val false (.sl 150 B6)],fun x=>f x.1⟩)
theorem A2f:EF cfg [] [] f139 (M0 Q0):=fun _=>by kernel_rfl
theorem W4:SQ (M0 I7):=sF MO D9 C7 func139 A2f
def A6F(f:A1G):Nat×Fn:=(64,⟨[.val true (.pair (.int .i64) (.rs 150 B6)) false],[.val true A40],fun x=>f x.1⟩)
theorem C2d{E6:H6}:EF cfg [M0 E6] [] f64 (A6F (B0A E6)):=fun _=>by kernel_rfl
theorem B5n:SQ (A6F A2l):=sF MO D9 (tc call139 W4 C7) func64 C2d
def A8h(f:A4F):Nat×Fn:=(195,⟨[.ptr A40],[],fun x=>f x.1⟩)
theorem C1m{E6:H6}{T9:A1e}:EF cfg [M0 E6,B2o T9] [(14,⟨[.t 2 false [.int .i64],.t 14 false [.int .i64]],lt 15 10 [.b 4,.t 3,.t 4,.t 35,.x 17],false⟩)] f195 (A8h (A8M E6 T9)):=fun _=>by kernel_rfl
theorem C1n:SQ (A8h A1f):=sF MO D9 (tc call139 W4 (tc call179 C1l C7)) func195 C1m
def B0O(f:A60):Nat×Fn:=(161,⟨[.ptr A40,.val true B6 false],[],fun x=>f x.1 x.2.1⟩)
theorem C2e{L8:L5}{A4f:A4F}:EF cfg [V2 L8,A8h A4f] [] f161 (B0O (B0B L8 A4f)):=fun _=>by kernel_rfl
theorem C2f:SQ (B0O A61):=sF MO D9 (tc call194 A2G (tc call195 C1n C7)) func161 C2e
def P6(f:L6):Nat×Fn:=(208,⟨[.val false (.rs 30 (.sl 150 B6)) false],[.val false (.sl 150 B6)],fun x=>f x.1⟩)
theorem A2H{M2:M1}:EF cfg [A00 M2] [(7,⟨[.t 3 false [.int .i64]],lt 9 12 [.t 5,.t 22],true⟩),(58,⟨[.t 3 false [.int .i64],.t 11 false [.int .i64]],lt 12 9 [.t 5,.t 22],false⟩),(250,⟨[.t 6 false [.own 100002000],.t 27 false [.int .i64],.r 100002000 150 B6],lt 28 7 [.r 33,.r 102400,.t 8],false⟩)] f208 (P6 (P4 M2)):=fun _=>by kernel_rfl
theorem A2I:SQ (P6 L7):=sF MO D9 (tc call230 A2w C7) func208 A2H
def A72(f:A3C):Nat×Fn:=(209,⟨[],[.val false (.sl 150 B6)],fun x=>f⟩)
theorem B9S{R2:A0H}{A1M:A2i}:EF cfg [A6w R2,B5l A1M] [(58,⟨[.t 1 false [.own 100000000],.t 9 false [.int .i64],.r 100000000 150 B6],lt 10 16 (lt 3 4 [.r 23,.r 24,.x 11]),false⟩)] f209 (A72 (B3N R2 A1M)):=fun _=>by kernel_rfl
theorem B9T:SQ (A72 A3D):=sF MO D9 (tc call231 B3O (tc call232 C2Q C7)) func209 B9S
def A6G(f:A1H):Nat×Fn:=(181,⟨[.val false (.sl 5 (.int .u8)) false,.val false (.int .i64) false,.val false (.int .i64) false,.val false (.int .i64) false],[.val false (.sl 5 (.int .u8))],fun x=>f x.1 x.2.1 x.2.2.1 x.2.2.2.1⟩)
theorem C2g:EF cfg [] [(255,⟨[.t 0 false [.own 100000000],.t 3 false [.int .i64],.r 100000000 5 (.int .u8)],lt 41 11 [.r 37,.r 48,.r 49],true⟩),(1020,⟨[.t 0 false [.own 100000000],.t 3 false [.int .i64],.r 100000000 5 (.int .u8)],lt 41 11 [.r 37,.r 48,.r 49],false⟩)] f181 (A6G B0D):=fun _=>by kernel_rfl
theorem B5o:SQ (A6G A0Q):=sF MO D9 C7 func181 C2g
def B6q(f:B2C):Nat×Fn:=(182,⟨[.val false (.int .i64) false],[.val false (.int .i64),.val false (.int .i64)],fun x=>f x.1⟩)
theorem C8e:EF cfg [] [] f182 (B6q C12):=fun _=>by kernel_rfl
theorem C8f:SQ (B6q B6J):=sF MO D9 C7 func182 C8e
def B4e(f:A9b):Nat×Fn:=(210,⟨[],[.val false (.pa 257 K9)],fun x=>f⟩)
theorem C6h{R2:A0H}{A0h:A1a}:EF (cfg.withAr [(247,257,246)]) [A6w R2,B4P A0h] [(7,⟨[.r 1 247 K9],lt 7 16 [.r 32768,.t 2,.t 3,.x 12,.x 20],true⟩),(58,⟨[.t 9 false [.int .i64],.r 1 247 K9],lt 10 13 [.t 2,.t 3,.x 12,.x 20],false⟩),(250,⟨[.t 4 false [.int .i64],.t 5 false [.int .i64],.r 1 247 K9],lt 23 22 [.t 6,.x 33,.x 40],false⟩),(32038,⟨[.t 4 false [.int .i64],.t 29 false [.int .i64],.r 1 247 K9],lt 30 15 [.t 6,.x 33,.x 40],false⟩)] f210 (B4e (B98 R2 A0h)):=fun _=>by kernel_rfl
theorem C6i:SQ (B4e A6c):=sF MO (B87 (l:= [(247,257,246)]) D9 ⟨tA t247 ⟨true,K9,16,[(0,1,false),(1,1,false)]⟩ underlying247,trivial⟩) (tc call231 B3O (tc call233 C1W C7)) func210 C6h
def B4f(f:A9c):Nat×Fn:=(211,⟨[.val false (.pa 257 K9) false,.val false .str false],[.val false (.int .i64)],fun x=>f x.1 x.2.1⟩)
theorem C6j:EF (cfg.withAr [(247,257,246)]) [] [(7,⟨[.t 5 false [.int .i64]],lt 6 17 [],true⟩),(58,⟨[.t 5 false [.int .i64],.t 6 false [.int .i64]],lt 7 16 [],false⟩)] f211 (B4f B4E):=fun _=>by kernel_rfl
theorem C6k:SQ (B4f A9d):=sF MO (B87 (l:= [(247,257,246)]) D9 ⟨tA t247 ⟨true,K9,16,[(0,1,false),(1,1,false)]⟩ underlying247,trivial⟩) C7 func211 C6j
def C1o(f:B7P):Nat×Fn:=(212,⟨[.val false (.pa 257 K9) false,.val false (.sl 5 (.int .u8)) false,.val false .str false],[.val false (.sl 5 (.int .u8))],fun x=>f x.1 x.2.1 x.2.2.1⟩)
theorem D3a:EF (cfg.withAr [(247,257,246)]) [] [(7,⟨[.t 1 false [.own 100000001],.t 7 false [.int .i64],.t 8 false [.int .i64],.r 100000001 5 (.int .u8)],lt 12 43 [.b 10,.r 47,.r 48,.r 1100,.r 100001000,.t 9,.t 10],true⟩),(58,⟨[.t 1 false [.own 100000001],.t 7 false [.int .i64],.t 8 false [.int .i64],.t 9 false [.int .i64],.r 100000001 5 (.int .u8)],lt 12 43 [.b 10,.r 47,.r 48,.r 1100,.r 100001000,.t 10],false⟩),(14926,⟨[.t 1 false [.own 100001000],.t 7 false [.int .i64],.t 8 false [.int .i64],.r 100001000 5 (.int .u8)],lt 37 18 [.r 47,.r 48,.r 1100,.r 100000001],false⟩)] f212 (C1o C14):=fun _=>by kernel_rfl
theorem D3b:SQ (C1o B7Q):=sF MO (B87 (l:= [(247,257,246)]) D9 ⟨tA t247 ⟨true,K9,16,[(0,1,false),(1,1,false)]⟩ underlying247,trivial⟩) C7 func212 D3a
def B0P(f:A64):Nat×Fn:=(183,⟨[.val false (.sl 5 (.int .u8)) false,.val false .str false],[.val false (.sl 5 (.int .u8))],fun x=>f x.1 x.2.1⟩)
theorem C2h{R1:A1H}{A9r:A9b}{A9s:A9c}{B7j:B7P}:EF cfg [A6G R1,B4e A9r,B4f A9s,C1o B7j] [] f183 (B0P (B0E R1 A9r A9s B7j)):=fun _=>by kernel_rfl
theorem C2i:SQ (B0P A2o):=sF MO D9 (tc call181 B5o (tc call210 C6i (tc call211 C6k (tc call212 D3b C7)))) func183 C2h
def A0G(f:A62):Nat×Fn:=(180,⟨[.val true (.pair (.int .i64) (.rs 150 B6)) false,.val true B6 false],[.val false (.int .i64),.val false .bool],fun x=>f x.1 x.2.1⟩)
theorem A96{L9:L6}{A3J:A3C}:EF (cfgR.withEq [(150,1002)]) [P6 L9,A72 A3J] [(7,⟨[.t 6 false [.int .i64]],lt 25 12 (lt 7 16 [.b 8,.r 12,.r 40960,.r 57344,.x 18]),false⟩),(58,⟨[.t 6 false [.int .i64],.t 15 false [.int .i64]],lt 25 12 (lt 16 7 [.b 8,.t 7,.t 8,.x 18]),false⟩)] f180 (A0G (B0C L9 A3J)):=fun _=>by kernel_rfl
theorem A97:SQ (A0G A63):=sF MO (C3M (l:= [(150,1002)]) B9s ⟨D5F,trivial⟩) (tc call208 A2I (tc call209 B9T C7)) func180 A96
def B0Q(f:A2p):Nat×Fn:=(140,⟨[.ptr A40,.val false (.sl 5 (.int .u8)) false,.val true B6 false,.val false (.int .i64) false],[.val false (.sl 5 (.int .u8))],fun x=>f x.1 x.2.1 x.2.2.1 x.2.2.2.1⟩)
theorem C2j{A6I:A60}{A6J:A62}{R1:A1H}{B3A:B2C}{A31:A64}:EF cfg [B0O A6I,A0G A6J,A6G R1,B6q B3A,B0P A31] [(7,⟨[],lt 21 5 [],false⟩),(63,⟨[.t 1 false [.own 100001000],.r 100001000 5 (.int .u8)],lt 39 6 [.r 159744,.r 184320],true⟩)] f140 (B0Q (B0F A6I A6J R1 B3A A31)):=fun _=>by kernel_rfl
theorem C2k:SQ (B0Q A0R):=sF MO D9 (tc call161 C2f (tc call180 A97 (tc call181 B5o (tc call182 C8f (tc call183 C2i C7))))) func140 C2j
def B0R(f:A65):Nat×Fn:=(65,⟨[.val true (.pair (.int .i64) (.rs 150 B6)) false,.val false (.rs 150 B6) false],[.val false (.sl 5 (.int .u8)),.val true A40],fun x=>f x.1 x.2.1⟩)
theorem C2l{A02:A3f}{S6:A1G}{A0T:A2p}:EF cfg [A9m A02,A6F S6,B0Q A0T] [(31,⟨[.t 7 false [.own 100000001],.b 6 [.int .i64,.own 100000000],.r 100000000 150 B6,.r 100000001 5 (.int .u8)],lt 17 14 [.b 9,.r 53249,.r 122880,.r 124929,.t 9,.t 10],true⟩),(250,⟨[.t 7 false [.own 100000001],.t 19 false [.int .i64],.b 6 [.int .i64,.own 100000000],.r 100000000 150 B6,.r 100000001 5 (.int .u8)],lt 20 11 [.b 9,.r 53249,.r 122880,.r 124929,.t 9,.t 10],false⟩)] f65 (B0R (B0G A02 S6 A0T)):=fun _=>by kernel_rfl
theorem C2m:SQ (B0R A66):=sF MO D9 (tc call63 B9G (tc call64 B5n (tc call140 C2k C7))) func65 C2l
def B6r(f:B2F):Nat×Fn:=(145,⟨[.val false (.sl 5 (.int .u8)) false,.val false (.int .i64) false,.val false (.int .i64) false],[.val false (.sl 5 (.int .u8))],fun x=>f x.1 x.2.1 x.2.2.1⟩)
theorem C8g:EF cfg [] [(58,⟨[.t 0 false [.own 100000000],.t 7 false [.int .i64],.r 100000000 5 (.int .u8)],lt 12 13 [.r 23,.r 24,.r 1000],false⟩)] f145 (B6r B6K):=fun _=>by kernel_rfl
theorem C8h:SQ (B6r B2G):=sF MO D9 C7 func145 C8g
def B2r(f:A4G):Nat×Fn:=(69,⟨[.val false (.sl 5 (.int .u8)) false,.val true (.pair (.int .i64) (.pair (.int .i64) (.pair (.int .i64) (.rs 5 (.int .u8))))) false],[.val false (.sl 5 (.int .u8))],fun x=>f x.1 x.2.1⟩)
theorem C4j{A8v:B2F}:EF cfg [B6r A8v] [] f69 (B2r (B2H A8v)):=fun _=>by kernel_rfl
theorem C4k:SQ (B2r A4H):=sF MO D9 (tc call145 C8h C7) func69 C4j
def B0S(f:A67):Nat×Fn:=(67,⟨[.val false (.sl 5 (.int .u8)) false,.val false (.rs 82 O7) false],[.val false (.sl 5 (.int .u8))],fun x=>f x.1 x.2.1⟩)
theorem C2n{A2W:A4G}:EF cfg [B2r A2W] [(26,⟨[.t 0 false [.own 100000000],.t 9 false [.int .i64],.r 100000000 5 (.int .u8)],lt 10 7 [.b 6,.r 1000,.r 65536,.t 6],false⟩)] f67 (B0S (B0H A2W)):=fun _=>by kernel_rfl
theorem C2o:SQ (B0S A68):=sF MO D9 (tc call69 C4k C7) func67 C2n
def C1p(f:B7R):Nat×Fn:=(68,⟨[.val false (.int .i64) false,.val false .bool false,.val false (.rs 5 (.int .u8)) false,.val false (.int .i64) false],[.val false (.sl 82 O7)],fun x=>f x.1 x.2.1 x.2.2.1 x.2.2.2.1⟩)
theorem D3c{G0:M4}{D3:H1}:EF (cfg.withCk 143 185) [A0M G0,N6 D3] [(31,⟨[.b 9 [.own 20],.r 20 82 O7],lt 21 4 [.x 23],true⟩),(63,⟨[.b 9 [.own 100001000],.r 100001000 82 O7],lt 25 30 [.r 20,.r 43,.r 44,.r 217088,.t 10,.t 11,.x 33,.x 49],true⟩),(506,⟨[.b 9 [.own 100001000],.r 100001000 82 O7],lt 28 27 [.r 20,.r 43,.r 44,.r 217088,.t 10,.t 11,.x 33,.x 49],false⟩)] f68 (C1p (C15 G0 D3)):=fun _=>by kernel_rfl
theorem D3d:SQ (C1p B7S):=sF MO (D0W D9 (fun args w=>call143 args w) D4u) (tc call61 A1i (tc call144 U3 C7)) func68 D3c
def A8i(f:A4I):Nat×Fn:=(107,⟨[.val true (.pair (.int .i64) (.pair .bool (.rs 5 (.int .u8)))) false],[.val true A1S],fun x=>f x.1⟩)
theorem C1q{D3:H1}:EF cfg [N6 D3] [] f107 (A8i (A8N D3)):=fun _=>by kernel_rfl
theorem C1r:SQ (A8i A4J):=sF MO D9 (tc call144 U3 C7) func107 C1q
def B2s(f:A7Q):Nat×Fn:=(82,⟨[.val true (.pair (.int .i64) (.pair (.rs 5 (.int .u8)) (.pair (.pair (.int .i64) (.pair .bool (.rs 5 (.int .u8)))) (.pair (.pair (.int .i64) (.rs 150 B6)) (.pair (.pair (.int .i64) (.rs 150 B6)) (.pair (.rs 113 F6) K9)))))) false],[.val true A8C],fun x=>f x.1⟩)
theorem C4l{S6:A1G}{A4g:A4I}{D3:H1}:EF cfg [A6F S6,A8i A4g,N6 D3] [(1018,⟨[.t 27 false [.int .i64],.b 3 [.int .i64,.own 40960,.int .i64,.bool,.own 57346,.int .i64,.own 73729,.int .i64,.own 86017,.own 100000000,.int .i64,.int .i64],.r 40960 5 (.int .u8),.r 57346 5 (.int .u8),.r 73729 150 B6,.r 86017 150 B6,.r 100000000 113 F6],lt 28 14 [.b 5,.r 38,.r 39,.r 139264,.t 5],false⟩)] f82 (B2s (B2J S6 A4g D3)):=fun _=>by kernel_rfl
theorem C4m:SQ (B2s A7R):=sF MO D9 (tc call64 B5n (tc call107 C1r (tc call144 U3 C7))) func82 C4l
def B2t(f:A5R):Nat×Fn:=(84,⟨[.val true K9 false],[.val false .bool],fun x=>f x.1⟩)
theorem C8i{G0:M4}:EF cfg [A0M G0] [] f84 (B2t (B6L G0)):=fun _=>by kernel_rfl
theorem C1s:SQ (B2t A8O):=sF MO D9 (tc call61 A1i C7) func84 C8i
def A8j(f:A4N):Nat×Fn:=(85,⟨[.val true K9 false],[.val false (.sl 150 B6)],fun x=>f x.1⟩)
theorem C1t{A14:A5R}{A1k:A42}:EF cfg [B2t A14,B4Q A1k] [] f85 (A8j (A8P A14 A1k)):=fun _=>by kernel_rfl
theorem C1u:SQ (A8j A4O):=sF MO D9 (tc call84 C1s (tc call142 C1d C7)) func85 C1t
def P7(f:A7S):Nat×Fn:=(83,⟨[.ptr (.pair (.int .i64) (.pair (.rs 5 (.int .u8)) (.pair (.pair (.int .i64) (.pair .bool (.rs 5 (.int .u8)))) (.pair (.pair (.int .i64) (.rs 150 B6)) (.pair (.pair (.int .i64) (.rs 150 B6)) (.pair (.rs 113 F6) K9)))))),.val false (.int .i64) false],[.val false (.int .i64),.val false .bool],fun x=>f x.1 x.2.1⟩)
theorem A2J:EF cfg [] [(7,⟨[.t 6 false [.int .i64]],lt 7 21 [],true⟩),(28,⟨[.t 6 false [.int .i64]],lt 7 21 [],false⟩)] f83 (P7 B2K):=fun _=>by kernel_rfl
theorem A2K:SQ (P7 A4M):=sF MO D9 C7 func83 A2J
def A8k(f:A4P):Nat×Fn:=(26,⟨[.val true (.pair (.int .i64) (.pair (.rs 5 (.int .u8)) (.pair (.pair (.int .i64) (.pair .bool (.rs 5 (.int .u8)))) (.pair (.pair (.int .i64) (.rs 150 B6)) (.pair (.pair (.int .i64) (.rs 150 B6)) (.pair (.rs 113 F6) K9)))))) false,.val false (.int .i64) false,.val true K9 false],[.val true A8C,.val false (.sl 5 (.int .u8)),.val false .bool],fun x=>f x.1 x.2.1 x.2.2.1⟩)
theorem C1v{B3B:B2B}{A6K:A65}{A6L:A67}{B7k:B7R}{A7p:A7Q}{A7q:A7S}{A14:A5R}{A4h:A4N}{N5:N3}:EF cfg [B6p B3B,B0R A6K,B0S A6L,C1p B7k,B2s A7p,P7 A7q,B2t A14,A8j A4h,A0E N5] [(15,⟨[],lt 21 26 [],false⟩)] f26 (A8k (U7 B3B A6K A6L B7k A7p A7q A14 A4h N5)):=fun _=>by kernel_rfl
theorem C1w:SQ (A8k N0):=sF MO D9 (tc call43 C8d (tc call65 C2m (tc call67 C2o (tc call68 D3d (tc call82 C4m (tc call83 A2K (tc call84 C1s (tc call85 C1u (tc call86 A3r C7))))))))) func26 C1v
end
end Go.Proofs.YthnfghmjipikhaaGreatDoor.Ev
