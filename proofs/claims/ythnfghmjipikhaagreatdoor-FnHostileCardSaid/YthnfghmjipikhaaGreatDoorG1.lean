/- Each function of the program does what its plain function says. -/
import Derived.Test.YthnfghmjipikhaaGreatDoorTy
import Derived.Test.YthnfghmjipikhaaGreatDoorPu
import Derived.Test.YthnfghmjipikhaaGreatDoorIns
import Derived.Test.YthnfghmjipikhaaGreatDoorGone
import Derived.Test.YthnfghmjipikhaaGreatDoorLibT
import Derived.Test.YthnfghmjipikhaaGreatDoorLibB
import Derived.Test.YthnfghmjipikhaaGreatDoorUnHuff
set_option linter.unusedVariables false
set_option maxRecDepth 100000
namespace Go.Proofs.YthnfghmjipikhaaGreatDoor.Ev
open Tryz
noncomputable section
abbrev D25:List PK:= [.val false .str false,.val false .str false]
abbrev D26:List RK:= [.val false (.sl 9 .str)]
def B5H(f:A40):Nat×Fn:=(231,⟨D25,D26,fun x=>f x.1 x.2.1⟩)
def D27:Fn:=(B5H B58).2
theorem C32:A28 prog 231 D27:=E1i
abbrev D64:List PK:= [.val false .str false,.val false .str false]
abbrev D65:List RK:= [.val false .str,.val false .str,.val false .bool]
def C6F(f:A9C):Nat×Fn:=(232,⟨D64,D65,fun x=>f x.1 x.2.1⟩)
def D66:Fn:=(C6F C5w).2
theorem D67:A28 prog 232 D66:=E7Q
abbrev D53:List PK:= [.val false .str false]
abbrev D54:List RK:= [.val false (.int .i64),.val false (.fnc 999999999)]
def C4P(f:A75):Nat×Fn:=(233,⟨D53,D54,fun x=>f x.1⟩)
def D55:Fn:=(C4P C3j).2
theorem D56:A28 prog 233 D55:=E3c
abbrev A8J:List PK:= [.val false (.sl 150 C1) false,.val false (.int .i64) false,.val false (.sl 150 C1) false]
abbrev A8K:List RK:= [.val false (.sl 150 C1)]
def A2N(f:Q1):Nat×Fn:=(194,⟨A8J,A8K,fun x=>f x.1 x.2.1 x.2.2.1⟩)
def A8L:Fn:=(A2N Q2).2
theorem A8M:A28 prog 194 A8L:=C7G C1 (by decide)
abbrev D57:List PK:= [.val false (.int .i64) false]
abbrev D58:List RK:= [.val false .str]
def C4Q(f:B0r):Nat×Fn:=(142,⟨D57,D58,fun x=>f x.1⟩)
def D59:Fn:=(C4Q B0s).2
theorem D5A:A28 prog 142 D59:=E3b
abbrev B0i:List PK:= [.val false (.sl 113 H2) false,.val false (.int .i64) false,.val false (.int .i64) false]
abbrev B0j:List RK:= [.val false (.sl 113 H2)]
def A3r(f:T7):Nat×Fn:=(86,⟨B0i,B0j,fun x=>f x.1 x.2.1 x.2.2.1⟩)
def B0k:Fn:=(A3r T8).2
theorem B0l:A28 prog 86 B0k:=D0J H2 (by decide)
abbrev C0A:List PK:= [.val false (.sl 5 (.int .u8)) false,.val false (.int .i64) false]
abbrev C0B:List RK:= [.val false (.sl 5 (.int .u8))]
def B0f(f:A2K):Nat×Fn:=(153,⟨C0A,C0B,fun x=>f x.1 x.2.1⟩)
def C0C:Fn:=(B0f A55).2
theorem C0D:A28 prog 153 C0C:=D24
abbrev D0K:List PK:= [.ptr (.pair (.pair (.int .i64) (.pair (.sl 5 (.int .u8)) (.pair A1j (.pair (.pair (.int .i64) (.rs 150 C1)) (.pair T0 (.pair (.sl 113 H2) L2)))))) (.pair (.sl 75 A0q) (.sl 5 (.int .u8)))),.val false (.int .i64) false]
abbrev D0L:List RK:= []
def C0E(f:A7c):Nat×Fn:=(227,⟨D0K,D0L,fun x=>f x.1 x.2.1⟩)
def D0M:Fn:=(C0E A7d).2
theorem D0N:A28 prog 227 D0M:=E3a _ _ _ _ _ _ _ _ rfl rfl rfl rfl rfl rfl
abbrev D5B:List PK:= [.val false (.int .i64) false]
abbrev D5C:List RK:= [.val false .str]
def C4R(f:B0t):Nat×Fn:=(132,⟨D5B,D5C,fun x=>f x.1⟩)
def D5D:Fn:=(C4R B6f).2
theorem D5E:A28 prog 132 D5D:=fun x y h=>by cases h
def D9K(f:D2h):Nat×Fn:=(30,⟨[.val false (.rs 5 (.int .u8)) false],[.val false .bool],fun x=>f x.1⟩)
theorem F1v:EF cfg [] [] f30 (D9K D8f):=fun _=>by kernel_rfl
theorem F1w:SQ (D9K D2i):=sF MO C7 B8 func30 F1v
def A00(f:K1):Nat×Fn:=(61,⟨[.val false (.int .i64) false,.val false (.int .i64) false,.val false (.int .i64) false],[.val false .bool],fun x=>f x.1 x.2.1 x.2.2.1⟩)
theorem E1k:EF cfg [] [] f61 (A00 D1S):=fun _=>by kernel_rfl
theorem A0u:SQ (A00 U3):=sF MO C7 B8 func61 E1k
def C22(f:A76):Nat×Fn:=(179,⟨[.val true C1 false],[.val false (.int .i64)],fun x=>f x.1⟩)
theorem E3d:EF cfg [] [] f179 (C22 D3o):=fun _=>by kernel_rfl
theorem D5F:SQ (C22 B2V):=sF MO C7 B8 func179 E3d
def C7H(f:C0u):Nat×Fn:=(138,⟨[.val true (.pair (.int .i64) (.rs 150 C1)) false],[.val false (.int .i64)],fun x=>f x.1⟩)
theorem E3e{A1v:A76}:EF cfg [C22 A1v] [(58,⟨[.t 3 false [.int .i64],.t 9 false [.int .i64]],lt 10 8 [.b 5,.t 5],false⟩)] f138 (C7H (C6i A1v)):=fun _=>by kernel_rfl
theorem E3f:SQ (C7H C0v):=sF MO C7 (tc call179 D5F B8) func138 E3e
def B4v(f:A5Q):Nat×Fn:=(63,⟨[.val true (.pair (.int .i64) (.rs 150 C1)) false],[.val false .bool],fun x=>f x.1⟩)
theorem E1l{D7:K1}{C2T:C0u}:EF cfg [A00 D7,C7H C2T] [] f63 (B4v (C3k D7 C2T)):=fun _=>by kernel_rfl
theorem C4S:SQ (B4v A77):=sF MO C7 (tc call61 A0u (tc call138 E3f B8)) func63 E1l
def M4(f:G2):Nat×Fn:=(144,⟨[.val false (.rs 5 (.int .u8)) false],[.val false (.sl 5 (.int .u8))],fun x=>f x.1⟩)
theorem B9C:EF cfg [] [] f144 (M4 A22):=fun _=>by kernel_rfl
theorem P8:SQ (M4 H4):=sF MO C7 B8 func144 B9C
def C23(f:B2W):Nat×Fn:=(155,⟨[.val false (.rs 5 (.int .u8)) false,.val false (.int .i64) false,.val false (.int .i64) false],[.val false (.int .i64),.val false .bool],fun x=>f x.1 x.2.1 x.2.2.1⟩)
theorem E3g{D7:K1}:EF cfg [A00 D7] [(3,⟨[],lt 11 15 [],false⟩),(15,⟨[.t 8 false [.int .i64]],lt 26 17 [.t 10],true⟩),(122,⟨[.t 8 false [.int .i64],.t 33 false [.int .i64]],lt 34 9 [.t 10],false⟩)] f155 (C23 (C6j D7)):=fun _=>by kernel_rfl
theorem D5G:SQ (C23 B2a):=sF MO C7 (tc call61 A0u B8) func155 E3g
def B1c(f:A23):Nat×Fn:=(103,⟨[.val false (.rs 5 (.int .u8)) false,.val false (.int .i64) false],[.val true A9u,.val false (.int .i64),.val false (.int .i64)],fun x=>f x.1 x.2.1⟩)
theorem D9L{C4:G2}{A4i:B2W}:EF cfg [M4 C4,C23 A4i] [(3,⟨[],lt 13 9 [],false⟩)] f103 (B1c (C0w C4 A4i)):=fun _=>by kernel_rfl
theorem C24:SQ (B1c A2r):=sF MO C7 (tc call144 P8 (tc call155 D5G B8)) func103 D9L
def B61(f:A7e):Nat×Fn:=(104,⟨[.val true (.pair (.int .i64) (.pair .bool (.rs 5 (.int .u8)))) false],[.val false .bool],fun x=>f x.1⟩)
theorem D9M{D7:K1}:EF cfg [A00 D7] [] f104 (B61 (C10 D7)):=fun _=>by kernel_rfl
theorem C91:SQ (B61 A7f):=sF MO C7 (tc call61 A0u B8) func104 D9M
def C7I(f:C11):Nat×Fn:=(116,⟨[.val true (.pair (.int .i64) (.pair (.rs 5 (.int .u8)) (.pair (.pair (.int .i64) (.pair .bool (.rs 5 (.int .u8)))) (.pair (.pair (.int .i64) (.rs 150 C1)) (.pair (.pair (.int .i64) (.rs 150 C1)) (.pair (.rs 113 H2) L2)))))) false],[.val false .bool],fun x=>f x.1⟩)
theorem E3h{D7:K1}:EF cfg [A00 D7] [(3,⟨[],lt 3 53 [.b 4],false⟩),(26,⟨[.t 8 false [.int .i64]],lt 9 47 [.b 4,.t 3,.t 4],false⟩),(1689,⟨[],lt 13 28 [],false⟩)] f116 (C7I (C6k D7)):=fun _=>by kernel_rfl
theorem E3i:SQ (C7I C12):=sF MO C7 (tc call61 A0u B8) func116 E3h
def C25(f:B2b):Nat×Fn:=(43,⟨[.val true (.pair (.int .i64) (.pair (.rs 5 (.int .u8)) (.pair (.pair (.int .i64) (.pair .bool (.rs 5 (.int .u8)))) (.pair (.pair (.int .i64) (.rs 150 C1)) (.pair (.pair (.int .i64) (.rs 150 C1)) (.pair (.rs 113 H2) L2)))))) false],[.val false .bool],fun x=>f x.1⟩)
theorem E3j{D7:K1}{A02:A5Q}{O1:A23}{A39:A7e}{C2U:C11}:EF cfg [A00 D7,B4v A02,B1c O1,B61 A39,C7I C2U] [(3,⟨[],lt 6 27 [],false⟩),(7,⟨[],lt 33 16 [],false⟩),(15,⟨[],lt 49 31 [],false⟩)] f43 (C25 (C13 D7 A02 O1 A39 C2U)):=fun _=>by kernel_rfl
theorem D5H:SQ (C25 A4S):=sF MO C7 (tc call61 A0u (tc call63 C4S (tc call103 C24 (tc call104 C91 (tc call116 E3i B8))))) func43 E3j
def R0(f:K0):Nat×Fn:=(139,⟨[.val false (.rs 150 C1) false],[.val false (.sl 150 C1)],fun x=>f x.1⟩)
theorem A93:EF cfg [] [] f139 (R0 A0J):=fun _=>by kernel_rfl
theorem A2o:SQ (R0 L0):=sF MO C7 B8 func139 A93
def A9N(f:A3J):Nat×Fn:=(64,⟨[.val true (.pair (.int .i64) (.rs 150 C1)) false],[.val true T0],fun x=>f x.1⟩)
theorem D68{G4:K0}:EF cfg [R0 G4] [] f64 (A9N (B8i G4)):=fun _=>by kernel_rfl
theorem B9D:SQ (A9N A6F):=sF MO C7 (tc call139 A2o B8) func64 D68
def B1d(f:A56):Nat×Fn:=(107,⟨[.val true (.pair (.int .i64) (.pair .bool (.rs 5 (.int .u8)))) false],[.val true A1j],fun x=>f x.1⟩)
theorem D5I{C4:G2}:EF cfg [M4 C4] [] f107 (B1d (B6g C4)):=fun _=>by kernel_rfl
theorem C4T:SQ (B1d A78):=sF MO C7 (tc call144 P8 B8) func107 D5I
def C26(f:B5g):Nat×Fn:=(82,⟨[.val true (.pair (.int .i64) (.pair (.rs 5 (.int .u8)) (.pair (.pair (.int .i64) (.pair .bool (.rs 5 (.int .u8)))) (.pair (.pair (.int .i64) (.rs 150 C1)) (.pair (.pair (.int .i64) (.rs 150 C1)) (.pair (.rs 113 H2) L2)))))) false],[.val true D3n],fun x=>f x.1⟩)
theorem D9N{N5:A3J}{T1:A56}{C4:G2}:EF cfg [A9N N5,B1d T1,M4 C4] [(1018,⟨[.t 27 false [.int .i64],.b 3 [.int .i64,.own 40960,.int .i64,.bool,.own 57346,.int .i64,.own 73729,.int .i64,.own 86017,.own 100000000,.int .i64,.int .i64],.r 40960 5 (.int .u8),.r 57346 5 (.int .u8),.r 73729 150 C1,.r 86017 150 C1,.r 100000000 113 H2],lt 28 14 [.b 5,.r 38,.r 39,.r 139264,.t 5],false⟩)] f82 (C26 (C14 N5 T1 C4)):=fun _=>by kernel_rfl
theorem D9O:SQ (C26 B5h):=sF MO C7 (tc call64 B9D (tc call107 C4T (tc call144 P8 B8))) func82 D9N
def C4U(f:B7p):Nat×Fn:=(156,⟨[.val true (.pair (.int .i64) (.pair (.int .i64) (.pair (.int .i64) (.rs 5 (.int .u8))))) false],[.val false .bool],fun x=>f x.1⟩)
theorem E1m{D7:K1}:EF cfg [A00 D7] [] f156 (C4U (A79 D7)):=fun _=>by kernel_rfl
theorem E1n:SQ (C4U A1a):=sF MO C7 (tc call61 A0u B8) func156 E1m
def A3M(f:R3):Nat×Fn:=(109,⟨[.val true (.pair (.int .i64) (.pair (.int .i64) (.pair (.int .i64) (.rs 5 (.int .u8))))) false,.val false (.int .i64) false],[.val false .bool],fun x=>f x.1 x.2.1⟩)
theorem D69:EF cfg [] [] f109 (A3M C60):=fun _=>by kernel_rfl
theorem A6R:SQ (A3M A3K):=sF MO C7 B8 func109 D69
def C7J(f:C15):Nat×Fn:=(157,⟨[.val true (.pair (.int .i64) (.pair (.int .i64) (.pair (.int .i64) (.rs 5 (.int .u8))))) false],[.val false .bool],fun x=>f x.1⟩)
theorem E3k{H7:R3}:EF cfg [A3M H7] [(235,⟨[.t 13 false [.bool]],[.t 14,.t 15],true⟩)] f157 (C7J (A9v H7)):=fun _=>by kernel_rfl
theorem E3l:SQ (C7J A2W):=sF MO C7 (tc call109 A6R B8) func157 E3k
def B4E(f:A6G):Nat×Fn:=(105,⟨[.val true (.pair (.int .i64) (.pair (.int .i64) (.pair (.int .i64) (.rs 5 (.int .u8))))) false],[.val false (.int .i64)],fun x=>f x.1⟩)
theorem D6A{B8N:B7p}{C2V:C15}:EF cfg [C4U B8N,C7J C2V] [(3,⟨[],lt 3 8 [],false⟩),(58,⟨[.t 13 false [.bool]],lt 14 6 [],true⟩)] f105 (B4E (A4T B8N C2V)):=fun _=>by kernel_rfl
theorem C6G:SQ (B4E U0):=sF MO C7 (tc call156 E1n (tc call157 E3l B8)) func105 D6A
def B9E(f:B3g):Nat×Fn:=(106,⟨[.val true (.pair (.int .i64) (.pair .bool (.rs 5 (.int .u8)))) false,.val true (.pair (.int .i64) (.pair (.int .i64) (.pair (.int .i64) (.rs 5 (.int .u8))))) false],[.val false .bool],fun x=>f x.1 x.2.1⟩)
theorem D6B:EF cfg [] [] f106 (B9E B8j):=fun _=>by kernel_rfl
theorem D6C:SQ (B9E B3h):=sF MO C7 B8 func106 D6B
def C5L(f:B6K):Nat×Fn:=(108,⟨[.val true (.pair (.int .i64) (.pair (.int .i64) (.pair (.int .i64) (.rs 5 (.int .u8))))) false],[.val false (.sl 5 (.int .u8)),.val false .bool],fun x=>f x.1⟩)
theorem E7S{H7:R3}{C4:G2}:EF cfg [A3M H7,M4 C4] [(7,⟨[.t 4 false [.ro 5 (.int .u8)],.t 5 false [.int .i64]],lt 9 11 [],false⟩),(31,⟨[.t 6 false [.int .i64]],lt 20 7 [],true⟩)] f108 (C5L (C9p H7 C4)):=fun _=>by kernel_rfl
theorem D82:SQ (C5L B9l):=sF MO C7 (tc call109 A6R (tc call144 P8 B8)) func108 E7S
def D5J(f:C8F):Nat×Fn:=(38,⟨[.val true (.pair (.int .i64) (.pair .bool (.rs 5 (.int .u8)))) false,.val true (.pair (.int .i64) (.pair (.int .i64) (.pair (.int .i64) (.rs 5 (.int .u8))))) false],[.val true A1j,.val false (.sl 5 (.int .u8)),.val false (.int .i64)],fun x=>f x.1 x.2.1⟩)
theorem F0M{A39:A7e}{A24:A6G}{B4L:B3g}{T1:A56}{A8R:B6K}{H7:R3}:EF cfg [B61 A39,B4E A24,B9E B4L,B1d T1,C5L A8R,A3M H7] [(3,⟨[],lt 10 14 [],false⟩),(6,⟨[.t 23 false [.bool]],lt 10 13 [],true⟩),(15,⟨[.b 7 [.int .i64,.bool,.own 100002000],.r 100002000 5 (.int .u8)],lt 42 14 (lt 31 9 [.r 54,.r 114690,.r 147456,.t 8,.t 9,.t 28,.t 29]),false⟩)] f38 (D5J (D3p A39 A24 B4L T1 A8R H7)):=fun _=>by kernel_rfl
theorem F0N:SQ (D5J C8G):=sF MO C7 (tc call104 C91 (tc call105 C6G (tc call106 D6C (tc call107 C4T (tc call108 D82 (tc call109 A6R B8)))))) func38 F0M
def B5I(f:A9T):Nat×Fn:=(209,⟨[],[.val false (.sl 150 C1)],fun x=>f⟩)
theorem D28{A0d:A40}{A6T:A9C}:EF cfg [B5H A0d,C6F A6T] [(58,⟨[.t 1 false [.own 100000000],.t 9 false [.int .i64],.r 100000000 150 C1],lt 10 16 (lt 3 4 [.r 23,.r 24,.x 11]),false⟩)] f209 (B5I (C2u A0d A6T)):=fun _=>by kernel_rfl
theorem D29:SQ (B5I A9U):=sF MO C7 (tc call231 C32 (tc call232 D67 B8)) func209 D28
def B7A(f:B0w):Nat×Fn:=(217,⟨[.val false (.int .i64) false],[.val true C1,.val false .bool],fun x=>f x.1⟩)
theorem D5K{D7:K1}{A9o:A9T}:EF cfg [A00 D7,B5I A9o] [] f217 (B7A (B6h D7 A9o)):=fun _=>by kernel_rfl
theorem D5L:SQ (B7A B6i):=sF MO C7 (tc call61 A0u (tc call209 D29 B8)) func217 D5K
def C4V(f:B7q):Nat×Fn:=(191,⟨[.val true (.pair (.int .i64) (.rs 150 C1)) false,.val false (.int .i64) false],[.val true C1,.val false .bool],fun x=>f x.1 x.2.1⟩)
theorem E1o{B1w:B0w}:EF cfg [B7A B1w] [] f191 (C4V (C3l B1w)):=fun _=>by kernel_rfl
theorem E1p:SQ (C4V B7r):=sF MO C7 (tc call217 D5L B8) func191 E1o
def B4F(f:A6H):Nat×Fn:=(192,⟨[.val false (.rs 5 (.int .u8)) false,.val false (.int .i64) false,.val false (.int .i64) false],[.val false (.int .i64),.val false (.int .i64),.val false .bool],fun x=>f x.1 x.2.1 x.2.2.1⟩)
theorem D6D{D7:K1}:EF cfg [A00 D7] [(3,⟨[],lt 13 11 [],false⟩),(127,⟨[],lt 42 27 (lt 10 3 [.t 1]),false⟩),(1018,⟨[.t 1 false [.int .i64],.t 10 false [.int .i64],.t 11 false [.int .i64]],lt 42 27 [.t 12],false⟩),(2036,⟨[],lt 42 8 [],false⟩)] f192 (B4F (B8k D7)):=fun _=>by kernel_rfl
theorem C6H:SQ (B4F A9D):=sF MO C7 (tc call61 A0u B8) func192 D6D
def C4W(f:B7s):Nat×Fn:=(210,⟨[],[.val false (.pa 257 L2)],fun x=>f⟩)
theorem E1q{A0d:A40}{A5L:A75}:EF (cfg.withAr [(247,257,246)]) [B5H A0d,C4P A5L] [(7,⟨[.r 1 247 L2],lt 7 16 [.r 32768,.t 2,.t 3,.x 12,.x 20],true⟩),(58,⟨[.t 9 false [.int .i64],.r 1 247 L2],lt 10 13 [.t 2,.t 3,.x 12,.x 20],false⟩),(250,⟨[.t 4 false [.int .i64],.t 5 false [.int .i64],.r 1 247 L2],lt 23 22 [.t 6,.x 33,.x 40],false⟩),(32038,⟨[.t 4 false [.int .i64],.t 29 false [.int .i64],.r 1 247 L2],lt 30 15 [.t 6,.x 33,.x 40],false⟩)] f210 (C4W (D1T A0d A5L)):=fun _=>by kernel_rfl
theorem E1r:SQ (C4W B4i):=sF MO (B6J (l:= [(247,257,246)]) C7 ⟨tA t247 ⟨true,L2,16,[(0,1,false),(1,1,false)]⟩ underlying247,trivial⟩) (tc call231 C32 (tc call233 D56 B8)) func210 E1q
def D5M(f:C8H):Nat×Fn:=(212,⟨[.val false (.pa 257 L2) false,.val false (.sl 5 (.int .u8)) false,.val false .str false],[.val false (.sl 5 (.int .u8))],fun x=>f x.1 x.2.1 x.2.2.1⟩)
theorem F0O:EF (cfg.withAr [(247,257,246)]) [] [(7,⟨[.t 1 false [.own 100000001],.t 7 false [.int .i64],.t 8 false [.int .i64],.r 100000001 5 (.int .u8)],lt 12 43 [.b 10,.r 47,.r 48,.r 1100,.r 100001000,.t 9,.t 10],true⟩),(58,⟨[.t 1 false [.own 100000001],.t 7 false [.int .i64],.t 8 false [.int .i64],.t 9 false [.int .i64],.r 100000001 5 (.int .u8)],lt 12 43 [.b 10,.r 47,.r 48,.r 1100,.r 100001000,.t 10],false⟩),(14926,⟨[.t 1 false [.own 100001000],.t 7 false [.int .i64],.t 8 false [.int .i64],.r 100001000 5 (.int .u8)],lt 37 18 [.r 47,.r 48,.r 1100,.r 100000001],false⟩)] f212 (D5M D3r):=fun _=>by kernel_rfl
theorem F0P:SQ (D5M C8I):=sF MO (B6J (l:= [(247,257,246)]) C7 ⟨tA t247 ⟨true,L2,16,[(0,1,false),(1,1,false)]⟩ underlying247,trivial⟩) B8 func212 F0O
def E3m:Nat->Option Jn:=B5V [(63,⟨[.t 8 false [.own 100000001],.r 100000001 5 (.int .u8)],lt 71 8 (lt 28 41 (lt 11 4 [.b 9,.r 75,.r 76,.r 100001000])),false⟩),(506,⟨[.t 8 false [.own 100000001],.t 30 false [.int .i64],.b 9 [.int .i64,.int .i64],.r 100000001 5 (.int .u8)],lt 71 8 (lt 31 38 (lt 11 4 [.r 75,.r 76,.r 100001000])),false⟩),(129638,⟨[.t 8 false [.own 100001000],.t 12 false [.int .i64],.b 9 [.int .i64,.int .i64],.r 100001000 5 (.int .u8)],lt 71 7 (lt 34 35 [.r 75,.r 76,.r 100000001,.t 13,.t 14]),false⟩),(16593703,⟨[],lt 59 10 [],false⟩)]
abbrev E3n:List PK:= [.val false (.pa 257 L2) false,.val false (.rs 5 (.int .u8)) false]
abbrev E3o:List RK:= [.val false .str]
def D5N(f:C17):Nat×Fn:=(265,⟨E3n,E3o,fun x=>f x.1 x.2.1⟩)
def E3p:Fn:=(D5N C18).2
theorem E3q:∀ x,F36 E3m x=C6l x.1 x.2.1:=by intro x;kernel_rfl
theorem E3r:A28 prog 265 E3p:=F0L E3q
def B9F(f:B3i):Nat×Fn:=(266,⟨[.val false (.rs 5 (.int .u8)) false,.val false (.rs 5 (.int .u8)) false],[.val false .bool],fun x=>f x.1 x.2.1⟩)
theorem D6E:EF cfg [] [] f266 (B9F B8l):=fun _=>by kernel_rfl
theorem D6F:SQ (B9F B8m):=sF MO C7 B8 func266 D6E
def C7K(f:C19):Nat×Fn:=(242,⟨[.val false (.rs 5 (.int .u8)) false],[.val false .str,.val false .bool],fun x=>f x.1⟩)
theorem E3s{B8P:B7s}{C9M:C8H}{C2W:C17}{B4M:B3i}:EF cfg [C4W B8P,D5M C9M,D5N C2W,B9F B4M] [] f242 (C7K (C6m B8P C9M C2W B4M)):=fun _=>by kernel_rfl
theorem E3t:SQ (C7K C1A):=sF MO C7 (tc call210 E1r (tc call212 F0P (tc call265 E3r (tc call266 D6F B8)))) func242 E3s
def B9G(f:B3j):Nat×Fn:=(218,⟨[.val false (.rs 5 (.int .u8)) false,.val false (.int .i64) false],[.val false .str,.val false (.int .i64),.val false .bool],fun x=>f x.1 x.2.1⟩)
theorem D6G{A25:A6H}{C2a:C19}:EF cfg [B4F A25,C7K C2a] [(7,⟨[],lt 19 14 [],false⟩)] f218 (B9G (B8n A25 C2a)):=fun _=>by kernel_rfl
theorem D6H:SQ (B9G B3k):=sF MO C7 (tc call192 C6H (tc call242 E3t B8)) func218 D6G
def B1e(f:A57):Nat×Fn:=(195,⟨[.ptr T0],[],fun x=>f x.1⟩)
theorem D5O{G4:K0}{A1v:A76}:EF cfg [R0 G4,C22 A1v] [(14,⟨[.t 2 false [.int .i64],.t 14 false [.int .i64]],lt 15 10 [.b 4,.t 3,.t 4,.t 35,.x 17],false⟩)] f195 (B1e (B6j G4 A1v)):=fun _=>by kernel_rfl
theorem C4a:SQ (B1e A29):=sF MO C7 (tc call139 A2o (tc call179 D5F B8)) func195 D5O
def B9H(f:B3l):Nat×Fn:=(161,⟨[.ptr T0,.val true C1 false],[],fun x=>f x.1 x.2.1⟩)
theorem D6I{Q3:Q1}{A1I:A57}:EF cfg [A2N Q3,B1e A1I] [] f161 (B9H (B3m Q3 A1I)):=fun _=>by kernel_rfl
theorem D6J:SQ (B9H A3L):=sF MO C7 (tc call194 A8M (tc call195 C4a B8)) func161 D6I
def C7L(f:C1B):Nat×Fn:=(196,⟨[.val true (.pair (.int .i64) (.rs 150 C1)) false,.val false (.int .i64) false],[.val true T0],fun x=>f x.1 x.2.1⟩)
theorem E3u{D7:K1}{A02:A5Q}{N5:A3J}{A1I:A57}:EF cfg [A00 D7,B4v A02,A9N N5,B1e A1I] [(7,⟨[],lt 8 8 [],false⟩)] f196 (C7L (C6n D7 A02 N5 A1I)):=fun _=>by kernel_rfl
theorem E3v:SQ (C7L C1C):=sF MO C7 (tc call61 A0u (tc call63 C4S (tc call64 B9D (tc call195 C4a B8)))) func196 E3u
def O7(f:L5):Nat×Fn:=(163,⟨[.ptr (.pair (.rs 5 (.int .u8)) (.pair (.int .i64) (.pair (.int .i64) (.pair T0 (.sl 150 C1))))),.val false (.int .i64) false],[],fun x=>f x.1 x.2.1⟩)
theorem B7T:EF cfg [] [] f163 (O7 W8):=fun _=>by kernel_rfl
theorem A0I:SQ (O7 L6):=sF MO C7 B8 func163 B7T
def V7(f:P0):Nat×Fn:=(159,⟨[.ptr (.pair (.rs 5 (.int .u8)) (.pair (.int .i64) (.pair (.int .i64) (.pair T0 (.sl 150 C1))))),.val false (.int .i64) false],[.val false (.int .i64)],fun x=>f x.1 x.2.1⟩)
theorem B62{F3:L5}{A25:A6H}:EF cfg [O7 F3,B4F A25] [] f159 (V7 (A5c F3 A25)):=fun _=>by kernel_rfl
theorem A37:SQ (V7 A0A):=sF MO C7 (tc call163 A0I (tc call192 C6H B8)) func159 B62
def A1F(f:A0Q):Nat×Fn:=(158,⟨[.ptr (.pair (.rs 5 (.int .u8)) (.pair (.int .i64) (.pair (.int .i64) (.pair T0 (.sl 150 C1))))),.val false (.int .i64) false],[.val true C1],fun x=>f x.1 x.2.1⟩)
theorem B7B{F3:L5}{B8O:B7q}:EF cfg [O7 F3,C4V B8O] [] f158 (A1F (A6b F3 B8O)):=fun _=>by kernel_rfl
theorem A7L:SQ (A1F U7):=sF MO C7 (tc call163 A0I (tc call191 E1p B8)) func158 B7B
def A3u(f:A48):Nat×Fn:=(193,⟨[.ptr (.pair (.rs 5 (.int .u8)) (.pair (.int .i64) (.pair (.int .i64) (.pair T0 (.sl 150 C1)))))],[.val false .str],fun x=>f x.1⟩)
theorem B7U{F3:L5}{B4N:B3j}:EF cfg [O7 F3,B9G B4N] [] f193 (A3u (A49 F3 B4N)):=fun _=>by kernel_rfl
theorem B7V:SQ (A3u A0r):=sF MO C7 (tc call163 A0I (tc call218 D6H B8)) func193 B7U
def A2h(f:A0a):Nat×Fn:=(160,⟨[.ptr (.pair (.rs 5 (.int .u8)) (.pair (.int .i64) (.pair (.int .i64) (.pair T0 (.sl 150 C1))))),.val false (.int .i64) false],[.val true C1],fun x=>f x.1 x.2.1⟩)
theorem B5J{O2:A0Q}{J2:P0}{A2E:A48}:EF cfg [A1F O2,V7 J2,A3u A2E] [(15,⟨[.b 6 [.str,.str],.b 1000 [.ro 5 (.int .u8),.int .i64,.int .i64,.int .i64,.own 100000000,.own 100000001],.r 100000000 150 C1,.r 100000001 150 C1],lt 22 6 (lt 10 11 [.r 43012,.r 43013,.r 55300,.r 55301,.r 112644,.r 112645]),false⟩)] f160 (A2h (A2a O2 J2 A2E)):=fun _=>by kernel_rfl
theorem B5K:SQ (A2h A0b):=sF MO C7 (tc call158 A7L (tc call159 A37 (tc call193 B7V B8))) func160 B5J
def A38(f:A12):Nat×Fn:=(162,⟨[.ptr (.pair (.rs 5 (.int .u8)) (.pair (.int .i64) (.pair (.int .i64) (.pair T0 (.sl 150 C1))))),.val false (.int .i64) false],[],fun x=>f x.1 x.2.1⟩)
theorem B63{J2:P0}{F3:L5}{C2b:C1B}:EF cfg [V7 J2,O7 F3,C7L C2b] [(3,⟨[.b 1000 [.ro 5 (.int .u8),.int .i64,.int .i64,.int .i64,.own 100000000,.own 100000001],.r 100000000 150 C1,.r 100000001 150 C1],lt 7 13 [.r 30724,.r 30725,.r 83972,.r 83973],true⟩)] f162 (A38 (A2s J2 F3 C2b)):=fun _=>by kernel_rfl
theorem B64:SQ (A38 A2t):=sF MO C7 (tc call159 A37 (tc call163 A0I (tc call196 E3v B8))) func162 B63
def A3v(f:A0H):Nat×Fn:=(110,⟨[.ptr (.pair (.rs 5 (.int .u8)) (.pair (.int .i64) (.pair (.int .i64) (.pair T0 (.sl 150 C1))))),.val false (.int .i64) false],[],fun x=>f x.1 x.2.1⟩)
theorem B7W{O2:A0Q}{J2:P0}{T2:A0a}{B4O:B3l}{A15:A12}{F3:L5}:EF cfg [A1F O2,V7 J2,A2h T2,B9H B4O,A38 A15,O7 F3] [(7,⟨[.b 5 [.str,.str],.b 1000 [.ro 5 (.int .u8),.int .i64,.int .i64,.int .i64,.own 100000000,.own 100000001],.r 100000000 150 C1,.r 100000001 150 C1],lt 16 27 [.r 1004,.r 1005,.r 75780,.r 75781,.r 100356,.r 100357,.r 104452,.r 104453,.r 124932,.r 124933,.r 165889],false⟩)] f110 (A3v (A3s O2 J2 T2 B4O A15 F3)):=fun _=>by kernel_rfl
theorem B7a:SQ (A3v R9):=sF MO C7 (tc call158 A7L (tc call159 A37 (tc call160 B5K (tc call161 D6J (tc call162 B64 (tc call163 A0I B8)))))) func110 B7W
def B9I(f:B3n):Nat×Fn:=(39,⟨[.val true (.pair (.int .i64) (.rs 150 C1)) false,.val false (.int .i64) false,.val false (.rs 5 (.int .u8)) false],[.val false (.sl 150 C1),.val true T0,.val false (.int .i64)],fun x=>f x.1 x.2.1 x.2.2.1⟩)
theorem D6K{D7:K1}{A02:A5Q}{N5:A3J}{S0:A0H}:EF cfg [A00 D7,B4v A02,A9N N5,A3v S0] [(3,⟨[],lt 10 8 [],false⟩),(6,⟨[.t 17 false [.bool]],lt 10 7 [],true⟩),(15,⟨[.b 9 [.ro 5 (.int .u8),.int .i64,.int .i64,.int .i64,.own 100002000,.own 100002001],.r 100002000 150 C1,.r 100002001 150 C1],lt 24 12 [.r 94209,.r 149508,.r 149509],true⟩),(60,⟨[.b 9 [.ro 5 (.int .u8),.int .i64,.int .i64,.int .i64,.own 100002000,.own 100002001],.r 100002000 150 C1,.r 100002001 150 C1],lt 24 12 [.r 94209,.r 149508,.r 149509],false⟩)] f39 (B9I (B8o D7 A02 N5 S0)):=fun _=>by kernel_rfl
theorem D6L:SQ (B9I B3o):=sF MO C7 (tc call61 A0u (tc call63 C4S (tc call64 B9D (tc call110 B7a B8)))) func39 D6K
def B1f(f:A4A):Nat×Fn:=(83,⟨[.ptr D3n,.val false (.int .i64) false],[.val false (.int .i64),.val false .bool],fun x=>f x.1 x.2.1⟩)
theorem D9P:EF cfg [] [(7,⟨[.t 6 false [.int .i64]],lt 7 21 [.x 20],true⟩),(28,⟨[.t 6 false [.int .i64]],lt 7 21 [.x 20],false⟩)] f83 (B1f C1D):=fun _=>by kernel_rfl
theorem C27:SQ (B1f A4B):=sF MO C7 B8 func83 D9P
def C28(f:B5j):Nat×Fn:=(261,⟨[.val false (.int .i64) false],[.val false (.int .i64),.val false (.int .i64)],fun x=>f x.1⟩)
theorem D9Q:EF cfg [] [(26,⟨[.t 5 false [.bool]],[.t 6,.t 7],true⟩)] f261 (C28 C1E):=fun _=>by kernel_rfl
theorem D9R:SQ (C28 B5k):=sF MO C7 B8 func261 D9Q
def C29(f:B5l):Nat×Fn:=(262,⟨[.val false (.int .i64) false],[.val false (.int .i64),.val false (.int .i64)],fun x=>f x.1⟩)
theorem D9S:EF cfg [] [(26,⟨[.t 5 false [.bool]],[.t 6,.t 7],true⟩),(107,⟨[.t 8 false [.bool]],[.t 9,.t 10],true⟩),(431,⟨[.t 11 false [.bool]],[.t 12,.t 13],true⟩)] f262 (C29 C1F):=fun _=>by kernel_rfl
theorem D9T:SQ (C29 B5m):=sF MO C7 B8 func262 D9S
def B1g(f:A6h):Nat×Fn:=(263,⟨[.val false (.int .i64) false],[.val false (.int .i64),.val false (.int .i64)],fun x=>f x.1⟩)
theorem C92:EF cfg [] [(26,⟨[.t 5 false [.bool]],lt 6 4 [],true⟩)] f263 (B1g B12):=fun _=>by kernel_rfl
theorem C93:SQ (B1g A6i):=sF MO C7 B8 func263 C92
def B3A(f:A7h):Nat×Fn:=(264,⟨[.val false (.int .i64) false],[.val false (.int .i64),.val false (.int .i64)],fun x=>f x.1⟩)
theorem D0O:EF cfg [] [(26,⟨[.t 5 false [.bool]],lt 6 4 [],true⟩)] f264 (B3A B2c):=fun _=>by kernel_rfl
theorem D0P:SQ (B3A A7i):=sF MO C7 B8 func264 D0O
def B1h(f:A58):Nat×Fn:=(240,⟨[.val false (.int .i64) false,.val false (.int .i64) false],[.val false (.int .i64),.val false (.int .i64)],fun x=>f x.1 x.2.1⟩)
theorem D5P{D7:K1}{B69:B5j}{B6A:B5l}{A6w:A6h}{A8S:A7h}:EF cfg [A00 D7,C28 B69,C29 B6A,B1g A6w,B3A A8S] [] f240 (B1h (B13 D7 B69 B6A A6w A8S)):=fun _=>by kernel_rfl
theorem C4b:SQ (B1h A0R):=sF MO C7 (tc call61 A0u (tc call261 D9R (tc call262 D9T (tc call263 C93 (tc call264 D0P B8))))) func240 D5P
def B3B(f:A7j):Nat×Fn:=(241,⟨[.ptr A3l,.val true (.pair (.int .i64) (.pair (.int .i64) (.pair D3m (.rs 5 (.int .u8))))) false],[],fun x=>f x.1 x.2.1⟩)
theorem D0Q{C4:G2}:EF cfg [M4 C4] [] f241 (B3B (B2d C4)):=fun _=>by kernel_rfl
theorem D0R:SQ (B3B A7k):=sF MO C7 (tc call144 P8 B8) func241 D0Q
abbrev C2A:List PK:= [.ptr A3l,.val true (.pair (.int .i64) (.pair (.int .i64) D3m)) false,.val false (.int .i64) false]
abbrev B1i:List RK:= []
def B1j(f:A2u):Nat×Fn:=(241,⟨C2A,B1i,fun x=>f x.1 x.2.1 x.2.2.1⟩)
def C2B:Fn:=(B1j A18).2
theorem C2C(C4:G2):∀ x,F29 cfg [M4 C4] (B5V []) 24 [] (f241.body.getD .skip) A3l (.pair (.int .i64) (.pair (.int .i64) D3m)) (kr:=H2) 9 5 (fun x0=>x0.1.2.2.2.2.2.1) B1i x=A5d C4 x.1 x.2.1 x.2.2.1:=by intro x;kernel_rfl
theorem C2D:C6h prog ⟨241,C2B,9,6,5⟩:=F3I MO C7 (tc call144 P8 B8) func241 (by kernel_rfl) (lq:=9) (off:=5) (by decide) (by decide) (fun x0=>rfl) (fun x0=>rfl) (fun x1=>rfl) (C2C H4)
abbrev B7C:List PK:= [.ptr A3l,.val false (.int .i64) false,.val false (.int .i64) false]
abbrev B7D:List RK:= [.val false (.int .i64)]
def B0B(f:A1p):Nat×Fn:=(216,⟨B7C,B7D,fun x=>f x.1 x.2.1 x.2.2.1⟩)
def C7M:Fn:=(B0B A3c).2
theorem C7N(A1J:A58)(A3A:A2u):∀ x,(E9H cfg [B1h A1J] ⟨241,(B1j A3A).2,9,6,5⟩ (B5V []) 40 [.tmp 6] (f216.body.getD .skip) B7C B7D).fn x=A9w A1J A3A x.1 x.2.1 x.2.2.1:=by intro x;kernel_rfl
theorem B7E:A28 prog 216 C7M:=smA MO C7 (tc call240 C4b B8) C2D call241 func216 (by kernel_rfl) (by decide) (C7N A0R A18)
def C7O(f:C1G):Nat×Fn:=(238,⟨[.val false .bool false],[.val false (.int .i64)],fun x=>f x.1⟩)
theorem E3w:EF cfg [] [] f238 (C7O D3s):=fun _=>by kernel_rfl
theorem E40:SQ (C7O C1H):=sF MO C7 B8 func238 E3w
def B5L(f:A9V):Nat×Fn:=(136,⟨[.val false (.int .i64) false],[.val false .str,.val false (.int .i64)],fun x=>f x.1⟩)
theorem D2A:EF cfg [] [] f136 (B5L B59):=fun _=>by kernel_rfl
theorem D2B:SQ (B5L A9W):=sF MO C7 B8 func136 D2A
def D5Q(f:C8J):Nat×Fn:=(137,⟨[.val false .str false],[.val false .bool],fun x=>f x.1⟩)
theorem F0Q{D7:K1}:EF cfg [A00 D7] [(3,⟨[],lt 3 30 [],false⟩),(26,⟨[.t 3 false [.int .i64]],lt 4 29 [],false⟩)] f137 (D5Q (D3t D7)):=fun _=>by kernel_rfl
theorem F0R:SQ (D5Q C8K):=sF MO C7 (tc call61 A0u B8) func137 F0Q
def C2E(f:B5n):Nat×Fn:=(164,⟨[.val false .str false,.val false (.int .i64) false],[.val false (.int .i64),.val false .bool],fun x=>f x.1 x.2.1⟩)
theorem D9U{D7:K1}{B20:B0r}:EF cfg [A00 D7,C4Q B20] [(15,⟨[.t 6 false [.int .i64]],lt 12 24 [.t 7],false⟩),(122,⟨[.t 6 false [.int .i64],.t 7 false [.int .i64]],lt 12 24 [],false⟩),(1956,⟨[],lt 18 10 [],false⟩)] f164 (C2E (C1J D7 B20)):=fun _=>by kernel_rfl
theorem D9V:SQ (C2E B5o):=sF MO C7 (tc call61 A0u (tc call142 D5A B8)) func164 D9U
def B8E(f:A5R):Nat×Fn:=(258,⟨[.val false (.rs 150 C1) false,.val false .str false],[.val false .str,.val false (.int .i64)],fun x=>f x.1 x.2.1⟩)
theorem E1s:EF cfg [] [(7,⟨[.t 6 false [.str],.t 7 false [.int .i64]],lt 9 18 [.b 9],true⟩),(58,⟨[.t 6 false [.str],.t 7 false [.int .i64],.t 12 false [.int .i64]],lt 13 14 [.b 9,.t 9],false⟩)] f258 (B8E C3m):=fun _=>by kernel_rfl
theorem D1o:SQ (B8E U4):=sF MO C7 B8 func258 E1s
def C7P(f:B6k):Nat×Fn:=(285,⟨[.val false .str false],[.val false .bool],fun x=>f x.1⟩)
theorem E41:EF cfg [] [(3,⟨[],lt 3 17 [],false⟩),(26,⟨[.t 3 false [.int .i64]],lt 4 16 [],false⟩)] f285 (C7P C6o):=fun _=>by kernel_rfl
theorem E42:SQ (C7P B00):=sF MO C7 B8 func285 E41
def A2i(f:A0c):Nat×Fn:=(306,⟨[.val false (.rs 9 .str) false,.val false .str false],[.val false (.int .i64)],fun x=>f x.1 x.2.1⟩)
theorem B5M:EF cfg [] [(26,⟨[.t 8 false [.int .i64]],lt 9 8 [.t 5,.t 18],false⟩)] f306 (A2i A2b):=fun _=>by kernel_rfl
theorem B5N:SQ (A2i A2c):=sF MO C7 B8 func306 B5M
def A1i(f:Q5):Nat×Fn:=(286,⟨[.val false (.rs 9 .str) false,.val false .str false],[.val false .bool],fun x=>f x.1 x.2.1⟩)
theorem B2E{A0e:A0c}:EF cfg [A2i A0e] [] f286 (A1i (A1g A0e)):=fun _=>by kernel_rfl
theorem B2F:SQ (A1i L9):=sF MO C7 (tc call306 B5N B8) func286 B2E
def C7Q(f:C1L):Nat×Fn:=(257,⟨[.val false (.rs 150 C1) false],[.val false .bool],fun x=>f x.1⟩)
theorem E43{U6:A5R}{B3U:B6k}{N3:Q5}:EF (cfg.withAr [(292,3,9)]) [B8E U6,C7P B3U,A1i N3] [(7,⟨[],lt 13 35 (lt 5 4 [.b 5,.r 27,.t 3]),false⟩),(58,⟨[.t 3 false [.bool],.t 15 false [.int .i64]],lt 16 32 (lt 5 4 [.b 5,.r 27]),false⟩),(122,⟨[.t 49 false [.int .i64]],lt 50 11 (lt 10 3 []),false⟩)] f257 (C7Q (C6p U6 B3U N3)):=fun _=>by kernel_rfl
theorem E44:SQ (C7Q C1M):=sF MO (B6J (l:= [(292,3,9)]) C7 ⟨tA t292 ⟨false,.str,16,[]⟩ underlying292,trivial⟩) (tc call258 D1o (tc call285 E42 (tc call286 B2F B8))) func257 E43
def C2F(f:B14):Nat×Fn:=(141,⟨[.val false (.int .i64) false],[.val false .str],fun x=>f x.1⟩)
theorem D9W:EF (cfg.withAr [(211,6,9)]) [] [] f141 (C2F C8L):=fun _=>by kernel_rfl
theorem D9a:SQ (C2F A2v):=sF MO (B6J (l:= [(211,6,9)]) C7 ⟨tA t211 ⟨false,.str,16,[]⟩ underlying211,trivial⟩) B8 func141 D9W
def D5R(f:C8M):Nat×Fn:=(259,⟨[.val false .str false],[.val false (.int .i64)],fun x=>f x.1⟩)
theorem F0S{A8T:B14}:EF cfg [C2F A8T] [(26,⟨[.t 3 false [.int .i64]],lt 4 8 [],false⟩)] f259 (D5R (D3u A8T)):=fun _=>by kernel_rfl
theorem F0T:SQ (D5R C8N):=sF MO C7 (tc call141 D9a B8) func259 F0S
def A1G(f:V4):Nat×Fn:=(307,⟨[.val false .str false,.val false .str false],[.val false .bool],fun x=>f x.1 x.2.1⟩)
theorem B1k:EF cfg [] [] f307 (A1G A19):=fun _=>by kernel_rfl
theorem B1l:SQ (A1G A1A):=sF MO C7 B8 func307 B1k
def A1H(f:V5):Nat×Fn:=(287,⟨[.val false .str false,.val false .str false],[.val false .str,.val false .bool],fun x=>f x.1 x.2.1⟩)
theorem B1m{V8:V4}:EF cfg [A1G V8] [] f287 (A1H (A1B V8)):=fun _=>by kernel_rfl
theorem B1n:SQ (A1H A1C):=sF MO C7 (tc call307 B1l B8) func287 B1m
def A94(f:A4o):Nat×Fn:=(260,⟨[.val false .str false,.val false .str false],[.val false .str,.val false .bool],fun x=>f x.1 x.2.1⟩)
theorem C5d{V9:V5}:EF cfg [A1H V9] [] f260 (A94 (A8v V9)):=fun _=>by kernel_rfl
theorem C5e:SQ (A94 A2k):=sF MO C7 (tc call287 B1n B8) func260 C5d
def D0S(f:C5A):Nat×Fn:=(239,⟨[.val false (.rs 150 C1) false],[.val true D3m,.val false (.int .i64)],fun x=>f x.1⟩)
theorem E7T{A9p:A9V}{C9N:C8J}{B6B:B5n}{C2c:C1L}{U6:A5R}{C9O:C8M}{A4v:A4o}:EF cfg [B5L A9p,D5Q C9N,C2E B6B,C7Q C2c,B8E U6,D5R C9O,A94 A4v] [(255,⟨[],lt 42 7 [],false⟩)] f239 (D0S (C9q A9p C9N B6B C2c U6 C9O A4v)):=fun _=>by kernel_rfl
theorem E7U:SQ (D0S C5B):=sF MO C7 (tc call136 D2B (tc call137 F0R (tc call164 D9V (tc call257 E44 (tc call258 D1o (tc call259 F0T (tc call260 C5e B8))))))) func239 E7T
def B3C(f:A7n):Nat×Fn:=(214,⟨[.ptr A3l,.val false (.int .i64) false,.val false .bool false,.val false (.rs 5 (.int .u8)) false],[.val false (.int .i64)],fun x=>f x.1 x.2.1 x.2.2.1 x.2.2.2.1⟩)
theorem D0T{B4P:B3n}{W3:A4A}{P9:A1p}{B7N:C1G}{C5P:C5A}{A1J:A58}{A8U:A7j}:EF cfg [B9I B4P,B1f W3,B0B P9,C7O B7N,D0S C5P,B1h A1J,B3B A8U] [(63,⟨[],lt 51 21 [.t 44,.t 45],false⟩),(1011,⟨[.t 51 false [.bool]],lt 52 12 [],true⟩)] f214 (B3C (B2e B4P W3 P9 B7N C5P A1J A8U)):=fun _=>by kernel_rfl
theorem D0U:SQ (B3C A7o):=sF MO C7 (tc call39 D6L (tc call83 C27 (tc call216 B7E (tc call238 E40 (tc call239 E7U (tc call240 C4b (tc call241 D0R B8))))))) func214 D0T
def B5O(f:A9a):Nat×Fn:=(186,⟨[.ptr A3l,.val true (.pair (.int .i64) (.pair (.int .i64) (.pair (.int .i64) (.rs 5 (.int .u8))))) false],[.val false (.int .i64)],fun x=>f x.1 x.2.1⟩)
theorem D2C{C9P:C8F}{H7:R3}{A8V:A7n}:EF cfg [D5J C9P,A3M H7,B3C A8V] [(7,⟨[.t 5 false [.int .i64],.t 6 false [.bool]],lt 22 6 [],true⟩),(506,⟨[.t 45 false [.bool]],[.t 46,.t 47],true⟩)] f186 (B5O (B5A C9P H7 A8V)):=fun _=>by kernel_rfl
theorem D2D:SQ (B5O A9b):=sF MO C7 (tc call38 F0N (tc call109 A6R (tc call214 D0U B8))) func186 D2C
def C2G(f:B2f):Nat×Fn:=(145,⟨[.val false (.sl 5 (.int .u8)) false,.val false (.int .i64) false,.val false (.int .i64) false],[.val false (.sl 5 (.int .u8))],fun x=>f x.1 x.2.1 x.2.2.1⟩)
theorem E45:EF cfg [] [(58,⟨[.t 0 false [.own 100000000],.t 7 false [.int .i64],.r 100000000 5 (.int .u8)],lt 12 13 [.r 23,.r 24,.r 1000],false⟩)] f145 (C2G C6q):=fun _=>by kernel_rfl
theorem D5S:SQ (C2G B6l):=sF MO C7 B8 func145 E45
def B65(f:A7p):Nat×Fn:=(69,⟨[.val false (.sl 5 (.int .u8)) false,.val true (.pair (.int .i64) (.pair (.int .i64) (.pair (.int .i64) (.rs 5 (.int .u8))))) false],[.val false (.sl 5 (.int .u8))],fun x=>f x.1 x.2.1⟩)
theorem D9b{A3h:B2f}:EF cfg [C2G A3h] [] f69 (B65 (C1O A3h)):=fun _=>by kernel_rfl
theorem C94:SQ (B65 B15):=sF MO C7 (tc call145 D5S B8) func69 D9b
def B1o(f:A6j):Nat×Fn:=(187,⟨[.ptr A3l,.val true (.pair (.int .i64) (.pair (.int .i64) (.pair (.int .i64) (.rs 5 (.int .u8))))) false,.val false (.rs 5 (.int .u8)) false],[],fun x=>f x.1 x.2.1 x.2.2.1⟩)
theorem C95{A3B:A7p}{H7:R3}:EF cfg [B65 A3B,A3M H7] [] f187 (B1o (B16 A3B H7)):=fun _=>by kernel_rfl
theorem C96:SQ (B1o A6k):=sF MO C7 (tc call69 C94 (tc call109 A6R B8)) func187 C95
def C2H(f:B5p):Nat×Fn:=(188,⟨[.val false (.rs 5 (.int .u8)) false],[.val false (.int .i64),.val false .bool],fun x=>f x.1⟩)
theorem D9c{A4i:B2W}:EF cfg [C23 A4i] [] f188 (C2H (C1P A4i)):=fun _=>by kernel_rfl
theorem D9d:SQ (C2H B5q):=sF MO C7 (tc call155 D5G B8) func188 D9c
def A5l(f:A1q):Nat×Fn:=(215,⟨[.ptr A3l,.val true (.pair (.int .i64) (.pair (.int .i64) (.pair (.int .i64) (.rs 5 (.int .u8))))) false],[.val false (.int .i64)],fun x=>f x.1 x.2.1⟩)
theorem C7R:EF cfg [] [] f215 (A5l B01):=fun _=>by kernel_rfl
theorem B7F:SQ (A5l A3d):=sF MO C7 B8 func215 C7R
def B5P(f:A9c):Nat×Fn:=(189,⟨[.ptr A3l,.val true (.pair (.int .i64) (.pair (.int .i64) (.pair (.int .i64) (.rs 5 (.int .u8))))) false],[.val false (.int .i64)],fun x=>f x.1 x.2.1⟩)
theorem D2E{W3:A4A}{A8R:B6K}{H7:R3}{S4:A1q}{P9:A1p}:EF cfg [B1f W3,C5L A8R,A3M H7,A5l S4,B0B P9] [] f189 (B5P (B5B W3 A8R H7 S4 P9)):=fun _=>by kernel_rfl
theorem D2F:SQ (B5P A9d):=sF MO C7 (tc call83 C27 (tc call108 D82 (tc call109 A6R (tc call215 B7F (tc call216 B7E B8))))) func189 D2E
def B3D(f:A7q):Nat×Fn:=(190,⟨[.ptr A3l,.val true (.pair (.int .i64) (.pair (.int .i64) (.pair (.int .i64) (.rs 5 (.int .u8))))) false],[.val false (.int .i64)],fun x=>f x.1 x.2.1⟩)
theorem D0V{W3:A4A}{T9:T7}{S4:A1q}:EF cfg [B1f W3,A3r T9,A5l S4] [] f190 (B3D (B2g W3 T9 S4)):=fun _=>by kernel_rfl
theorem D0W:SQ (B3D A7r):=sF MO C7 (tc call83 C27 (tc call86 B0l (tc call215 B7F B8))) func190 D0V
def B3E(f:A59):Nat×Fn:=(152,⟨[.ptr A3l,.val true (.pair (.int .i64) (.pair (.int .i64) (.pair (.int .i64) (.rs 5 (.int .u8))))) false],[.val false (.int .i64)],fun x=>f x.1 x.2.1⟩)
theorem D0a{A24:A6G}{A69:A9a}{A4H:A6j}{B6C:B5p}{A9q:A9c}{A8W:A7q}:EF cfg [B4E A24,B5O A69,B1o A4H,C2H B6C,B5P A9q,B3D A8W] [(122,⟨[.t 25 false [.bool]],[.t 26,.t 27],true⟩)] f152 (B3E (B2h A24 A69 A4H B6C A9q A8W)):=fun _=>by kernel_rfl
theorem D0b:SQ (B3E A3P):=sF MO C7 (tc call105 C6G (tc call186 D2D (tc call187 C96 (tc call188 D9d (tc call189 D2F (tc call190 D0W B8)))))) func152 D0a
def B1p(f:A6l):Nat×Fn:=(100,⟨[.ptr A3l,.val false (.rs 5 (.int .u8)) false],[.val false (.int .i64)],fun x=>f x.1 x.2.1⟩)
theorem C97{O1:A23}{C4:G2}{A3U:A59}:EF cfg [B1c O1,M4 C4,B3E A3U] [(14,⟨[.t 5 false [.int .i64],.b 1000 [.int .i64,.own 100000000,.int .i64,.bool,.own 100000001,.int .i64,.own 100000002,.int .i64,.own 100000003,.own 100000004,.int .i64,.int .i64,.own 100000005,.own 100000006],.r 100000000 5 (.int .u8),.r 100000001 5 (.int .u8),.r 100000002 150 C1,.r 100000003 150 C1,.r 100000004 113 H2,.r 100000005 75 A0q,.r 100000006 5 (.int .u8)],lt 28 7 (lt 6 14 [.b 6,.r 1001,.r 1004,.r 1006,.r 1008,.r 1009,.r 1012,.r 1013,.r 57347,.r 137217,.r 137220,.r 137222,.r 137224,.r 137225,.r 137228,.r 137229,.t 36]),false⟩)] f100 (B1p (B17 O1 C4 A3U)):=fun _=>by kernel_rfl
theorem C98:SQ (B1p B18):=sF MO C7 (tc call103 C24 (tc call144 P8 (tc call152 D0b B8))) func100 C97
def A3w(f:A1k):Nat×Fn:=(101,⟨[.val false (.rs 27 (.sl 5 (.int .u8))) false],[.val false (.sl 5 (.int .u8))],fun x=>f x.1⟩)
theorem B7b{A2O:A2K}:EF cfg [B0f A2O] [(7,⟨[.t 3 false [.int .i64]],lt 9 12 [.t 5,.t 22],true⟩),(58,⟨[.t 3 false [.int .i64],.t 11 false [.int .i64]],lt 12 9 [.t 5,.t 22],false⟩),(250,⟨[.t 6 false [.own 100002000],.t 27 false [.int .i64],.r 100002000 5 (.int .u8)],lt 28 7 [.r 33,.r 102400,.t 8],false⟩)] f101 (A3w (A3t A2O)):=fun _=>by kernel_rfl
theorem B7c:SQ (A3w A1l):=sF MO C7 (tc call153 C0D B8) func101 B7b
def B9J(f:B3p):Nat×Fn:=(154,⟨[.val false (.int .i64) false,.val false (.int .i64) false],[.val false (.sl 5 (.int .u8))],fun x=>f x.1 x.2.1⟩)
theorem D6M{A3h:B2f}:EF cfg [C2G A3h] [] f154 (B9J (B8p A3h)):=fun _=>by kernel_rfl
theorem D6N:SQ (B9J B8q):=sF MO C7 (tc call145 D5S B8) func154 D6M
def B7G(f:B19):Nat×Fn:=(102,⟨[.ptr A3l,.val false (.int .i64) false],[],fun x=>f x.1 x.2.1⟩)
theorem D5T{A3B:A7p}{B4Q:B3p}:EF cfg [B65 A3B,B9J B4Q] [] f102 (B7G (B6m A3B B4Q)):=fun _=>by kernel_rfl
theorem D5U:SQ (B7G B1A):=sF MO C7 (tc call69 C94 (tc call154 D6N B8)) func102 D5T
end
end Go.Proofs.YthnfghmjipikhaaGreatDoor.Ev
