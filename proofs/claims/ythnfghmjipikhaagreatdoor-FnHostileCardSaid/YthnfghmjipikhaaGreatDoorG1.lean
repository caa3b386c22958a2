/- Each function of the program does what its plain function says. -/
import Derived.Test.YthnfghmjipikhaaGreatDoorTy
import Derived.Test.YthnfghmjipikhaaGreatDoorPu
import Derived.Test.YthnfghmjipikhaaGreatDoorIns
import Derived.Test.YthnfghmjipikhaaGreatDoorGone
import Derived.Test.YthnfghmjipikhaaGreatDoorLibT
import Derived.Test.YthnfghmjipikhaaGreatDoorLibB
import Derived.Test.YthnfghmjipikhaaGreatDoorUnHuff
set_option linter.unusedVariables false
set_option maxRecDepth 100000
namespace Go.Proofs.YthnfghmjipikhaaGreatDoor.Ev
open Tryz
noncomputable section
abbrev D24:List PK:= [.val false .str false,.val false .str false]
abbrev D25:List RK:= [.val false (.sl 9 .str)]
def B5E(f:A3w):Nat×Fn:=(231,⟨D24,D25,fun x=>f x.1 x.2.1⟩)
def D26:Fn:=(B5E B55).2
theorem C32:A27 prog 231 D26:=E1c
abbrev D63:List PK:= [.val false .str false,.val false .str false]
abbrev D64:List RK:= [.val false .str,.val false .str,.val false .bool]
def C6D(f:A9A):Nat×Fn:=(232,⟨D63,D64,fun x=>f x.1 x.2.1⟩)
def D65:Fn:=(C6D C5u).2
theorem D66:A27 prog 232 D65:=E7G
abbrev D52:List PK:= [.val false .str false]
abbrev D53:List RK:= [.val false (.int .i64),.val false (.fnc 999999999)]
def C4P(f:A72):Nat×Fn:=(233,⟨D52,D53,fun x=>f x.1⟩)
def D54:Fn:=(C4P C3j).2
theorem D55:A27 prog 233 D54:=E3T
abbrev A8H:List PK:= [.val false (.sl 150 C1) false,.val false (.int .i64) false,.val false (.sl 150 C1) false]
abbrev A8I:List RK:= [.val false (.sl 150 C1)]
def A2M(f:Q1):Nat×Fn:=(194,⟨A8H,A8I,fun x=>f x.1 x.2.1 x.2.2.1⟩)
def A8J:Fn:=(A2M Q2).2
theorem A8K:A27 prog 194 A8J:=C7F C1 (by decide)
abbrev D56:List PK:= [.val false (.int .i64) false]
abbrev D57:List RK:= [.val false .str]
def C4Q(f:B0o):Nat×Fn:=(142,⟨D56,D57,fun x=>f x.1⟩)
def D58:Fn:=(C4Q B0p).2
theorem D59:A27 prog 142 D58:=E3S
abbrev B0f:List PK:= [.val false (.sl 113 H2) false,.val false (.int .i64) false,.val false (.int .i64) false]
abbrev B0g:List RK:= [.val false (.sl 113 H2)]
def A3q(f:T7):Nat×Fn:=(86,⟨B0f,B0g,fun x=>f x.1 x.2.1 x.2.2.1⟩)
def B0h:Fn:=(A3q T8).2
theorem B0i:A27 prog 86 B0h:=D0G H2 (by decide)
abbrev C09:List PK:= [.val false (.sl 5 (.int .u8)) false,.val false (.int .i64) false]
abbrev C0A:List RK:= [.val false (.sl 5 (.int .u8))]
def B0c(f:A2J):Nat×Fn:=(153,⟨C09,C0A,fun x=>f x.1 x.2.1⟩)
def C0B:Fn:=(B0c A54).2
theorem C0C:A27 prog 153 C0B:=D23
abbrev D0H:List PK:= [.ptr (.pair (.pair (.int .i64) (.pair (.sl 5 (.int .u8)) (.pair A1i (.pair (.pair (.int .i64) (.rs 150 C1)) (.pair T0 (.pair (.sl 113 H2) L2)))))) (.pair (.sl 75 A0q) (.sl 5 (.int .u8)))),.val false (.int .i64) false]
abbrev D0I:List RK:= []
def C0D(f:A7a):Nat×Fn:=(227,⟨D0H,D0I,fun x=>f x.1 x.2.1⟩)
def D0J:Fn:=(C0D A7b).2
theorem D0K:A27 prog 227 D0J:=E3R _ _ _ _ _ _ _ _ rfl rfl rfl rfl rfl rfl
abbrev D5A:List PK:= [.val false (.int .i64) false]
abbrev D5B:List RK:= [.val false .str]
def C4R(f:B0q):Nat×Fn:=(132,⟨D5A,D5B,fun x=>f x.1⟩)
def D5C:Fn:=(C4R B6d).2
theorem D5D:A27 prog 132 D5C:=fun x y h=>by cases h
def D9J(f:D2g):Nat×Fn:=(30,⟨[.val false (.rs 5 (.int .u8)) false],[.val false .bool],fun x=>f x.1⟩)
theorem F1h:EF cfg [] [] f30 (D9J D8f):=fun _=>by kernel_rfl
theorem F1i:SQ (D9J D2h):=sF MO C6 B7 func30 F1h
def W9(f:K1):Nat×Fn:=(61,⟨[.val false (.int .i64) false,.val false (.int .i64) false,.val false (.int .i64) false],[.val false .bool],fun x=>f x.1 x.2.1 x.2.2.1⟩)
theorem E1e:EF cfg [] [] f61 (W9 D1P):=fun _=>by kernel_rfl
theorem A0u:SQ (W9 U3):=sF MO C6 B7 func61 E1e
def C22(f:A73):Nat×Fn:=(179,⟨[.val true C1 false],[.val false (.int .i64)],fun x=>f x.1⟩)
theorem E3U:EF cfg [] [] f179 (C22 D3n):=fun _=>by kernel_rfl
theorem D5E:SQ (C22 B2S):=sF MO C6 B7 func179 E3U
def C7G(f:C0u):Nat×Fn:=(138,⟨[.val true (.pair (.int .i64) (.rs 150 C1)) false],[.val false (.int .i64)],fun x=>f x.1⟩)
theorem E3V{A1u:A73}:EF cfg [C22 A1u] [(58,⟨[.t 3 false [.int .i64],.t 9 false [.int .i64]],lt 10 8 [.b 5,.t 5],false⟩)] f138 (C7G (C6h A1u)):=fun _=>by kernel_rfl
theorem E3W:SQ (C7G C0v):=sF MO C6 (tc call179 D5E B7) func138 E3V
def B4s(f:A5O):Nat×Fn:=(63,⟨[.val true (.pair (.int .i64) (.rs 150 C1)) false],[.val false .bool],fun x=>f x.1⟩)
theorem E1f{D6:K1}{C2T:C0u}:EF cfg [W9 D6,C7G C2T] [] f63 (B4s (C3k D6 C2T)):=fun _=>by kernel_rfl
theorem C4S:SQ (B4s A74):=sF MO C6 (tc call61 A0u (tc call138 E3W B7)) func63 E1f
def M4(f:G2):Nat×Fn:=(144,⟨[.val false (.rs 5 (.int .u8)) false],[.val false (.sl 5 (.int .u8))],fun x=>f x.1⟩)
theorem B9B:EF cfg [] [] f144 (M4 A21):=fun _=>by kernel_rfl
theorem P8:SQ (M4 H4):=sF MO C6 B7 func144 B9B
def C23(f:B2T):Nat×Fn:=(155,⟨[.val false (.rs 5 (.int .u8)) false,.val false (.int .i64) false,.val false (.int .i64) false],[.val false (.int .i64),.val false .bool],fun x=>f x.1 x.2.1 x.2.2.1⟩)
theorem E3a{D6:K1}:EF cfg [W9 D6] [(3,⟨[],lt 11 15 [],false⟩),(15,⟨[.t 8 false [.int .i64]],lt 26 17 [.t 10],true⟩),(122,⟨[.t 8 false [.int .i64],.t 33 false [.int .i64]],lt 34 9 [.t 10],false⟩)] f155 (C23 (C6i D6)):=fun _=>by kernel_rfl
theorem D5F:SQ (C23 B2U):=sF MO C6 (tc call61 A0u B7) func155 E3a
def B1W(f:A22):Nat×Fn:=(103,⟨[.val false (.rs 5 (.int .u8)) false,.val false (.int .i64) false],[.val true A9s,.val false (.int .i64),.val false (.int .i64)],fun x=>f x.1 x.2.1⟩)
theorem D9K{C4:G2}{A4i:B2T}:EF cfg [M4 C4,C23 A4i] [(3,⟨[],lt 13 9 [],false⟩)] f103 (B1W (C0w C4 A4i)):=fun _=>by kernel_rfl
theorem C24:SQ (B1W A2q):=sF MO C6 (tc call144 P8 (tc call155 D5F B7)) func103 D9K
def B5w(f:A7c):Nat×Fn:=(104,⟨[.val true (.pair (.int .i64) (.pair .bool (.rs 5 (.int .u8)))) false],[.val false .bool],fun x=>f x.1⟩)
theorem D9L{D6:K1}:EF cfg [W9 D6] [] f104 (B5w (C10 D6)):=fun _=>by kernel_rfl
theorem C90:SQ (B5w A7d):=sF MO C6 (tc call61 A0u B7) func104 D9L
def C7H(f:C11):Nat×Fn:=(116,⟨[.val true (.pair (.int .i64) (.pair (.rs 5 (.int .u8)) (.pair (.pair (.int .i64) (.pair .bool (.rs 5 (.int .u8)))) (.pair (.pair (.int .i64) (.rs 150 C1)) (.pair (.pair (.int .i64) (.rs 150 C1)) (.pair (.rs 113 H2) L2)))))) false],[.val false .bool],fun x=>f x.1⟩)
theorem E3b{D6:K1}:EF cfg [W9 D6] [(3,⟨[],lt 3 53 [.b 4],false⟩),(26,⟨[.t 8 false [.int .i64]],lt 9 47 [.b 4,.t 3,.t 4],false⟩),(1689,⟨[],lt 13 28 [],false⟩)] f116 (C7H (C6j D6)):=fun _=>by kernel_rfl
theorem E3c:SQ (C7H C12):=sF MO C6 (tc call61 A0u B7) func116 E3b
def C25(f:B2V):Nat×Fn:=(43,⟨[.val true (.pair (.int .i64) (.pair (.rs 5 (.int .u8)) (.pair (.pair (.int .i64) (.pair .bool (.rs 5 (.int .u8)))) (.pair (.pair (.int .i64) (.rs 150 C1)) (.pair (.pair (.int .i64) (.rs 150 C1)) (.pair (.rs 113 H2) L2)))))) false],[.val false .bool],fun x=>f x.1⟩)
theorem E3d{D6:K1}{A01:A5O}{O1:A22}{A38:A7c}{C2U:C11}:EF cfg [W9 D6,B4s A01,B1W O1,B5w A38,C7H C2U] [(3,⟨[],lt 6 27 [],false⟩),(7,⟨[],lt 33 16 [],false⟩),(15,⟨[],lt 49 31 [],false⟩)] f43 (C25 (C13 D6 A01 O1 A38 C2U)):=fun _=>by kernel_rfl
theorem D5G:SQ (C25 A4S):=sF MO C6 (tc call61 A0u (tc call63 C4S (tc call103 C24 (tc call104 C90 (tc call116 E3c B7))))) func43 E3d
def R0(f:K0):Nat×Fn:=(139,⟨[.val false (.rs 150 C1) false],[.val false (.sl 150 C1)],fun x=>f x.1⟩)
theorem A90:EF cfg [] [] f139 (R0 A0I):=fun _=>by kernel_rfl
theorem A2n:SQ (R0 L0):=sF MO C6 B7 func139 A90
def A9M(f:A3I):Nat×Fn:=(64,⟨[.val true (.pair (.int .i64) (.rs 150 C1)) false],[.val true T0],fun x=>f x.1⟩)
theorem D67{G4:K0}:EF cfg [R0 G4] [] f64 (A9M (B8h G4)):=fun _=>by kernel_rfl
theorem B9C:SQ (A9M A6D):=sF MO C6 (tc call139 A2n B7) func64 D67
def B1a(f:A55):Nat×Fn:=(107,⟨[.val true (.pair (.int .i64) (.pair .bool (.rs 5 (.int .u8)))) false],[.val true A1i],fun x=>f x.1⟩)
theorem D5H{C4:G2}:EF cfg [M4 C4] [] f107 (B1a (B6e C4)):=fun _=>by kernel_rfl
theorem C4T:SQ (B1a A75):=sF MO C6 (tc call144 P8 B7) func107 D5H
def C26(f:B5e):Nat×Fn:=(82,⟨[.val true (.pair (.int .i64) (.pair (.rs 5 (.int .u8)) (.pair (.pair (.int .i64) (.pair .bool (.rs 5 (.int .u8)))) (.pair (.pair (.int .i64) (.rs 150 C1)) (.pair (.pair (.int .i64) (.rs 150 C1)) (.pair (.rs 113 H2) L2)))))) false],[.val true D3m],fun x=>f x.1⟩)
theorem D9M{N5:A3I}{T1:A55}{C4:G2}:EF cfg [A9M N5,B1a T1,M4 C4] [(1018,⟨[.t 27 false [.int .i64],.b 3 [.int .i64,.own 40960,.int .i64,.bool,.own 57346,.int .i64,.own 73729,.int .i64,.own 86017,.own 100000000,.int .i64,.int .i64],.r 40960 5 (.int .u8),.r 57346 5 (.int .u8),.r 73729 150 C1,.r 86017 150 C1,.r 100000000 113 H2],lt 28 14 [.b 5,.r 38,.r 39,.r 139264,.t 5],false⟩)] f82 (C26 (C14 N5 T1 C4)):=fun _=>by kernel_rfl
theorem D9N:SQ (C26 B5f):=sF MO C6 (tc call64 B9C (tc call107 C4T (tc call144 P8 B7))) func82 D9M
def C4U(f:B7n):Nat×Fn:=(156,⟨[.val true (.pair (.int .i64) (.pair (.int .i64) (.pair (.int .i64) (.rs 5 (.int .u8))))) false],[.val false .bool],fun x=>f x.1⟩)
theorem E1g{D6:K1}:EF cfg [W9 D6] [] f156 (C4U (A76 D6)):=fun _=>by kernel_rfl
theorem E1h:SQ (C4U A1W):=sF MO C6 (tc call61 A0u B7) func156 E1g
def A3L(f:R3):Nat×Fn:=(109,⟨[.val true (.pair (.int .i64) (.pair (.int .i64) (.pair (.int .i64) (.rs 5 (.int .u8))))) false,.val false (.int .i64) false],[.val false .bool],fun x=>f x.1 x.2.1⟩)
theorem D68:EF cfg [] [] f109 (A3L C5v):=fun _=>by kernel_rfl
theorem A6O:SQ (A3L A3J):=sF MO C6 B7 func109 D68
def C7I(f:C15):Nat×Fn:=(157,⟨[.val true (.pair (.int .i64) (.pair (.int .i64) (.pair (.int .i64) (.rs 5 (.int .u8))))) false],[.val false .bool],fun x=>f x.1⟩)
theorem E3e{H7:R3}:EF cfg [A3L H7] [(235,⟨[.t 13 false [.bool]],[.t 14,.t 15],true⟩)] f157 (C7I (A9t H7)):=fun _=>by kernel_rfl
theorem E3f:SQ (C7I A2V):=sF MO C6 (tc call109 A6O B7) func157 E3e
def B4B(f:A6E):Nat×Fn:=(105,⟨[.val true (.pair (.int .i64) (.pair (.int .i64) (.pair (.int .i64) (.rs 5 (.int .u8))))) false],[.val false (.int .i64)],fun x=>f x.1⟩)
theorem D69{B8M:B7n}{C2V:C15}:EF cfg [C4U B8M,C7I C2V] [(3,⟨[],lt 3 8 [],false⟩),(58,⟨[.t 13 false [.bool]],lt 14 6 [],true⟩)] f105 (B4B (A4T B8M C2V)):=fun _=>by kernel_rfl
theorem C6E:SQ (B4B U0):=sF MO C6 (tc call156 E1h (tc call157 E3f B7)) func105 D69
def B9D(f:B3d):Nat×Fn:=(106,⟨[.val true (.pair (.int .i64) (.pair .bool (.rs 5 (.int .u8)))) false,.val true (.pair (.int .i64) (.pair (.int .i64) (.pair (.int .i64) (.rs 5 (.int .u8))))) false],[.val false .bool],fun x=>f x.1 x.2.1⟩)
theorem D6A:EF cfg [] [] f106 (B9D B8i):=fun _=>by kernel_rfl
theorem D6B:SQ (B9D B3e):=sF MO C6 B7 func106 D6A
def C5K(f:B6I):Nat×Fn:=(108,⟨[.val true (.pair (.int .i64) (.pair (.int .i64) (.pair (.int .i64) (.rs 5 (.int .u8))))) false],[.val false (.sl 5 (.int .u8)),.val false .bool],fun x=>f x.1⟩)
theorem E7I{H7:R3}{C4:G2}:EF cfg [A3L H7,M4 C4] [(7,⟨[.t 4 false [.ro 5 (.int .u8)],.t 5 false [.int .i64]],lt 9 11 [],false⟩),(31,⟨[.t 6 false [.int .i64]],lt 20 7 [],true⟩)] f108 (C5K (C9o H7 C4)):=fun _=>by kernel_rfl
theorem D81:SQ (C5K B9k):=sF MO C6 (tc call109 A6O (tc call144 P8 B7)) func108 E7I
def D5I(f:C8E):Nat×Fn:=(38,⟨[.val true (.pair (.int .i64) (.pair .bool (.rs 5 (.int .u8)))) false,.val true (.pair (.int .i64) (.pair (.int .i64) (.pair (.int .i64) (.rs 5 (.int .u8))))) false],[.val true A1i,.val false (.sl 5 (.int .u8)),.val false (.int .i64)],fun x=>f x.1 x.2.1⟩)
theorem F0A{A38:A7c}{A23:A6E}{B4I:B3d}{T1:A55}{A8P:B6I}{H7:R3}:EF cfg [B5w A38,B4B A23,B9D B4I,B1a T1,C5K A8P,A3L H7] [(3,⟨[],lt 10 14 [],false⟩),(6,⟨[.t 23 false [.bool]],lt 10 13 [],true⟩),(15,⟨[.b 7 [.int .i64,.bool,.own 100002000],.r 100002000 5 (.int .u8)],lt 42 14 (lt 31 9 [.r 54,.r 114690,.r 147456,.t 8,.t 9,.t 28,.t 29]),false⟩)] f38 (D5I (D3o A38 A23 B4I T1 A8P H7)):=fun _=>by kernel_rfl
theorem F0B:SQ (D5I C8F):=sF MO C6 (tc call104 C90 (tc call105 C6E (tc call106 D6B (tc call107 C4T (tc call108 D81 (tc call109 A6O B7)))))) func38 F0A
def B5F(f:A9S):Nat×Fn:=(209,⟨[],[.val false (.sl 150 C1)],fun x=>f⟩)
theorem D27{A0d:A3w}{A6Q:A9A}:EF cfg [B5E A0d,C6D A6Q] [(58,⟨[.t 1 false [.own 100000000],.t 9 false [.int .i64],.r 100000000 150 C1],lt 10 16 (lt 3 4 [.r 23,.r 24,.x 11]),false⟩)] f209 (B5F (C2u A0d A6Q)):=fun _=>by kernel_rfl
theorem D28:SQ (B5F A9T):=sF MO C6 (tc call231 C32 (tc call232 D66 B7)) func209 D27
def B78(f:B0t):Nat×Fn:=(217,⟨[.val false (.int .i64) false],[.val true C1,.val false .bool],fun x=>f x.1⟩)
theorem D5J{D6:K1}{A9n:A9S}:EF cfg [W9 D6,B5F A9n] [] f217 (B78 (B6f D6 A9n)):=fun _=>by kernel_rfl
theorem D5K:SQ (B78 B6g):=sF MO C6 (tc call61 A0u (tc call209 D28 B7)) func217 D5J
def C4V(f:B7o):Nat×Fn:=(191,⟨[.val true (.pair (.int .i64) (.rs 150 C1)) false,.val false (.int .i64) false],[.val true C1,.val false .bool],fun x=>f x.1 x.2.1⟩)
theorem E1i{B1t:B0t}:EF cfg [B78 B1t] [] f191 (C4V (C3l B1t)):=fun _=>by kernel_rfl
theorem E1j:SQ (C4V B7p):=sF MO C6 (tc call217 D5K B7) func191 E1i
def B4C(f:A6F):Nat×Fn:=(192,⟨[.val false (.rs 5 (.int .u8)) false,.val false (.int .i64) false,.val false (.int .i64) false],[.val false (.int .i64),.val false (.int .i64),.val false .bool],fun x=>f x.1 x.2.1 x.2.2.1⟩)
theorem D6C{D6:K1}:EF cfg [W9 D6] [(3,⟨[],lt 13 11 [],false⟩),(127,⟨[],lt 42 27 (lt 10 3 [.t 1]),false⟩),(1018,⟨[.t 1 false [.int .i64],.t 10 false [.int .i64],.t 11 false [.int .i64]],lt 42 27 [.t 12],false⟩),(2036,⟨[],lt 42 8 [],false⟩)] f192 (B4C (B8j D6)):=fun _=>by kernel_rfl
theorem C6F:SQ (B4C A9B):=sF MO C6 (tc call61 A0u B7) func192 D6C
def C4W(f:B7q):Nat×Fn:=(210,⟨[],[.val false (.pa 257 L2)],fun x=>f⟩)
theorem E1k{A0d:A3w}{A5K:A72}:EF (cfg.withAr [(247,257,246)]) [B5E A0d,C4P A5K] [(7,⟨[.r 1 247 L2],lt 7 16 [.r 32768,.t 2,.t 3,.x 12,.x 20],true⟩),(58,⟨[.t 9 false [.int .i64],.r 1 247 L2],lt 10 13 [.t 2,.t 3,.x 12,.x 20],false⟩),(250,⟨[.t 4 false [.int .i64],.t 5 false [.int .i64],.r 1 247 L2],lt 23 22 [.t 6,.x 33,.x 40],false⟩),(32038,⟨[.t 4 false [.int .i64],.t 29 false [.int .i64],.r 1 247 L2],lt 30 15 [.t 6,.x 33,.x 40],false⟩)] f210 (C4W (D1Q A0d A5K)):=fun _=>by kernel_rfl
theorem E1l:SQ (C4W B7r):=sF MO (B6H (l:= [(247,257,246)]) C6 ⟨tA t247 ⟨true,L2,16,[(0,1,false),(1,1,false)]⟩ underlying247,trivial⟩) (tc call231 C32 (tc call233 D55 B7)) func210 E1k
def D5L(f:C8G):Nat×Fn:=(212,⟨[.val false (.pa 257 L2) false,.val false (.sl 5 (.int .u8)) false,.val false .str false],[.val false (.sl 5 (.int .u8))],fun x=>f x.1 x.2.1 x.2.2.1⟩)
theorem F0C:EF (cfg.withAr [(247,257,246)]) [] [(7,⟨[.t 1 false [.own 100000001],.t 7 false [.int .i64],.t 8 false [.int .i64],.r 100000001 5 (.int .u8)],lt 12 43 [.b 10,.r 47,.r 48,.r 1100,.r 100001000,.t 9,.t 10],true⟩),(58,⟨[.t 1 false [.own 100000001],.t 7 false [.int .i64],.t 8 false [.int .i64],.t 9 false [.int .i64],.r 100000001 5 (.int .u8)],lt 12 43 [.b 10,.r 47,.r 48,.r 1100,.r 100001000,.t 10],false⟩),(14926,⟨[.t 1 false [.own 100001000],.t 7 false [.int .i64],.t 8 false [.int .i64],.r 100001000 5 (.int .u8)],lt 37 18 [.r 47,.r 48,.r 1100,.r 100000001],false⟩)] f212 (D5L D3q):=fun _=>by kernel_rfl
theorem F0D:SQ (D5L C8H):=sF MO (B6H (l:= [(247,257,246)]) C6 ⟨tA t247 ⟨true,L2,16,[(0,1,false),(1,1,false)]⟩ underlying247,trivial⟩) B7 func212 F0C
def E3g:Nat->Option Jn:=B5T [(63,⟨[.t 8 false [.own 100000001],.r 100000001 5 (.int .u8)],lt 71 8 (lt 28 41 (lt 11 4 [.b 9,.r 75,.r 76,.r 100001000])),false⟩),(506,⟨[.t 8 false [.own 100000001],.t 30 false [.int .i64],.b 9 [.int .i64,.int .i64],.r 100000001 5 (.int .u8)],lt 71 8 (lt 31 38 (lt 11 4 [.r 75,.r 76,.r 100001000])),false⟩),(129638,⟨[.t 8 false [.own 100001000],.t 12 false [.int .i64],.b 9 [.int .i64,.int .i64],.r 100001000 5 (.int .u8)],lt 71 7 (lt 34 35 [.r 75,.r 76,.r 100000001,.t 13,.t 14]),false⟩),(16593703,⟨[],lt 59 10 [],false⟩)]
abbrev E3h:List PK:= [.val false (.pa 257 L2) false,.val false (.rs 5 (.int .u8)) false]
abbrev E3i:List RK:= [.val false .str]
def D5M(f:C17):Nat×Fn:=(265,⟨E3h,E3i,fun x=>f x.1 x.2.1⟩)
def E3j:Fn:=(D5M C18).2
theorem E3k:∀ x,F2p E3g x=C6k x.1 x.2.1:=by intro x;kernel_rfl
theorem E3l:A27 prog 265 E3j:=F09 E3k
def B9E(f:B3f):Nat×Fn:=(266,⟨[.val false (.rs 5 (.int .u8)) false,.val false (.rs 5 (.int .u8)) false],[.val false .bool],fun x=>f x.1 x.2.1⟩)
theorem D6D:EF cfg [] [] f266 (B9E B8k):=fun _=>by kernel_rfl
theorem D6E:SQ (B9E B8l):=sF MO C6 B7 func266 D6D
def C7J(f:C19):Nat×Fn:=(242,⟨[.val false (.rs 5 (.int .u8)) false],[.val false .str,.val false .bool],fun x=>f x.1⟩)
theorem E3m{B8O:B7q}{C9L:C8G}{C2W:C17}{B4J:B3f}:EF cfg [C4W B8O,D5L C9L,D5M C2W,B9E B4J] [] f242 (C7J (C6l B8O C9L C2W B4J)):=fun _=>by kernel_rfl
theorem E3n:SQ (C7J C1A):=sF MO C6 (tc call210 E1l (tc call212 F0D (tc call265 E3l (tc call266 D6E B7)))) func242 E3m
def B9F(f:B3g):Nat×Fn:=(218,⟨[.val false (.rs 5 (.int .u8)) false,.val false (.int .i64) false],[.val false .str,.val false (.int .i64),.val false .bool],fun x=>f x.1 x.2.1⟩)
theorem D6F{A24:A6F}{C2a:C19}:EF cfg [B4C A24,C7J C2a] [(7,⟨[],lt 19 14 [],false⟩)] f218 (B9F (B8m A24 C2a)):=fun _=>by kernel_rfl
theorem D6G:SQ (B9F B3h):=sF MO C6 (tc call192 C6F (tc call242 E3n B7)) func218 D6F
def B1b(f:A56):Nat×Fn:=(195,⟨[.ptr T0],[],fun x=>f x.1⟩)
theorem D5N{G4:K0}{A1u:A73}:EF cfg [R0 G4,C22 A1u] [(14,⟨[.t 2 false [.int .i64],.t 14 false [.int .i64]],lt 15 10 [.b 4,.t 3,.t 4,.t 35,.x 17],false⟩)] f195 (B1b (B6h G4 A1u)):=fun _=>by kernel_rfl
theorem C4a:SQ (B1b A28):=sF MO C6 (tc call139 A2n (tc call179 D5E B7)) func195 D5N
def B9G(f:B3i):Nat×Fn:=(161,⟨[.ptr T0,.val true C1 false],[],fun x=>f x.1 x.2.1⟩)
theorem D6H{Q3:Q1}{A1I:A56}:EF cfg [A2M Q3,B1b A1I] [] f161 (B9G (B3j Q3 A1I)):=fun _=>by kernel_rfl
theorem D6I:SQ (B9G A3K):=sF MO C6 (tc call194 A8K (tc call195 C4a B7)) func161 D6H
def C7K(f:C1B):Nat×Fn:=(196,⟨[.val true (.pair (.int .i64) (.rs 150 C1)) false,.val false (.int .i64) false],[.val true T0],fun x=>f x.1 x.2.1⟩)
theorem E3o{D6:K1}{A01:A5O}{N5:A3I}{A1I:A56}:EF cfg [W9 D6,B4s A01,A9M N5,B1b A1I] [(7,⟨[],lt 8 8 [],false⟩)] f196 (C7K (C6m D6 A01 N5 A1I)):=fun _=>by kernel_rfl
theorem E3p:SQ (C7K C1C):=sF MO C6 (tc call61 A0u (tc call63 C4S (tc call64 B9C (tc call195 C4a B7)))) func196 E3o
def O7(f:L5):Nat×Fn:=(163,⟨[.ptr (.pair (.rs 5 (.int .u8)) (.pair (.int .i64) (.pair (.int .i64) (.pair T0 (.sl 150 C1))))),.val false (.int .i64) false],[],fun x=>f x.1 x.2.1⟩)
theorem B7R:EF cfg [] [] f163 (O7 W7):=fun _=>by kernel_rfl
theorem A0H:SQ (O7 L6):=sF MO C6 B7 func163 B7R
def V6(f:P0):Nat×Fn:=(159,⟨[.ptr (.pair (.rs 5 (.int .u8)) (.pair (.int .i64) (.pair (.int .i64) (.pair T0 (.sl 150 C1))))),.val false (.int .i64) false],[.val false (.int .i64)],fun x=>f x.1 x.2.1⟩)
theorem B60{F2:L5}{A24:A6F}:EF cfg [O7 F2,B4C A24] [] f159 (V6 (A5a F2 A24)):=fun _=>by kernel_rfl
theorem A36:SQ (V6 A09):=sF MO C6 (tc call163 A0H (tc call192 C6F B7)) func159 B60
def A1F(f:A0P):Nat×Fn:=(158,⟨[.ptr (.pair (.rs 5 (.int .u8)) (.pair (.int .i64) (.pair (.int .i64) (.pair T0 (.sl 150 C1))))),.val false (.int .i64) false],[.val true C1],fun x=>f x.1 x.2.1⟩)
theorem B79{F2:L5}{B8N:B7o}:EF cfg [O7 F2,C4V B8N] [] f158 (A1F (A6V F2 B8N)):=fun _=>by kernel_rfl
theorem A7I:SQ (A1F U7):=sF MO C6 (tc call163 A0H (tc call191 E1j B7)) func158 B79
def A3t(f:A48):Nat×Fn:=(193,⟨[.ptr (.pair (.rs 5 (.int .u8)) (.pair (.int .i64) (.pair (.int .i64) (.pair T0 (.sl 150 C1)))))],[.val false .str],fun x=>f x.1⟩)
theorem B7S{F2:L5}{B4K:B3g}:EF cfg [O7 F2,B9F B4K] [] f193 (A3t (A49 F2 B4K)):=fun _=>by kernel_rfl
theorem B7T:SQ (A3t A0r):=sF MO C6 (tc call163 A0H (tc call218 D6G B7)) func193 B7S
def A2g(f:A0a):Nat×Fn:=(160,⟨[.ptr (.pair (.rs 5 (.int .u8)) (.pair (.int .i64) (.pair (.int .i64) (.pair T0 (.sl 150 C1))))),.val false (.int .i64) false],[.val true C1],fun x=>f x.1 x.2.1⟩)
theorem B5G{O2:A0P}{J2:P0}{A2D:A48}:EF cfg [A1F O2,V6 J2,A3t A2D] [(15,⟨[.b 6 [.str,.str],.b 1000 [.ro 5 (.int .u8),.int .i64,.int .i64,.int .i64,.own 100000000,.own 100000001],.r 100000000 150 C1,.r 100000001 150 C1],lt 22 6 (lt 10 11 [.r 43012,.r 43013,.r 55300,.r 55301,.r 112644,.r 112645]),false⟩)] f160 (A2g (A2W O2 J2 A2D)):=fun _=>by kernel_rfl
theorem B5H:SQ (A2g A0b):=sF MO C6 (tc call158 A7I (tc call159 A36 (tc call193 B7T B7))) func160 B5G
def A37(f:A12):Nat×Fn:=(162,⟨[.ptr (.pair (.rs 5 (.int .u8)) (.pair (.int .i64) (.pair (.int .i64) (.pair T0 (.sl 150 C1))))),.val false (.int .i64) false],[],fun x=>f x.1 x.2.1⟩)
theorem B61{J2:P0}{F2:L5}{C2b:C1B}:EF cfg [V6 J2,O7 F2,C7K C2b] [(3,⟨[.b 1000 [.ro 5 (.int .u8),.int .i64,.int .i64,.int .i64,.own 100000000,.own 100000001],.r 100000000 150 C1,.r 100000001 150 C1],lt 7 13 [.r 30724,.r 30725,.r 83972,.r 83973],true⟩)] f162 (A37 (A2r J2 F2 C2b)):=fun _=>by kernel_rfl
theorem B62:SQ (A37 A2s):=sF MO C6 (tc call159 A36 (tc call163 A0H (tc call196 E3p B7))) func162 B61
def A3u(f:A0G):Nat×Fn:=(110,⟨[.ptr (.pair (.rs 5 (.int .u8)) (.pair (.int .i64) (.pair (.int .i64) (.pair T0 (.sl 150 C1))))),.val false (.int .i64) false],[],fun x=>f x.1 x.2.1⟩)
theorem B7U{O2:A0P}{J2:P0}{T2:A0a}{B4L:B3i}{A15:A12}{F2:L5}:EF cfg [A1F O2,V6 J2,A2g T2,B9G B4L,A37 A15,O7 F2] [(7,⟨[.b 5 [.str,.str],.b 1000 [.ro 5 (.int .u8),.int .i64,.int .i64,.int .i64,.own 100000000,.own 100000001],.r 100000000 150 C1,.r 100000001 150 C1],lt 16 27 [.r 1004,.r 1005,.r 75780,.r 75781,.r 100356,.r 100357,.r 104452,.r 104453,.r 124932,.r 124933,.r 165889],false⟩)] f110 (A3u (A3r O2 J2 T2 B4L A15 F2)):=fun _=>by kernel_rfl
theorem B7V:SQ (A3u R9):=sF MO C6 (tc call158 A7I (tc call159 A36 (tc call160 B5H (tc call161 D6I (tc call162 B62 (tc call163 A0H B7)))))) func110 B7U
def B9H(f:B3k):Nat×Fn:=(39,⟨[.val true (.pair (.int .i64) (.rs 150 C1)) false,.val false (.int .i64) false,.val false (.rs 5 (.int .u8)) false],[.val false (.sl 150 C1),.val true T0,.val false (.int .i64)],fun x=>f x.1 x.2.1 x.2.2.1⟩)
theorem D6J{D6:K1}{A01:A5O}{N5:A3I}{S0:A0G}:EF cfg [W9 D6,B4s A01,A9M N5,A3u S0] [(3,⟨[],lt 10 8 [],false⟩),(6,⟨[.t 17 false [.bool]],lt 10 7 [],true⟩),(15,⟨[.b 9 [.ro 5 (.int .u8),.int .i64,.int .i64,.int .i64,.own 100002000,.own 100002001],.r 100002000 150 C1,.r 100002001 150 C1],lt 24 12 [.r 94209,.r 149508,.r 149509],true⟩),(60,⟨[.b 9 [.ro 5 (.int .u8),.int .i64,.int .i64,.int .i64,.own 100002000,.own 100002001],.r 100002000 150 C1,.r 100002001 150 C1],lt 24 12 [.r 94209,.r 149508,.r 149509],false⟩)] f39 (B9H (B8n D6 A01 N5 S0)):=fun _=>by kernel_rfl
theorem D6K:SQ (B9H B3l):=sF MO C6 (tc call61 A0u (tc call63 C4S (tc call64 B9C (tc call110 B7V B7)))) func39 D6J
def B1c(f:A4A):Nat×Fn:=(83,⟨[.ptr D3m,.val false (.int .i64) false],[.val false (.int .i64),.val false .bool],fun x=>f x.1 x.2.1⟩)
theorem D9O:EF cfg [] [(7,⟨[.t 6 false [.int .i64]],lt 7 21 [.x 20],true⟩),(28,⟨[.t 6 false [.int .i64]],lt 7 21 [.x 20],false⟩)] f83 (B1c C1D):=fun _=>by kernel_rfl
theorem C27:SQ (B1c A4B):=sF MO C6 B7 func83 D9O
def C28(f:B5h):Nat×Fn:=(261,⟨[.val false (.int .i64) false],[.val false (.int .i64),.val false (.int .i64)],fun x=>f x.1⟩)
theorem D9P:EF cfg [] [(26,⟨[.t 5 false [.bool]],[.t 6,.t 7],true⟩)] f261 (C28 C1E):=fun _=>by kernel_rfl
theorem D9Q:SQ (C28 B5i):=sF MO C6 B7 func261 D9P
def C29(f:B5j):Nat×Fn:=(262,⟨[.val false (.int .i64) false],[.val false (.int .i64),.val false (.int .i64)],fun x=>f x.1⟩)
theorem D9R:EF cfg [] [(26,⟨[.t 5 false [.bool]],[.t 6,.t 7],true⟩),(107,⟨[.t 8 false [.bool]],[.t 9,.t 10],true⟩),(431,⟨[.t 11 false [.bool]],[.t 12,.t 13],true⟩)] f262 (C29 C1F):=fun _=>by kernel_rfl
theorem D9S:SQ (C29 B5k):=sF MO C6 B7 func262 D9R
def B1d(f:A6e):Nat×Fn:=(263,⟨[.val false (.int .i64) false],[.val false (.int .i64),.val false (.int .i64)],fun x=>f x.1⟩)
theorem C91:EF cfg [] [(26,⟨[.t 5 false [.bool]],lt 6 4 [],true⟩)] f263 (B1d B0w):=fun _=>by kernel_rfl
theorem C92:SQ (B1d A6f):=sF MO C6 B7 func263 C91
def B37(f:A7f):Nat×Fn:=(264,⟨[.val false (.int .i64) false],[.val false (.int .i64),.val false (.int .i64)],fun x=>f x.1⟩)
theorem D0L:EF cfg [] [(26,⟨[.t 5 false [.bool]],lt 6 4 [],true⟩)] f264 (B37 B2W):=fun _=>by kernel_rfl
theorem D0M:SQ (B37 A7g):=sF MO C6 B7 func264 D0L
def B1e(f:A57):Nat×Fn:=(240,⟨[.val false (.int .i64) false,.val false (.int .i64) false],[.val false (.int .i64),.val false (.int .i64)],fun x=>f x.1 x.2.1⟩)
theorem D5O{D6:K1}{B67:B5h}{B68:B5j}{A6t:A6e}{A8Q:A7f}:EF cfg [W9 D6,C28 B67,C29 B68,B1d A6t,B37 A8Q] [] f240 (B1e (B10 D6 B67 B68 A6t A8Q)):=fun _=>by kernel_rfl
theorem C4b:SQ (B1e A0R):=sF MO C6 (tc call61 A0u (tc call261 D9Q (tc call262 D9S (tc call263 C92 (tc call264 D0M B7))))) func240 D5O
def B38(f:A7h):Nat×Fn:=(241,⟨[.ptr A3k,.val true (.pair (.int .i64) (.pair (.int .i64) (.pair D3l (.rs 5 (.int .u8))))) false],[],fun x=>f x.1 x.2.1⟩)
theorem D0N{C4:G2}:EF cfg [M4 C4] [] f241 (B38 (B2a C4)):=fun _=>by kernel_rfl
theorem D0O:SQ (B38 A7i):=sF MO C6 (tc call144 P8 B7) func241 D0N
abbrev C2A:List PK:= [.ptr A3k,.val true (.pair (.int .i64) (.pair (.int .i64) D3l)) false,.val false (.int .i64) false]
abbrev B1f:List RK:= []
def B1g(f:A2t):Nat×Fn:=(241,⟨C2A,B1f,fun x=>f x.1 x.2.1 x.2.2.1⟩)
def C2B:Fn:=(B1g A18).2
theorem C2C(C4:G2):∀ x,F1s cfg [M4 C4] (B5T []) 24 [] (f241.body.getD .skip) A3k (.pair (.int .i64) (.pair (.int .i64) D3l)) (kr:=H2) 9 5 (fun x0=>x0.1.2.2.2.2.2.1) B1f x=A5b C4 x.1 x.2.1 x.2.2.1:=by intro x;kernel_rfl
theorem C2D:C6f prog ⟨241,C2B,9,6,5⟩:=F34 MO C6 (tc call144 P8 B7) func241 (by kernel_rfl) (lq:=9) (off:=5) (by decide) (by decide) (fun x0=>rfl) (fun x0=>rfl) (fun x1=>rfl) (C2C H4)
abbrev B7A:List PK:= [.ptr A3k,.val false (.int .i64) false,.val false (.int .i64) false]
abbrev B7B:List RK:= [.val false (.int .i64)]
def B09(f:A1o):Nat×Fn:=(216,⟨B7A,B7B,fun x=>f x.1 x.2.1 x.2.2.1⟩)
def C7L:Fn:=(B09 A3b).2
theorem C7M(A1J:A57)(A39:A2t):∀ x,(E97 cfg [B1e A1J] ⟨241,(B1g A39).2,9,6,5⟩ (B5T []) 40 [.tmp 6] (f216.body.getD .skip) B7A B7B).fn x=A9u A1J A39 x.1 x.2.1 x.2.2.1:=by intro x;kernel_rfl
theorem B7C:A27 prog 216 C7L:=smA MO C6 (tc call240 C4b B7) C2D call241 func216 (by kernel_rfl) (by decide) (C7M A0R A18)
def C7N(f:C1G):Nat×Fn:=(238,⟨[.val false .bool false],[.val false (.int .i64)],fun x=>f x.1⟩)
theorem E3q:EF cfg [] [] f238 (C7N D3r):=fun _=>by kernel_rfl
theorem E3r:SQ (C7N C1H):=sF MO C6 B7 func238 E3q
def B5I(f:A9U):Nat×Fn:=(136,⟨[.val false (.int .i64) false],[.val false .str,.val false (.int .i64)],fun x=>f x.1⟩)
theorem D29:EF cfg [] [] f136 (B5I B56):=fun _=>by kernel_rfl
theorem D2A:SQ (B5I A9V):=sF MO C6 B7 func136 D29
def D5P(f:C8I):Nat×Fn:=(137,⟨[.val false .str false],[.val false .bool],fun x=>f x.1⟩)
theorem F0E{D6:K1}:EF cfg [W9 D6] [(3,⟨[],lt 3 30 [],false⟩),(26,⟨[.t 3 false [.int .i64]],lt 4 29 [],false⟩)] f137 (D5P (D3s D6)):=fun _=>by kernel_rfl
theorem F0F:SQ (D5P C8J):=sF MO C6 (tc call61 A0u B7) func137 F0E
def C2E(f:B5l):Nat×Fn:=(164,⟨[.val false .str false,.val false (.int .i64) false],[.val false (.int .i64),.val false .bool],fun x=>f x.1 x.2.1⟩)
theorem D9T{D6:K1}{B1u:B0o}:EF cfg [W9 D6,C4Q B1u] [(15,⟨[.t 6 false [.int .i64]],lt 12 24 [.t 7],false⟩),(122,⟨[.t 6 false [.int .i64],.t 7 false [.int .i64]],lt 12 24 [],false⟩),(1956,⟨[],lt 18 10 [],false⟩)] f164 (C2E (C1J D6 B1u)):=fun _=>by kernel_rfl
theorem D9U:SQ (C2E B5m):=sF MO C6 (tc call61 A0u (tc call142 D59 B7)) func164 D9T
def B8D(f:A5P):Nat×Fn:=(258,⟨[.val false (.rs 150 C1) false,.val false .str false],[.val false .str,.val false (.int .i64)],fun x=>f x.1 x.2.1⟩)
theorem E1m:EF cfg [] [(7,⟨[.t 6 false [.str],.t 7 false [.int .i64]],lt 9 18 [.b 9],true⟩),(58,⟨[.t 6 false [.str],.t 7 false [.int .i64],.t 12 false [.int .i64]],lt 13 14 [.b 9,.t 9],false⟩)] f258 (B8D C3m):=fun _=>by kernel_rfl
theorem D1l:SQ (B8D U4):=sF MO C6 B7 func258 E1m
def C7O(f:B6i):Nat×Fn:=(285,⟨[.val false .str false],[.val false .bool],fun x=>f x.1⟩)
theorem E3s:EF cfg [] [(3,⟨[],lt 3 17 [],false⟩),(26,⟨[.t 3 false [.int .i64]],lt 4 16 [],false⟩)] f285 (C7O C6n):=fun _=>by kernel_rfl
theorem E3t:SQ (C7O A9v):=sF MO C6 B7 func285 E3s
def A2h(f:A0c):Nat×Fn:=(306,⟨[.val false (.rs 9 .str) false,.val false .str false],[.val false (.int .i64)],fun x=>f x.1 x.2.1⟩)
theorem B5J:EF cfg [] [(26,⟨[.t 8 false [.int .i64]],lt 9 8 [.t 5,.t 18],false⟩)] f306 (A2h A2a):=fun _=>by kernel_rfl
theorem B5K:SQ (A2h A2b):=sF MO C6 B7 func306 B5J
def A1h(f:Q5):Nat×Fn:=(286,⟨[.val false (.rs 9 .str) false,.val false .str false],[.val false .bool],fun x=>f x.1 x.2.1⟩)
theorem B2B{A0e:A0c}:EF cfg [A2h A0e] [] f286 (A1h (A1f A0e)):=fun _=>by kernel_rfl
theorem B2C:SQ (A1h L9):=sF MO C6 (tc call306 B5K B7) func286 B2B
def C7P(f:C1L):Nat×Fn:=(257,⟨[.val false (.rs 150 C1) false],[.val false .bool],fun x=>f x.1⟩)
theorem E3u{U6:A5P}{B3R:B6i}{N3:Q5}:EF (cfg.withAr [(292,3,9)]) [B8D U6,C7O B3R,A1h N3] [(7,⟨[],lt 13 35 (lt 5 4 [.b 5,.r 27,.t 3]),false⟩),(58,⟨[.t 3 false [.bool],.t 15 false [.int .i64]],lt 16 32 (lt 5 4 [.b 5,.r 27]),false⟩),(122,⟨[.t 49 false [.int .i64]],lt 50 11 (lt 10 3 []),false⟩)] f257 (C7P (C6o U6 B3R N3)):=fun _=>by kernel_rfl
theorem E3v:SQ (C7P C1M):=sF MO (B6H (l:= [(292,3,9)]) C6 ⟨tA t292 ⟨false,.str,16,[]⟩ underlying292,trivial⟩) (tc call258 D1l (tc call285 E3t (tc call286 B2C B7))) func257 E3u
def C2F(f:B11):Nat×Fn:=(141,⟨[.val false (.int .i64) false],[.val false .str],fun x=>f x.1⟩)
theorem D9V:EF (cfg.withAr [(211,6,9)]) [] [] f141 (C2F C8K):=fun _=>by kernel_rfl
theorem D9W:SQ (C2F A2u):=sF MO (B6H (l:= [(211,6,9)]) C6 ⟨tA t211 ⟨false,.str,16,[]⟩ underlying211,trivial⟩) B7 func141 D9V
def D5Q(f:C8L):Nat×Fn:=(259,⟨[.val false .str false],[.val false (.int .i64)],fun x=>f x.1⟩)
theorem F0G{A8R:B11}:EF cfg [C2F A8R] [(26,⟨[.t 3 false [.int .i64]],lt 4 8 [],false⟩)] f259 (D5Q (D3t A8R)):=fun _=>by kernel_rfl
theorem F0H:SQ (D5Q C8M):=sF MO C6 (tc call141 D9W B7) func259 F0G
def A1G(f:V3):Nat×Fn:=(307,⟨[.val false .str false,.val false .str false],[.val false .bool],fun x=>f x.1 x.2.1⟩)
theorem B1h:EF cfg [] [] f307 (A1G A19):=fun _=>by kernel_rfl
theorem B1i:SQ (A1G A1A):=sF MO C6 B7 func307 B1h
def A1H(f:V4):Nat×Fn:=(287,⟨[.val false .str false,.val false .str false],[.val false .str,.val false .bool],fun x=>f x.1 x.2.1⟩)
theorem B1j{V7:V3}:EF cfg [A1G V7] [] f287 (A1H (A1B V7)):=fun _=>by kernel_rfl
theorem B1k:SQ (A1H A1C):=sF MO C6 (tc call307 B1i B7) func287 B1j
def A91(f:A4o):Nat×Fn:=(260,⟨[.val false .str false,.val false .str false],[.val false .str,.val false .bool],fun x=>f x.1 x.2.1⟩)
theorem C5b{V8:V4}:EF cfg [A1H V8] [] f260 (A91 (A8s V8)):=fun _=>by kernel_rfl
theorem C5c:SQ (A91 A2j):=sF MO C6 (tc call287 B1k B7) func260 C5b
def D0P(f:C59):Nat×Fn:=(239,⟨[.val false (.rs 150 C1) false],[.val true D3l,.val false (.int .i64)],fun x=>f x.1⟩)
theorem E7J{A9o:A9U}{C9M:C8I}{B69:B5l}{C2c:C1L}{U6:A5P}{C9N:C8L}{A4v:A4o}:EF cfg [B5I A9o,D5P C9M,C2E B69,C7P C2c,B8D U6,D5Q C9N,A91 A4v] [(255,⟨[],lt 42 7 [],false⟩)] f239 (D0P (C9p A9o C9M B69 C2c U6 C9N A4v)):=fun _=>by kernel_rfl
theorem E7K:SQ (D0P C5A):=sF MO C6 (tc call136 D2A (tc call137 F0F (tc call164 D9U (tc call257 E3v (tc call258 D1l (tc call259 F0H (tc call260 C5c B7))))))) func239 E7J
def B39(f:A7l):Nat×Fn:=(214,⟨[.ptr A3k,.val false (.int .i64) false,.val false .bool false,.val false (.rs 5 (.int .u8)) false],[.val false (.int .i64)],fun x=>f x.1 x.2.1 x.2.2.1 x.2.2.2.1⟩)
theorem D0Q{B4M:B3k}{V9:A4A}{P9:A1o}{B7L:C1G}{C5O:C59}{A1J:A57}{A8S:A7h}:EF cfg [B9H B4M,B1c V9,B09 P9,C7N B7L,D0P C5O,B1e A1J,B38 A8S] [(63,⟨[],lt 51 21 [.t 44,.t 45],false⟩),(1011,⟨[.t 51 false [.bool]],lt 52 12 [],true⟩)] f214 (B39 (B2b B4M V9 P9 B7L C5O A1J A8S)):=fun _=>by kernel_rfl
theorem D0R:SQ (B39 A7m):=sF MO C6 (tc call39 D6K (tc call83 C27 (tc call216 B7C (tc call238 E3r (tc call239 E7K (tc call240 C4b (tc call241 D0O B7))))))) func214 D0Q
def B5L(f:A9W):Nat×Fn:=(186,⟨[.ptr A3k,.val true (.pair (.int .i64) (.pair (.int .i64) (.pair (.int .i64) (.rs 5 (.int .u8))))) false],[.val false (.int .i64)],fun x=>f x.1 x.2.1⟩)
theorem D2B{C9O:C8E}{H7:R3}{A8T:A7l}:EF cfg [D5I C9O,A3L H7,B39 A8T] [(7,⟨[.t 5 false [.int .i64],.t 6 false [.bool]],lt 22 6 [],true⟩),(506,⟨[.t 45 false [.bool]],[.t 46,.t 47],true⟩)] f186 (B5L (B57 C9O H7 A8T)):=fun _=>by kernel_rfl
theorem D2C:SQ (B5L A9a):=sF MO C6 (tc call38 F0B (tc call109 A6O (tc call214 D0R B7))) func186 D2B
def C2G(f:B2c):Nat×Fn:=(145,⟨[.val false (.sl 5 (.int .u8)) false,.val false (.int .i64) false,.val false (.int .i64) false],[.val false (.sl 5 (.int .u8))],fun x=>f x.1 x.2.1 x.2.2.1⟩)
theorem E3w:EF cfg [] [(58,⟨[.t 0 false [.own 100000000],.t 7 false [.int .i64],.r 100000000 5 (.int .u8)],lt 12 13 [.r 23,.r 24,.r 1000],false⟩)] f145 (C2G C6p):=fun _=>by kernel_rfl
theorem D5R:SQ (C2G B6j):=sF MO C6 B7 func145 E3w
def B63(f:A7n):Nat×Fn:=(69,⟨[.val false (.sl 5 (.int .u8)) false,.val true (.pair (.int .i64) (.pair (.int .i64) (.pair (.int .i64) (.rs 5 (.int .u8))))) false],[.val false (.sl 5 (.int .u8))],fun x=>f x.1 x.2.1⟩)
theorem D9a{A3g:B2c}:EF cfg [C2G A3g] [] f69 (B63 (C1O A3g)):=fun _=>by kernel_rfl
theorem C93:SQ (B63 B12):=sF MO C6 (tc call145 D5R B7) func69 D9a
def B1l(f:A6g):Nat×Fn:=(187,⟨[.ptr A3k,.val true (.pair (.int .i64) (.pair (.int .i64) (.pair (.int .i64) (.rs 5 (.int .u8))))) false,.val false (.rs 5 (.int .u8)) false],[],fun x=>f x.1 x.2.1 x.2.2.1⟩)
theorem C94{A3A:A7n}{H7:R3}:EF cfg [B63 A3A,A3L H7] [] f187 (B1l (B13 A3A H7)):=fun _=>by kernel_rfl
theorem C95:SQ (B1l A6h):=sF MO C6 (tc call69 C93 (tc call109 A6O B7)) func187 C94
def C2H(f:B5n):Nat×Fn:=(188,⟨[.val false (.rs 5 (.int .u8)) false],[.val false (.int .i64),.val false .bool],fun x=>f x.1⟩)
theorem D9b{A4i:B2T}:EF cfg [C23 A4i] [] f188 (C2H (C1P A4i)):=fun _=>by kernel_rfl
theorem D9c:SQ (C2H B5o):=sF MO C6 (tc call155 D5F B7) func188 D9b
def A5j(f:A1p):Nat×Fn:=(215,⟨[.ptr A3k,.val true (.pair (.int .i64) (.pair (.int .i64) (.pair (.int .i64) (.rs 5 (.int .u8))))) false],[.val false (.int .i64)],fun x=>f x.1 x.2.1⟩)
theorem C7Q:EF cfg [] [] f215 (A5j A9w):=fun _=>by kernel_rfl
theorem B7D:SQ (A5j A3c):=sF MO C6 B7 func215 C7Q
def B5M(f:A9b):Nat×Fn:=(189,⟨[.ptr A3k,.val true (.pair (.int .i64) (.pair (.int .i64) (.pair (.int .i64) (.rs 5 (.int .u8))))) false],[.val false (.int .i64)],fun x=>f x.1 x.2.1⟩)
theorem D2D{V9:A4A}{A8P:B6I}{H7:R3}{S4:A1p}{P9:A1o}:EF cfg [B1c V9,C5K A8P,A3L H7,A5j S4,B09 P9] [] f189 (B5M (B58 V9 A8P H7 S4 P9)):=fun _=>by kernel_rfl
theorem D2E:SQ (B5M A9c):=sF MO C6 (tc call83 C27 (tc call108 D81 (tc call109 A6O (tc call215 B7D (tc call216 B7C B7))))) func189 D2D
def B3A(f:A7o):Nat×Fn:=(190,⟨[.ptr A3k,.val true (.pair (.int .i64) (.pair (.int .i64) (.pair (.int .i64) (.rs 5 (.int .u8))))) false],[.val false (.int .i64)],fun x=>f x.1 x.2.1⟩)
theorem D0S{V9:A4A}{T9:T7}{S4:A1p}:EF cfg [B1c V9,A3q T9,A5j S4] [] f190 (B3A (B2d V9 T9 S4)):=fun _=>by kernel_rfl
theorem D0T:SQ (B3A A7p):=sF MO C6 (tc call83 C27 (tc call86 B0i (tc call215 B7D B7))) func190 D0S
def B3B(f:A58):Nat×Fn:=(152,⟨[.ptr A3k,.val true (.pair (.int .i64) (.pair (.int .i64) (.pair (.int .i64) (.rs 5 (.int .u8))))) false],[.val false (.int .i64)],fun x=>f x.1 x.2.1⟩)
theorem D0U{A23:A6E}{A67:A9W}{A4H:A6g}{B6A:B5n}{A9p:A9b}{A8U:A7o}:EF cfg [B4B A23,B5L A67,B1l A4H,C2H B6A,B5M A9p,B3A A8U] [(122,⟨[.t 25 false [.bool]],[.t 26,.t 27],true⟩)] f152 (B3B (B2e A23 A67 A4H B6A A9p A8U)):=fun _=>by kernel_rfl
theorem D0V:SQ (B3B A3O):=sF MO C6 (tc call105 C6E (tc call186 D2C (tc call187 C95 (tc call188 D9c (tc call189 D2E (tc call190 D0T B7)))))) func152 D0U
def B1m(f:A6i):Nat×Fn:=(100,⟨[.ptr A3k,.val false (.rs 5 (.int .u8)) false],[.val false (.int .i64)],fun x=>f x.1 x.2.1⟩)
theorem C96{O1:A22}{C4:G2}{A3T:A58}:EF cfg [B1W O1,M4 C4,B3B A3T] [(14,⟨[.t 5 false [.int .i64],.b 1000 [.int .i64,.own 100000000,.int .i64,.bool,.own 100000001,.int .i64,.own 100000002,.int .i64,.own 100000003,.own 100000004,.int .i64,.int .i64,.own 100000005,.own 100000006],.r 100000000 5 (.int .u8),.r 100000001 5 (.int .u8),.r 100000002 150 C1,.r 100000003 150 C1,.r 100000004 113 H2,.r 100000005 75 A0q,.r 100000006 5 (.int .u8)],lt 28 7 (lt 6 14 [.b 6,.r 1001,.r 1004,.r 1006,.r 1008,.r 1009,.r 1012,.r 1013,.r 57347,.r 137217,.r 137220,.r 137222,.r 137224,.r 137225,.r 137228,.r 137229,.t 36]),false⟩)] f100 (B1m (B14 O1 C4 A3T)):=fun _=>by kernel_rfl
theorem C97:SQ (B1m B15):=sF MO C6 (tc call103 C24 (tc call144 P8 (tc call152 D0V B7))) func100 C96
def A3v(f:A1j):Nat×Fn:=(101,⟨[.val false (.rs 27 (.sl 5 (.int .u8))) false],[.val false (.sl 5 (.int .u8))],fun x=>f x.1⟩)
theorem B7W{A2N:A2J}:EF cfg [B0c A2N] [(7,⟨[.t 3 false [.int .i64]],lt 9 12 [.t 5,.t 22],true⟩),(58,⟨[.t 3 false [.int .i64],.t 11 false [.int .i64]],lt 12 9 [.t 5,.t 22],false⟩),(250,⟨[.t 6 false [.own 100002000],.t 27 false [.int .i64],.r 100002000 5 (.int .u8)],lt 28 7 [.r 33,.r 102400,.t 8],false⟩)] f101 (A3v (A3s A2N)):=fun _=>by kernel_rfl
theorem B7a:SQ (A3v A1k):=sF MO C6 (tc call153 C0C B7) func101 B7W
def B9I(f:B3m):Nat×Fn:=(154,⟨[.val false (.int .i64) false,.val false (.int .i64) false],[.val false (.sl 5 (.int .u8))],fun x=>f x.1 x.2.1⟩)
theorem D6L{A3g:B2c}:EF cfg [C2G A3g] [] f154 (B9I (B8o A3g)):=fun _=>by kernel_rfl
theorem D6M:SQ (B9I B8p):=sF MO C6 (tc call145 D5R B7) func154 D6L
def B7E(f:B16):Nat×Fn:=(102,⟨[.ptr A3k,.val false (.int .i64) false],[],fun x=>f x.1 x.2.1⟩)
theorem D5S{A3A:A7n}{B4N:B3m}:EF cfg [B63 A3A,B9I B4N] [] f102 (B7E (B6k A3A B4N)):=fun _=>by kernel_rfl
theorem D5T:SQ (B7E B17):=sF MO C6 (tc call69 C93 (tc call154 D6M B7)) func102 D5S
end
end Go.Proofs.YthnfghmjipikhaaGreatDoor.Ev
