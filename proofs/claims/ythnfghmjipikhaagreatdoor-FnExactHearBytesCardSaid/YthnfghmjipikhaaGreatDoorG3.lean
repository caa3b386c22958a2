/- Each function of the program does what its plain function says. -/
import Derived.Test.YthnfghmjipikhaaGreatDoorG2
set_option linter.unusedVariables false
set_option maxRecDepth 100000
namespace Go.Proofs.YthnfghmjipikhaaGreatDoor.Ev
noncomputable section
def D7e:Nat->Option Jn:=B4 [(7,⟨[],lt 13 8 [],false⟩),(31,⟨[.t 9 false [.int .i64],.b 7 [.int .i64,.own 100001000,.int .i64,.bool,.own 100001001,.int .i64,.own 100001002,.int .i64,.own 100001003,.own 100001004,.int .i64,.int .i64,.own 100001005,.own 100001006],.r 100001000 5 (.int .u8),.r 100001001 5 (.int .u8),.r 100001002 150 A5,.r 100001003 150 A5,.r 100001004 113 B7,.r 100001005 75 G2,.r 100001006 5 (.int .u8)],lt 28 8 [.r 33,.r 108545,.r 108548,.r 108550,.r 108552,.r 108553,.r 108556,.r 108557,.r 143360,.r 149505,.r 149508,.r 149510,.r 149512,.r 149513,.r 149516,.r 149517],true⟩),(63,⟨[.b 7 [.int .i64,.own 100002007,.int .i64,.bool,.own 100002008,.int .i64,.own 100002009,.int .i64,.own 100002010,.own 100002011,.int .i64,.int .i64,.own 100002012,.own 100002013],.r 100002007 5 (.int .u8),.r 100002008 5 (.int .u8),.r 100002009 150 A5,.r 100002010 150 A5,.r 100002011 113 B7,.r 100002012 75 G2,.r 100002013 5 (.int .u8)],lt 36 4 [.r 165889,.r 165892,.r 165894,.r 165896,.r 165897,.r 165900,.r 165901,.r 100001000,.r 100001001,.r 100001002,.r 100001003,.r 100001004,.r 100001005,.r 100001006],true⟩)]
abbrev C3I:List PK:= [.val true (.pair (.int .i64) (.pair (.rs 5 (.int .u8)) (.pair (.pair (.int .i64) (.pair .bool (.rs 5 (.int .u8)))) (.pair (.pair (.int .i64) (.rs 150 A5)) (.pair (.pair (.int .i64) (.rs 150 A5)) (.pair (.rs 113 B7) G4)))))) false,.val false (.rs 5 (.int .u8)) false]
abbrev C3J:List RK:= [.val true B5i,.val false (.sl 75 G2),.val false (.sl 5 (.int .u8))]
def C3K(f:A9E):Nat×Fn:=(33,⟨C3I,C3J,fun x=>f x.1 x.2.1⟩)
def D7f:Fn:=(C3K A0c).2
theorem D7g(B8b:B7L)(B20:B1P)(A0Q:A0K)(A3h:A3S)(U2:U0)(A8G:A7b):∀ x,(C7 cfg [D5A B8b,C6r B20,A87 A0Q,B4L A3h,A5D U2,C11 A8G] D7e 46 [.cell 4 55,.tmp 5,.tmp 6] (Tryz.f33.body.getD .skip) C3I C3J).fn x=A9F B8b B20 A0Q A3h U2 A8G x.1 x.2.1:=by intro x;kernel_rfl
theorem D7h:B0 Tryz.prog 33 D7f:=sm MO A8 (tc Tryz.call43 E85 (tc Tryz.call82 E1u (tc Tryz.call99 B8J (tc Tryz.call100 C7P (tc Tryz.call101 B3a (tc Tryz.call102 D5m A6)))))) Tryz.func33 (by kernel_rfl) (by decide) (D7g A3v A7K H8 A3T O0 A43)
abbrev E5E:List PK:= [.val false (.int .i64) false,.val false (.int .i64) false,.val false (.int .i64) false]
abbrev E5F:List RK:= [.val false .bool]
def A0E(f:F5):Nat×Fn:=(53,⟨E5E,E5F,fun x=>f x.1 x.2.1 x.2.2.1⟩)
def F5m:Fn:=(A0E E6).2
theorem F5n:∀ x,(C7 cfg [] (B4 []) 15 [.tmp 6] (Tryz.f53.body.getD .skip) E5E E5F).fn x=D3E x.1 x.2.1 x.2.2.1:=by intro x;kernel_rfl
theorem A0n:B0 Tryz.prog 53 F5m:=sm MO A8 A6 Tryz.func53 (by kernel_rfl) (by decide) (F5n)
abbrev E5G:List PK:= [.val true A5 false]
abbrev E5H:List RK:= [.val false (.int .i64)]
def E5I(f:B9t):Nat×Fn:=(173,⟨E5G,E5H,fun x=>f x.1⟩)
def F5o:Fn:=(E5I B04).2
theorem F5p:∀ x,(C7 cfg [] (B4 []) 11 [.tmp 2] (Tryz.f173.body.getD .skip) E5G E5H).fn x=C5h x.1:=by intro x;kernel_rfl
theorem F5q:B0 Tryz.prog 173 F5o:=sm MO A8 A6 Tryz.func173 (by kernel_rfl) (by decide) (F5p)
def E8e:Nat->Option Jn:=B4 [(58,⟨[.t 3 false [.int .i64],.t 4 false [.int .i64]],lt 5 15 [],false⟩)]
abbrev D5n:List PK:= [.val true (.pair (.int .i64) (.rs 150 A5)) false]
abbrev D5o:List RK:= [.val false (.int .i64)]
def C4t(f:A6E):Nat×Fn:=(126,⟨D5n,D5o,fun x=>f x.1⟩)
def E8f:Fn:=(C4t A2T).2
theorem E8g(B6i:B9t):∀ x,(C7 cfg [E5I B6i] E8e 21 [.tmp 2] (Tryz.f126.body.getD .skip) D5n D5o).fn x=C4L B6i x.1:=by intro x;kernel_rfl
theorem D5p:B0 Tryz.prog 126 E8f:=sm MO A8 (tc Tryz.call173 F5q A6) Tryz.func126 (by kernel_rfl) (by decide) (E8g B04)
abbrev D0k:List PK:= [.val true (.pair (.int .i64) (.rs 150 A5)) false]
abbrev D0l:List RK:= [.val false .bool]
def B4M(f:A2J):Nat×Fn:=(51,⟨D0k,D0l,fun x=>f x.1⟩)
def E5J:Fn:=(B4M Q8).2
theorem E5K(B5:F5)(A0p:A6E):∀ x,(C7 cfg [A0E B5,C4t A0p] (B4 []) 13 [.tmp 2] (Tryz.f51.body.getD .skip) D0k D0l).fn x=B3p B5 A0p x.1:=by intro x;kernel_rfl
theorem C12:B0 Tryz.prog 51 E5J:=sm MO A8 (tc Tryz.call53 A0n (tc Tryz.call126 D5p A6)) Tryz.func51 (by kernel_rfl) (by decide) (E5K E6 A2T)
abbrev C7Q:List PK:= [.val true (.pair (.int .i64) (.pair .bool (.rs 5 (.int .u8)))) false]
abbrev C7R:List RK:= [.val false .bool]
def B8K(f:A4U):Nat×Fn:=(120,⟨C7Q,C7R,fun x=>f x.1⟩)
def E2L:Fn:=(B8K S5).2
theorem E2M(B5:F5):∀ x,(C7 cfg [A0E B5] (B4 []) 24 [.tmp 2] (Tryz.f120.body.getD .skip) C7Q C7R).fn x=A7c B5 x.1:=by intro x;kernel_rfl
theorem C7S:B0 Tryz.prog 120 E2L:=sm MO A8 (tc Tryz.call53 A0n A6) Tryz.func120 (by kernel_rfl) (by decide) (E2M E6)
def E5L:Nat->Option Jn:=B4 [(3,⟨[],lt 3 58 [.b 4],false⟩),(26,⟨[.t 3 false [.int .i64]],lt 4 57 [.b 4],false⟩)]
abbrev D0m:List PK:= [.val true (.pair (.int .i64) (.pair (.rs 5 (.int .u8)) (.pair (.pair (.int .i64) (.pair .bool (.rs 5 (.int .u8)))) (.pair (.pair (.int .i64) (.rs 150 A5)) (.pair (.pair (.int .i64) (.rs 150 A5)) (.pair (.rs 113 B7) G4)))))) false]
abbrev D0n:List RK:= [.val false .bool]
def D0o(f:B3q):Nat×Fn:=(121,⟨D0m,D0n,fun x=>f x.1⟩)
def E5M:Fn:=(D0o B05).2
theorem E5N(B5:F5):∀ x,(C7 cfg [A0E B5] E5L 65 [.tmp 2] (Tryz.f121.body.getD .skip) D0m D0n).fn x=B9u B5 x.1:=by intro x;kernel_rfl
theorem E5O:B0 Tryz.prog 121 E5M:=sm MO A8 (tc Tryz.call53 A0n A6) Tryz.func121 (by kernel_rfl) (by decide) (E5N E6)
def E8h:Nat->Option Jn:=B4 [(3,⟨[],lt 10 15 [],false⟩),(15,⟨[.t 8 false [.int .i64]],lt 25 15 [.t 9],true⟩),(122,⟨[.t 8 false [.int .i64],.t 9 false [.int .i64]],lt 25 15 [],false⟩)]
abbrev D5q:List PK:= [.val false (.rs 5 (.int .u8)) false,.val false (.int .i64) false,.val false (.int .i64) false]
abbrev D5r:List RK:= [.val false (.int .i64),.val false .bool]
def C4u(f:A8i):Nat×Fn:=(171,⟨D5q,D5r,fun x=>f x.1 x.2.1 x.2.2.1⟩)
def E8i:Fn:=(C4u A44).2
theorem E8j(B5:F5):∀ x,(C7 cfg [A0E B5] E8h 41 [.tmp 6,.tmp 7] (Tryz.f171.body.getD .skip) D5q D5r).fn x=C4M B5 x.1 x.2.1 x.2.2.1:=by intro x;kernel_rfl
theorem D5s:B0 Tryz.prog 171 E8i:=sm MO A8 (tc Tryz.call53 A0n A6) Tryz.func171 (by kernel_rfl) (by decide) (E8j E6)
def E2N:Nat->Option Jn:=B4 [(15,⟨[],lt 39 8 (lt 34 3 (lt 25 7 [])),false⟩),(60,⟨[.t 25 false [.bool]],lt 26 6 [],true⟩)]
abbrev C7T:List PK:= [.val false (.rs 5 (.int .u8)) false,.val false (.int .i64) false]
abbrev C7U:List RK:= [.val true E0N,.val false (.int .i64),.val false (.int .i64)]
def B8L(f:A4V):Nat×Fn:=(122,⟨C7T,C7U,fun x=>f x.1 x.2.1⟩)
def E2O:Fn:=(B8L A1C).2
theorem E2P(A1i:A8i):∀ x,(C7 cfg [C4u A1i] E2N 80 [.cell 4 82,.tmp 5,.tmp 6] (Tryz.f122.body.getD .skip) C7T C7U).fn x=B7h A1i x.1 x.2.1:=by intro x;kernel_rfl
theorem C7V:B0 Tryz.prog 122 E2O:=sm MO A8 (tc Tryz.call171 D5s A6) Tryz.func122 (by kernel_rfl) (by decide) (E2P A44)
def E8k:Nat->Option Jn:=B4 [(3,⟨[],lt 6 45 [],false⟩),(15,⟨[],lt 58 13 [],false⟩)]
abbrev D5t:List PK:= [.val true (.pair (.int .i64) (.pair (.rs 5 (.int .u8)) (.pair (.pair (.int .i64) (.pair .bool (.rs 5 (.int .u8)))) (.pair (.pair (.int .i64) (.rs 150 A5)) (.pair (.pair (.int .i64) (.rs 150 A5)) (.pair (.rs 113 B7) G4)))))) false]
abbrev D5u:List RK:= [.val false .bool]
def D5v(f:B7i):Nat×Fn:=(46,⟨D5t,D5u,fun x=>f x.1⟩)
def E8l:Fn:=(D5v A2U).2
theorem E8m(N3:A2J)(B5:F5)(A0R:A4U)(B4i:B3q)(A0S:A4V):∀ x,(C7 cfg [B4M N3,A0E B5,B8K A0R,D0o B4i,B8L A0S] E8k 92 [.tmp 2] (Tryz.f46.body.getD .skip) D5t D5u).fn x=B7j N3 B5 A0R B4i A0S x.1:=by intro x;kernel_rfl
theorem E8n:B0 Tryz.prog 46 E8l:=sm MO A8 (tc Tryz.call51 C12 (tc Tryz.call53 A0n (tc Tryz.call120 C7S (tc Tryz.call121 E5O (tc Tryz.call122 C7V A6))))) Tryz.func46 (by kernel_rfl) (by decide) (E8m Q8 E6 S5 B05 A1C)
abbrev D5w:List PK:= [.val true (.pair (.int .i64) (.rs 150 A5)) false]
abbrev D60:List RK:= [.val true P0]
def B8M(f:A2V):Nat×Fn:=(54,⟨D5w,D60,fun x=>f x.1⟩)
def E8o:Fn:=(B8M A1b).2
theorem E8p:∀ x,(C7 cfg [] (B4 []) 10 [.cell 2 32] (Tryz.f54.body.getD .skip) D5w D60).fn x=C4N x.1:=by intro x;kernel_rfl
theorem C4v:B0 Tryz.prog 54 E8o:=sm MO A8 A6 Tryz.func54 (by kernel_rfl) (by decide) (E8p)
abbrev D61:List PK:= [.val true (.pair (.int .i64) (.pair .bool (.rs 5 (.int .u8)))) false]
abbrev D62:List RK:= [.val true O5]
def C4w(f:A8j):Nat×Fn:=(148,⟨D61,D62,fun x=>f x.1⟩)
def E8q:Fn:=(C4w A6F).2
theorem E8r:∀ x,(C7 cfg [] (B4 []) 9 [.cell 2 52] (Tryz.f148.body.getD .skip) D61 D62).fn x=C4O x.1:=by intro x;kernel_rfl
theorem D63:B0 Tryz.prog 148 E8q:=sm MO A8 A6 Tryz.func148 (by kernel_rfl) (by decide) (E8r)
def E5P:Nat->Option Jn:=B4 [(2042,⟨[.t 4 false [.int .i64],.b 3 [.int .i64,.own 10,.int .i64,.bool,.own 61442,.int .i64,.own 77825,.int .i64,.own 94209,.own 100000000,.int .i64,.int .i64],.r 10 5 (.int .u8),.r 61442 5 (.int .u8),.r 77825 150 A5,.r 94209 150 A5,.r 100000000 113 B7],lt 26 23 [.b 5,.r 24,.r 38,.r 41,.r 46,.r 47,.t 5],false⟩)]
abbrev D0p:List PK:= [.val true (.pair (.int .i64) (.pair (.rs 5 (.int .u8)) (.pair (.pair (.int .i64) (.pair .bool (.rs 5 (.int .u8)))) (.pair (.pair (.int .i64) (.rs 150 A5)) (.pair (.pair (.int .i64) (.rs 150 A5)) (.pair (.rs 113 B7) G4)))))) false]
abbrev D0q:List RK:= [.val true B5i]
def D0r(f:B3r):Nat×Fn:=(76,⟨D0p,D0q,fun x=>f x.1⟩)
def E5Q:Fn:=(D0r B06).2
theorem E5R(K3:A2V)(A08:A8j):∀ x,(C7 cfg [B8M K3,C4w A08] E5P 50 [.cell 2 55] (Tryz.f76.body.getD .skip) D0p D0q).fn x=B9v K3 A08 x.1:=by intro x;kernel_rfl
theorem E5S:B0 Tryz.prog 76 E5Q:=sm MO A8 (tc Tryz.call54 C4v (tc Tryz.call148 D63 A6)) Tryz.func76 (by kernel_rfl) (by decide) (E5R A1b A6F)
abbrev D0s:List PK:= [.val true (.pair (.int .i64) (.pair (.int .i64) (.pair (.int .i64) (.rs 5 (.int .u8))))) false]
abbrev D0t:List RK:= [.val false .bool]
def C13(f:A6V):Nat×Fn:=(133,⟨D0s,D0t,fun x=>f x.1⟩)
def E5T:Fn:=(C13 A2K).2
theorem E5U(B5:F5):∀ x,(C7 cfg [A0E B5] (B4 []) 22 [.tmp 2] (Tryz.f133.body.getD .skip) D0s D0t).fn x=B9w B5 x.1:=by intro x;kernel_rfl
theorem D0u:B0 Tryz.prog 133 E5T:=sm MO A8 (tc Tryz.call53 A0n A6) Tryz.func133 (by kernel_rfl) (by decide) (E5U E6)
def E8s:Nat->Option Jn:=B4 [(7,⟨[.t 1 false [.int .i64]],[.t 12,.t 13],true⟩),(250,⟨[.t 7 false [.own 100001000],.t 8 false [.int .i64],.r 100001000 5 (.int .u8)],lt 20 13 [.r 11,.r 31,.r 32],false⟩)]
abbrev D64:List PK:= [.val false (.rs 5 (.int .u8)) false,.val false (.int .i64) false,.val false (.int .i64) false]
abbrev D65:List RK:= [.val false (.sl 5 (.int .u8))]
def C50(f:A8k):Nat×Fn:=(134,⟨D64,D65,fun x=>f x.1 x.2.1 x.2.2.1⟩)
def E8t:Fn:=(C50 A6G).2
theorem E8u(B5:F5):∀ x,(C7 cfg [A0E B5] E8s 34 [.tmp 6] (Tryz.f134.body.getD .skip) D64 D65).fn x=C4P B5 x.1 x.2.1 x.2.2.1:=by intro x;kernel_rfl
theorem D66:B0 Tryz.prog 134 E8t:=sm MO A8 (tc Tryz.call53 A0n A6) Tryz.func134 (by kernel_rfl) (by decide) (E8u E6)
abbrev C7W:List PK:= [.val true (.pair (.int .i64) (.pair (.int .i64) (.pair (.int .i64) (.rs 5 (.int .u8))))) false]
abbrev C7a:List RK:= [.val false (.sl 5 (.int .u8))]
def C7b(f:B1V):Nat×Fn:=(59,⟨C7W,C7a,fun x=>f x.1⟩)
def E2Q:Fn:=(C7b A7e).2
theorem E2R(A1R:A6V)(A0q:A8k):∀ x,(C7 cfg [C13 A1R,C50 A0q] (B4 []) 28 [.tmp 2] (Tryz.f59.body.getD .skip) C7W C7a).fn x=B7k A1R A0q x.1:=by intro x;kernel_rfl
theorem E2S:B0 Tryz.prog 59 E2Q:=sm MO A8 (tc Tryz.call133 D0u (tc Tryz.call134 D66 A6)) Tryz.func59 (by kernel_rfl) (by decide) (E2R A2K A6G)
abbrev C3L:List PK:= [.val false (.int .i64) false,.val false (.int .i64) false]
abbrev C3M:List RK:= [.val false (.sl 5 (.int .u8))]
def C3N(f:A9I):Nat×Fn:=(200,⟨C3L,C3M,fun x=>f x.1 x.2.1⟩)
def D7i:Fn:=(C3N A9J).2
theorem D7j(A0q:A8k):∀ x,(C7 cfg [C50 A0q] (B4 []) 10 [.tmp 4] (Tryz.f200.body.getD .skip) C3L C3M).fn x=B5C A0q x.1 x.2.1:=by intro x;kernel_rfl
theorem D7k:B0 Tryz.prog 200 D7i:=sm MO A8 (tc Tryz.call134 D66 A6) Tryz.func200 (by kernel_rfl) (by decide) (D7j A6G)
def E8v:Nat->Option Jn:=B4 [(235,⟨[.t 13 false [.bool]],[.t 14,.t 15],true⟩)]
abbrev D67:List PK:= [.val true (.pair (.int .i64) (.pair (.int .i64) (.pair (.int .i64) (.rs 5 (.int .u8))))) false]
abbrev D68:List RK:= [.val false .bool]
def D69(f:B7l):Nat×Fn:=(221,⟨D67,D68,fun x=>f x.1⟩)
def E8w:Fn:=(D69 B2p).2
theorem E90:∀ x,(C7 cfg [] E8v 41 [.tmp 2] (Tryz.f221.body.getD .skip) D67 D68).fn x=C4Q x.1:=by intro x;kernel_rfl
theorem E91:B0 Tryz.prog 221 E8w:=sm MO A8 A6 Tryz.func221 (by kernel_rfl) (by decide) (E90)
def D7l:Nat->Option Jn:=B4 [(3,⟨[],lt 3 8 [],false⟩),(58,⟨[.t 13 false [.bool]],lt 14 6 [],true⟩)]
abbrev C3O:List PK:= [.val true (.pair (.int .i64) (.pair (.int .i64) (.pair (.int .i64) (.rs 5 (.int .u8))))) false]
abbrev C3P:List RK:= [.val false (.int .i64)]
def B5Q(f:A3A):Nat×Fn:=(201,⟨C3O,C3P,fun x=>f x.1⟩)
def D7m:Fn:=(B5Q A1c).2
theorem D7n(A1R:A6V)(B8c:B7l):∀ x,(C7 cfg [C13 A1R,D69 B8c] D7l 30 [.tmp 2] (Tryz.f201.body.getD .skip) C3O C3P).fn x=B5D A1R B8c x.1:=by intro x;kernel_rfl
theorem C3Q:B0 Tryz.prog 201 D7m:=sm MO A8 (tc Tryz.call133 D0u (tc Tryz.call221 E91 A6)) Tryz.func201 (by kernel_rfl) (by decide) (D7n A2K B2p)
def F2g:Nat->Option Jn:=B4 [(7,⟨[.t 4 false [.ro 5 (.int .u8)]],lt 25 9 (lt 7 17 []),false⟩),(30,⟨[.t 42 false [.bool]],lt 34 8 [],true⟩),(58,⟨[],lt 11 13 [],false⟩)]
abbrev D9g:List PK:= [.val true (.pair (.int .i64) (.pair (.int .i64) (.pair (.int .i64) (.rs 5 (.int .u8))))) false]
abbrev D9h:List RK:= [.val false (.sl 5 (.int .u8)),.val false .bool]
def C9B(f:B28):Nat×Fn:=(224,⟨D9g,D9h,fun x=>f x.1⟩)
def F2h:Fn:=(C9B A8l).2
theorem F2i:∀ x,(C7 cfg [] F2g 52 [.tmp 2,.tmp 3] (Tryz.f224.body.getD .skip) D9g D9h).fn x=C8R x.1:=by intro x;kernel_rfl
theorem D9i:B0 Tryz.prog 224 F2h:=sm MO A8 A6 Tryz.func224 (by kernel_rfl) (by decide) (F2i)
def F5r:Nat->Option Jn:=B4 [(7,⟨[],lt 12 35 [],false⟩),(14,⟨[.t 46 false [.bool]],lt 12 34 [],true⟩),(31,⟨[.b 8 [.int .i64,.bool,.own 100002000],.r 100002000 5 (.int .u8)],lt 68 16 (lt 56 9 [.r 82,.r 212994,.r 249856,.t 9,.t 10,.t 52,.t 53]),false⟩)]
abbrev E5V:List PK:= [.val true (.pair (.int .i64) (.pair .bool (.rs 5 (.int .u8)))) false,.val true (.pair (.int .i64) (.pair (.int .i64) (.pair (.int .i64) (.rs 5 (.int .u8))))) false]
abbrev E5W:List RK:= [.val true O5,.val false (.sl 5 (.int .u8)),.val false (.int .i64)]
def E5a(f:C5i):Nat×Fn:=(222,⟨E5V,E5W,fun x=>f x.1 x.2.1⟩)
def F5s:Fn:=(E5a C02).2
theorem F5t(A0R:A4U)(A08:A8j)(V6:A3A)(A4t:B28):∀ x,(C7 cfg [B8K A0R,C4w A08,B5Q V6,C9B A4t] F5r 100 [.cell 4 52,.tmp 5,.tmp 6] (Tryz.f222.body.getD .skip) E5V E5W).fn x=D3F A0R A08 V6 A4t x.1 x.2.1:=by intro x;kernel_rfl
theorem F5u:B0 Tryz.prog 222 F5s:=sm MO A8 (tc Tryz.call120 C7S (tc Tryz.call148 D63 (tc Tryz.call201 C3Q (tc Tryz.call224 D9i A6)))) Tryz.func222 (by kernel_rfl) (by decide) (F5t S5 A6F A1c A8l)
def F2j:Nat->Option Jn:=B4 [(26,⟨[.t 5 false [.int .i64]],lt 6 15 [],false⟩)]
abbrev D9j:List PK:= [.val true (.pair (.int .i64) (.pair (.rs 5 (.int .u8)) (.pair (.pair (.int .i64) (.pair .bool (.rs 5 (.int .u8)))) (.pair (.pair (.int .i64) (.rs 150 A5)) (.pair (.pair (.int .i64) (.rs 150 A5)) (.pair (.rs 113 B7) G4)))))) false,.val false (.int .i64) false]
abbrev D9k:List RK:= [.val false (.int .i64)]
def C1l(f:A6a):Nat×Fn:=(77,⟨D9j,D9k,fun x=>f x.1 x.2.1⟩)
def F2k:Fn:=(C1l A3B).2
theorem F2l:∀ x,(C7 cfg [] F2j 22 [.tmp 4] (Tryz.f77.body.getD .skip) D9j D9k).fn x=D8j x.1 x.2.1:=by intro x;kernel_rfl
theorem C9C:B0 Tryz.prog 77 F2k:=sm MO A8 A6 Tryz.func77 (by kernel_rfl) (by decide) (F2l)
def E92:Nat->Option Jn:=B4 [(26,⟨[.t 5 false [.bool]],[.t 6,.t 7],true⟩)]
abbrev D6A:List PK:= [.val false (.int .i64) false]
abbrev D6B:List RK:= [.val false (.int .i64),.val false (.int .i64)]
def D6C(f:B7m):Nat×Fn:=(270,⟨D6A,D6B,fun x=>f x.1⟩)
def E93:Fn:=(D6C C4R).2
theorem E94:∀ x,(C7 cfg [] E92 12 [.tmp 2,.tmp 3] (Tryz.f270.body.getD .skip) D6A D6B).fn x=D3G x.1:=by intro x;kernel_rfl
theorem E95:B0 Tryz.prog 270 E93:=sm MO A8 A6 Tryz.func270 (by kernel_rfl) (by decide) (E94)
def E96:Nat->Option Jn:=B4 [(26,⟨[.t 5 false [.bool]],[.t 6,.t 7],true⟩),(107,⟨[.t 8 false [.bool]],[.t 9,.t 10],true⟩),(431,⟨[.t 11 false [.bool]],[.t 12,.t 13],true⟩)]
abbrev D6D:List PK:= [.val false (.int .i64) false]
abbrev D6E:List RK:= [.val false (.int .i64),.val false (.int .i64)]
def D6F(f:B7n):Nat×Fn:=(271,⟨D6D,D6E,fun x=>f x.1⟩)
def E97:Fn:=(D6F C4S).2
theorem E98:∀ x,(C7 cfg [] E96 16 [.tmp 2,.tmp 3] (Tryz.f271.body.getD .skip) D6D D6E).fn x=D3H x.1:=by intro x;kernel_rfl
theorem E99:B0 Tryz.prog 271 E97:=sm MO A8 A6 Tryz.func271 (by kernel_rfl) (by decide) (E98)
def E5b:Nat->Option Jn:=B4 [(26,⟨[.t 5 false [.bool]],lt 6 4 [],true⟩)]
abbrev D0v:List PK:= [.val false (.int .i64) false]
abbrev D0w:List RK:= [.val false (.int .i64),.val false (.int .i64)]
def D10(f:B3t):Nat×Fn:=(272,⟨D0v,D0w,fun x=>f x.1⟩)
def E5c:Fn:=(D10 C03).2
theorem E5d:∀ x,(C7 cfg [] E5b 13 [.tmp 2,.tmp 3] (Tryz.f272.body.getD .skip) D0v D0w).fn x=C9l x.1:=by intro x;kernel_rfl
theorem E5e:B0 Tryz.prog 272 E5c:=sm MO A8 A6 Tryz.func272 (by kernel_rfl) (by decide) (E5d)
def E9A:Nat->Option Jn:=B4 [(26,⟨[.t 5 false [.bool]],lt 6 4 [],true⟩)]
abbrev D6G:List PK:= [.val false (.int .i64) false]
abbrev D6H:List RK:= [.val false (.int .i64),.val false (.int .i64)]
def D6I(f:B7o):Nat×Fn:=(273,⟨D6G,D6H,fun x=>f x.1⟩)
def E9B:Fn:=(D6I C4T).2
theorem E9C:∀ x,(C7 cfg [] E9A 14 [.tmp 2,.tmp 3] (Tryz.f273.body.getD .skip) D6G D6H).fn x=D3I x.1:=by intro x;kernel_rfl
theorem E9D:B0 Tryz.prog 273 E9B:=sm MO A8 A6 Tryz.func273 (by kernel_rfl) (by decide) (E9C)
abbrev C14:List PK:= [.val false (.int .i64) false,.val false (.int .i64) false]
abbrev C15:List RK:= [.val false (.int .i64),.val false (.int .i64)]
def C16(f:A7f):Nat×Fn:=(246,⟨C14,C15,fun x=>f x.1 x.2.1⟩)
def D6J:Fn:=(C16 A46).2
theorem D6K(B5:F5)(B8d:B7m)(B8e:B7n)(B4j:B3t)(B8f:B7o):∀ x,(C7 cfg [A0E B5,D6C B8d,D6F B8e,D10 B4j,D6I B8f] (B4 []) 42 [.tmp 4,.tmp 5] (Tryz.f246.body.getD .skip) C14 C15).fn x=B2q B5 B8d B8e B4j B8f x.1 x.2.1:=by intro x;kernel_rfl
theorem D6L:B0 Tryz.prog 246 D6J:=sm MO A8 (tc Tryz.call53 A0n (tc Tryz.call270 E95 (tc Tryz.call271 E99 (tc Tryz.call272 E5e (tc Tryz.call273 E9D A6))))) Tryz.func246 (by kernel_rfl) (by decide) (D6K E6 C4R C4S C03 C4T)
def D1n:Nat->Option Jn:=B4 [(12,⟨[.b 1 [.int .i64,.ro 150 A5]],lt 3 13 [],false⟩)]
abbrev B95:List PK:= [.val true (.pair (.int .i64) (.rs 150 A5)) false]
abbrev B96:List RK:= [.val true (.pair (.int .i64) (.rs 150 A5))]
def B0o(f:A11):Nat×Fn:=(207,⟨B95,B96,fun x=>f x.1⟩)
def D1o:Fn:=(B0o A04).2
theorem D1p(A0p:A6E):∀ x,(C7 cfg [C4t A0p] D1n 17 [.cell 2 32] (Tryz.f207.body.getD .skip) B95 B96).fn x=B0b A0p x.1:=by intro x;kernel_rfl
theorem B97:B0 Tryz.prog 207 D1o:=sm MO A8 (tc Tryz.call126 D5p A6) Tryz.func207 (by kernel_rfl) (by decide) (D1p A2T)
def D7o:Nat->Option Jn:=B4 [(3,⟨[],lt 13 11 [],false⟩),(63,⟨[],lt 41 31 (lt 10 3 []),false⟩),(506,⟨[.t 10 false [.int .i64],.t 11 false [.int .i64]],lt 41 31 [.t 12],false⟩),(1012,⟨[],lt 41 11 [],false⟩)]
abbrev C3R:List PK:= [.val false (.rs 5 (.int .u8)) false,.val false (.int .i64) false,.val false (.int .i64) false]
abbrev C3S:List RK:= [.val false (.int .i64),.val false (.int .i64),.val false .bool]
def A5h(f:S0):Nat×Fn:=(288,⟨C3R,C3S,fun x=>f x.1 x.2.1 x.2.2.1⟩)
def D7p:Fn:=(A5h P3).2
theorem D7q(B5:F5):∀ x,(C7 cfg [A0E B5] D7o 79 [.tmp 6,.tmp 7,.tmp 8] (Tryz.f288.body.getD .skip) C3R C3S).fn x=B5E B5 x.1 x.2.1 x.2.2.1:=by intro x;kernel_rfl
theorem A9W:B0 Tryz.prog 288 D7p:=sm MO A8 (tc Tryz.call53 A0n A6) Tryz.func288 (by kernel_rfl) (by decide) (D7q E6)
abbrev D11:List PK:= []
abbrev D12:List RK:= [.val false (.sl 150 A5)]
def D13(f:B3u):Nat×Fn:=(205,⟨D11,D12,fun x=>f⟩)
def E5f:Fn:=(D13 B07).2
theorem E5g:∀ x,(C7 cfg [] (B4 []) 63 [.tmp 0] (Tryz.f205.body.getD .skip) D11 D12).fn x=C9m:=by intro x;kernel_rfl
theorem E5h:B0 Tryz.prog 205 E5f:=sm MO A8 A6 Tryz.func205 (by kernel_rfl) (by decide) (E5g)
abbrev C17:List PK:= [.val false (.int .i64) false]
abbrev C18:List RK:= [.val true A5,.val false .bool]
def C19(f:A7h):Nat×Fn:=(308,⟨C17,C18,fun x=>f x.1⟩)
def D6M:Fn:=(C19 A7i).2
theorem D6N(B5:F5)(B4k:B3u):∀ x,(C7 cfg [A0E B5,D13 B4k] (B4 []) 13 [.cell 2 150,.tmp 3] (Tryz.f308.body.getD .skip) C17 C18).fn x=B2r B5 B4k x.1:=by intro x;kernel_rfl
theorem D6O:B0 Tryz.prog 308 D6M:=sm MO A8 (tc Tryz.call53 A0n (tc Tryz.call205 E5h A6)) Tryz.func308 (by kernel_rfl) (by decide) (D6N E6 B07)
abbrev D14:List PK:= [.val true (.pair (.int .i64) (.rs 150 A5)) false,.val false (.int .i64) false]
abbrev D15:List RK:= [.val true A5,.val false .bool]
def C1A(f:A6b):Nat×Fn:=(289,⟨D14,D15,fun x=>f x.1 x.2.1⟩)
def E5i:Fn:=(C1A A47).2
theorem E5j(A8I:A7h):∀ x,(C7 cfg [C19 A8I] (B4 []) 25 [.cell 4 150,.tmp 5] (Tryz.f289.body.getD .skip) D14 D15).fn x=C04 A8I x.1 x.2.1:=by intro x;kernel_rfl
theorem D16:B0 Tryz.prog 289 E5i:=sm MO A8 (tc Tryz.call308 D6O A6) Tryz.func289 (by kernel_rfl) (by decide) (E5j A7i)
def C9D:Nat->Option Jn:=B4 [(7,⟨[],lt 8 8 [],false⟩)]
abbrev B6N:List PK:= [.val true (.pair (.int .i64) (.rs 150 A5)) false,.val false (.int .i64) false]
abbrev B6O:List RK:= [.val true (.pair (.int .i64) (.rs 150 A5))]
def B6P(f:A4b):Nat×Fn:=(309,⟨B6N,B6O,fun x=>f x.1 x.2.1⟩)
def C9E:Fn:=(B6P A28).2
theorem C9F(N3:A2J)(B5:F5)(K3:A2V)(Q0:A11):∀ x,(C7 cfg [B4M N3,A0E B5,B8M K3,B0o Q0] C9D 21 [.cell 4 32] (Tryz.f309.body.getD .skip) B6N B6O).fn x=A8m N3 B5 K3 Q0 x.1 x.2.1:=by intro x;kernel_rfl
theorem C9G:B0 Tryz.prog 309 C9E:=sm MO A8 (tc Tryz.call51 C12 (tc Tryz.call53 A0n (tc Tryz.call54 C4v (tc Tryz.call207 B97 A6)))) Tryz.func309 (by kernel_rfl) (by decide) (C9F Q8 E6 A1b A04)
abbrev D6P:List PK:= []
abbrev D6Q:List RK:= [.val false (.sl 3 (.int .i64))]
def C51(f:A6H):Nat×Fn:=(228,⟨D6P,D6Q,fun x=>f⟩)
def E9E:Fn:=(C51 A6I).2
theorem E9F:∀ x,(C7 cfg [] (B4 []) 2 [.tmp 0] (Tryz.f228.body.getD .skip) D6P D6Q).fn x=D3J:=by intro x;kernel_rfl
theorem D6R:B0 Tryz.prog 228 E9E:=sm MO A8 A6 Tryz.func228 (by kernel_rfl) (by decide) (E9F)
def E5k:Nat->Option Jn:=B4 [(506,⟨[.t 2 false [.own 8],.t 3 false [.int .i64],.t 4 false [.int .i64],.t 5 false [.int .i64],.r 8 3 (.int .i64)],lt 9 28 [.t 6,.x 19,.x 36],false⟩),(32402,⟨[.t 2 false [.own 8],.t 3 false [.int .i64],.t 4 false [.int .i64],.t 6 false [.int .i64],.r 8 3 (.int .i64)],lt 13 24 [.x 19,.x 36],false⟩)]
abbrev D17:List PK:= []
abbrev D18:List RK:= [.val false (.sl 3 (.int .i64))]
def D19(f:B08):Nat×Fn:=(229,⟨D17,D18,fun x=>f⟩)
def E5l:Fn:=(D19 A6c).2
theorem E5m(A0r:A6H):∀ x,(C7 cfg [C51 A0r] E5k 38 [.tmp 0] (Tryz.f229.body.getD .skip) D17 D18).fn x=C05 A0r:=by intro x;kernel_rfl
theorem E5n:B0 Tryz.prog 229 E5l:=sm MO A8 (tc Tryz.call228 D6R A6) Tryz.func229 (by kernel_rfl) (by decide) (E5m A6I)
def E9G:Nat->Option Jn:=B4 [(26,⟨[.t 9 false [.int .i64]],lt 10 18 [],false⟩)]
abbrev D6S:List PK:= [.val false (.rs 3 (.int .i64)) false,.val false (.rs 3 (.int .i64)) false,.val false (.int .i64) false,.val false (.int .i64) false]
abbrev D6T:List RK:= [.val false (.int .i64)]
def D6U(f:B2s):Nat×Fn:=(317,⟨D6S,D6T,fun x=>f x.1 x.2.1 x.2.2.1 x.2.2.2.1⟩)
def E9H:Fn:=(D6U A2c).2
theorem E9I:∀ x,(C7 cfg [] E9G 29 [.tmp 8] (Tryz.f317.body.getD .skip) D6S D6T).fn x=C4U x.1 x.2.1 x.2.2.1 x.2.2.2.1:=by intro x;kernel_rfl
theorem E9J:B0 Tryz.prog 317 E9H:=sm MO A8 A6 Tryz.func317 (by kernel_rfl) (by decide) (E9I)
def E9K:Nat->Option Jn:=B4 [(127,⟨[.t 6 false [.own 100000000],.t 7 false [.int .i64],.t 8 false [.int .i64],.r 100000000 5 (.int .u8)],lt 14 38 [.r 13,.r 50,.r 51,.t 9,.t 10],false⟩),(1018,⟨[.t 6 false [.own 100000000],.t 7 false [.int .i64],.t 8 false [.int .i64],.t 9 false [.int .i64],.r 100000000 5 (.int .u8)],lt 14 38 [.r 13,.r 50,.r 51,.t 10],false⟩)]
abbrev D6V:List PK:= [.val false (.rs 5 (.int .u8)) false]
abbrev D6W:List RK:= [.val false .str,.val false .bool]
def D6a(f:B7r):Nat×Fn:=(316,⟨D6V,D6W,fun x=>f x.1⟩)
def E9L:Fn:=(D6a B2t).2
theorem E9M(A0r:A6H)(A6m:B08)(A8v:B2s):∀ x,(C7 cfg [C51 A0r,D19 A6m,D6U A8v] E9K 64 [.tmp 2,.tmp 3] (Tryz.f316.body.getD .skip) D6V D6W).fn x=C4V A0r A6m A8v x.1:=by intro x;kernel_rfl
theorem E9N:B0 Tryz.prog 316 E9L:=sm MO A8 (tc Tryz.call228 D6R (tc Tryz.call229 E5n (tc Tryz.call317 E9J A6))) Tryz.func316 (by kernel_rfl) (by decide) (E9M A6I A6c A2c)
def D7r:Nat->Option Jn:=B4 [(7,⟨[],lt 19 14 [],false⟩)]
abbrev C3T:List PK:= [.val false (.rs 5 (.int .u8)) false,.val false (.int .i64) false]
abbrev C3U:List RK:= [.val false .str,.val false (.int .i64),.val false .bool]
def C3V(f:A9L):Nat×Fn:=(310,⟨C3T,C3U,fun x=>f x.1 x.2.1⟩)
def D7s:Fn:=(C3V A5T).2
theorem D7t(F8:S0)(B8g:B7r):∀ x,(C7 cfg [A5h F8,D6a B8g] D7r 69 [.tmp 4,.tmp 5,.tmp 6] (Tryz.f310.body.getD .skip) C3T C3U).fn x=B5F F8 B8g x.1 x.2.1:=by intro x;kernel_rfl
theorem D7u:B0 Tryz.prog 310 D7s:=sm MO A8 (tc Tryz.call288 A9W (tc Tryz.call316 E9N A6)) Tryz.func310 (by kernel_rfl) (by decide) (D7t P3 B2t)
def D7v:Nat->Option Jn:=B4 [(31,⟨[.t 13 false [.int .i64],.b 11 [.str,.str]],lt 51 3 (lt 42 8 (lt 29 12 (lt 14 3 [.b 15]))),false⟩)]
abbrev C3W:List PK:= [.val true (.pair (.int .i64) (.rs 150 A5)) false,.val false (.rs 5 (.int .u8)) false,.val false (.int .i64) false,.val false (.int .i64) false]
abbrev C3a:List RK:= [.val true A5,.val false (.int .i64),.val false (.int .i64)]
def C3b(f:A9M):Nat×Fn:=(291,⟨C3W,C3a,fun x=>f x.1 x.2.1 x.2.2.1 x.2.2.2.1⟩)
def D7w:Fn:=(C3b A5U).2
theorem D80(F8:S0)(A1S:A6b)(A5k:A9L):∀ x,(C7 cfg [A5h F8,C1A A1S,C3V A5k] D7v 67 [.cell 8 150,.tmp 9,.tmp 10] (Tryz.f291.body.getD .skip) C3W C3a).fn x=B5G F8 A1S A5k x.1 x.2.1 x.2.2.1 x.2.2.2.1:=by intro x;kernel_rfl
theorem D81:B0 Tryz.prog 291 D7w:=sm MO A8 (tc Tryz.call288 A9W (tc Tryz.call289 D16 (tc Tryz.call310 D7u A6))) Tryz.func291 (by kernel_rfl) (by decide) (D80 P3 A47 A5T)
abbrev B98:List PK:= [.val true (.pair (.int .i64) (.rs 150 A5)) false,.val true A5 false]
abbrev B99:List RK:= [.val true (.pair (.int .i64) (.rs 150 A5))]
def B9A(f:A5u):Nat×Fn:=(178,⟨B98,B99,fun x=>f x.1 x.2.1⟩)
def D1q:Fn:=(B9A A12).2
theorem D1r(Q0:A11):∀ x,(C7 cfg [B0o Q0] (B4 []) 14 [.cell 4 32] (Tryz.f178.body.getD .skip) B98 B99).fn x=B0c Q0 x.1 x.2.1:=by intro x;kernel_rfl
theorem D1s:B0 Tryz.prog 178 D1q:=sm MO A8 (tc Tryz.call207 B97 A6) Tryz.func178 (by kernel_rfl) (by decide) (D1r A04)
def C1B:Nat->Option Jn:=B4 [(7,⟨[],lt 19 18 [],false⟩)]
abbrev B0N:List PK:= [.ptr (.pair (.pair (.int .i64) (.rs 150 A5)) (.pair (.int .i64) (.pair (.rs 5 (.int .u8)) P0)))]
abbrev B0O:List RK:= [.val false (.int .i64)]
def B0P(f:A1D):Nat×Fn:=(290,⟨B0N,B0O,fun x=>f x.1⟩)
def C1C:Fn:=(B0P A1E).2
theorem C1D(F8:S0)(A4u:A4b):∀ x,(C7 cfg [A5h F8,B6P A4u] C1B 50 [.tmp 2] (Tryz.f290.body.getD .skip) B0N B0O).fn x=A48 F8 A4u x.1:=by intro x;kernel_rfl
theorem C1E:B0 Tryz.prog 290 C1C:=sm MO A8 (tc Tryz.call288 A9W (tc Tryz.call309 C9G A6)) Tryz.func290 (by kernel_rfl) (by decide) (C1D P3 A28)
def C22:Nat->Option Jn:=B4 [(7,⟨[],lt 66 7 (lt 23 3 []),false⟩),(31,⟨[.t 9 false [.int .i64]],[.t 75,.t 76],true⟩),(255,⟨[.b 1000 [.int .i64,.ro 150 A5,.int .i64,.ro 5 (.int .u8),.int .i64,.own 1005],.r 1005 150 A5],lt 98 11 [],true⟩)]
abbrev B0s:List PK:= [.ptr (.pair (.pair (.int .i64) (.rs 150 A5)) (.pair (.int .i64) (.pair (.rs 5 (.int .u8)) P0)))]
abbrev B0t:List RK:= [.val false (.int .i64)]
def B0u(f:A09):Nat×Fn:=(268,⟨B0s,B0t,fun x=>f x.1⟩)
def C23:Fn:=(B0u O3).2
theorem C24(A66:A5u)(F8:S0)(A1S:A6b)(A1T:A1D)(A9h:A9M):∀ x,(C7 cfg [B9A A66,A5h F8,C1A A1S,B0P A1T,C3b A9h] C22 123 [.tmp 2] (Tryz.f268.body.getD .skip) B0s B0t).fn x=A5G A66 F8 A1S A1T A9h x.1:=by intro x;kernel_rfl
theorem C25:B0 Tryz.prog 268 C23:=sm MO A8 (tc Tryz.call178 D1s (tc Tryz.call288 A9W (tc Tryz.call289 D16 (tc Tryz.call290 C1E (tc Tryz.call291 D81 A6))))) Tryz.func268 (by kernel_rfl) (by decide) (C24 A12 P3 A47 A1E A5U)
def F2m:Nat->Option Jn:=B4 [(3,⟨[],lt 3 21 [],false⟩),(26,⟨[.t 3 false [.int .i64]],lt 4 20 [],false⟩)]
abbrev D9l:List PK:= [.val false .str false]
abbrev D9m:List RK:= [.val false .bool]
def D9n(f:C1f):Nat×Fn:=(127,⟨D9l,D9m,fun x=>f x.1⟩)
def F2n:Fn:=(D9n B29).2
theorem F2o(B5:F5):∀ x,(C7 cfg [A0E B5] F2m 27 [.tmp 2] (Tryz.f127.body.getD .skip) D9l D9m).fn x=C8S B5 x.1:=by intro x;kernel_rfl
theorem F2p:B0 Tryz.prog 127 F2n:=sm MO A8 (tc Tryz.call53 A0n A6) Tryz.func127 (by kernel_rfl) (by decide) (F2o E6)
abbrev D1A:List PK:= [.val false (.int .i64) false]
abbrev D1B:List RK:= [.val false (.int .i64)]
def D1C(f:B3w):Nat×Fn:=(128,⟨D1A,D1B,fun x=>f x.1⟩)
def E5o:Fn:=(D1C B09).2
theorem E5p:∀ x,(C7 cfg [] (B4 []) 9 [.tmp 2] (Tryz.f128.body.getD .skip) D1A D1B).fn x=C06 x.1:=by intro x;kernel_rfl
theorem E5q:B0 Tryz.prog 128 E5o:=sm MO A8 A6 Tryz.func128 (by kernel_rfl) (by decide) (E5p)
abbrev C3c:List PK:= [.val false (.int .i64) false]
abbrev C3d:List RK:= [.val false .str]
def C3e(f:A5V):Nat×Fn:=(130,⟨C3c,C3d,fun x=>f x.1⟩)
def D82:Fn:=(C3e A3C).2
theorem D83:∀ x,(C7 cfg [] (B4 []) 7 [.tmp 2] (Tryz.f130.body.getD .skip) C3c C3d).fn x=C2J x.1:=by intro x;kernel_rfl
theorem D84:B0 Tryz.prog 130 D82:=sm MO A8 A6 Tryz.func130 (by kernel_rfl) (by decide) (D83)
abbrev D1D:List PK:= [.val false (.int .i64) false]
abbrev D1E:List RK:= [.val false .str]
def D1F(f:B40):Nat×Fn:=(131,⟨D1D,D1E,fun x=>f x.1⟩)
def E5r:Fn:=(D1F B0A).2
theorem E5s:∀ x,(C7 cfg [] (B4 []) 10 [.tmp 2] (Tryz.f131.body.getD .skip) D1D D1E).fn x=C07 x.1:=by intro x;kernel_rfl
theorem E5t:B0 Tryz.prog 131 E5r:=sm MO A8 A6 Tryz.func131 (by kernel_rfl) (by decide) (E5s)
def E2T:Nat->Option Jn:=B4 [(58,⟨[.t 5 false [.int .i64],.t 6 false [.int .i64]],lt 7 15 [],false⟩)]
abbrev C7c:List PK:= [.val false (.rs 150 A5) false,.val false .str false]
abbrev C7d:List RK:= [.val false (.int .i64)]
def B8N(f:A2e):Nat×Fn:=(295,⟨C7c,C7d,fun x=>f x.1 x.2.1⟩)
def E2U:Fn:=(B8N S6).2
theorem E2V:∀ x,(C7 cfg [] E2T 23 [.tmp 4] (Tryz.f295.body.getD .skip) C7c C7d).fn x=B7s x.1 x.2.1:=by intro x;kernel_rfl
theorem C7e:B0 Tryz.prog 295 E2U:=sm MO A8 A6 Tryz.func295 (by kernel_rfl) (by decide) (E2V)
def E5u:Nat->Option Jn:=B4 [(7,⟨[],lt 3 56 [],false⟩),(58,⟨[.t 3 false [.bool],.t 4 false [.int .i64]],lt 5 54 [],false⟩),(3731,⟨[],lt 20 11 [.t 6],false⟩),(29850,⟨[.t 6 false [.int .i64]],lt 20 11 [],false⟩)]
abbrev D1G:List PK:= [.val false (.rs 150 A5) false]
abbrev D1H:List RK:= [.val false .bool]
def D1I(f:B41):Nat×Fn:=(292,⟨D1G,D1H,fun x=>f x.1⟩)
def E5v:Fn:=(D1I B0B).2
theorem E5w(B5:F5)(I2:A2e):∀ x,(C7 cfg [A0E B5,B8N I2] E5u 72 [.tmp 2] (Tryz.f292.body.getD .skip) D1G D1H).fn x=C08 B5 I2 x.1:=by intro x;kernel_rfl
theorem E60:B0 Tryz.prog 292 E5v:=sm MO A8 (tc Tryz.call53 A0n (tc Tryz.call295 C7e A6)) Tryz.func292 (by kernel_rfl) (by decide) (E5w E6 S6)
def E2W:Nat->Option Jn:=B4 [(26,⟨[.t 5 false [.int .i64]],lt 6 13 [],false⟩)]
abbrev C7f:List PK:= [.val false (.rs 150 A5) false,.val false .str false]
abbrev C7g:List RK:= [.val false .str]
def C7h(f:A7l):Nat×Fn:=(293,⟨C7f,C7g,fun x=>f x.1 x.2.1⟩)
def E2a:Fn:=(C7h A2f).2
theorem E2b:∀ x,(C7 cfg [] E2W 24 [.tmp 4] (Tryz.f293.body.getD .skip) C7f C7g).fn x=B7t x.1 x.2.1:=by intro x;kernel_rfl
theorem E2c:B0 Tryz.prog 293 E2a:=sm MO A8 A6 Tryz.func293 (by kernel_rfl) (by decide) (E2b)
def D85:Nat->Option Jn:=B4 [(7,⟨[],lt 8 14 [],false⟩),(15,⟨[.t 6 false [.int .i64]],lt 22 20 [.t 7],false⟩),(122,⟨[.t 6 false [.int .i64],.t 7 false [.int .i64]],lt 22 20 [],false⟩)]
abbrev C3f:List PK:= [.val false .str false,.val false (.int .i64) false]
abbrev C3g:List RK:= [.val false (.int .i64),.val false .bool]
def C3h(f:A9N):Nat×Fn:=(294,⟨C3f,C3g,fun x=>f x.1 x.2.1⟩)
def D86:Fn:=(C3h A5W).2
theorem D87(B5:F5):∀ x,(C7 cfg [A0E B5] D85 46 [.tmp 4,.tmp 5] (Tryz.f294.body.getD .skip) C3f C3g).fn x=B5H B5 x.1 x.2.1:=by intro x;kernel_rfl
theorem D88:B0 Tryz.prog 294 D86:=sm MO A8 (tc Tryz.call53 A0n A6) Tryz.func294 (by kernel_rfl) (by decide) (D87 E6)
def F2q:Nat->Option Jn:=B4 [(31,⟨[.b 5 [.int .i64,.str,.int .i64]],lt 17 11 [.t 6],true⟩),(127,⟨[],lt 35 15 (lt 30 4 []),false⟩),(250,⟨[.t 6 false [.int .i64],.b 5 [.int .i64,.str,.int .i64]],lt 17 11 [],false⟩)]
abbrev D9o:List PK:= [.val false (.rs 150 A5) false]
abbrev D9p:List RK:= [.val true B2L,.val false (.int .i64)]
def D9q(f:C1g):Nat×Fn:=(269,⟨D9o,D9p,fun x=>f x.1⟩)
def F2r:Fn:=(D9q B5r).2
theorem F2s(C1p:C1f)(B4l:B3w)(A3L:A5V)(B4m:B40)(B4n:B41)(A1U:A7l)(A9i:A9N)(I2:A2e):∀ x,(C7 cfg [D9n C1p,D1C B4l,C3e A3L,D1F B4m,D1I B4n,C7h A1U,C3h A9i,B8N I2] F2q 81 [.cell 2 36,.tmp 3] (Tryz.f269.body.getD .skip) D9o D9p).fn x=C8T C1p B4l A3L B4m B4n A1U A9i I2 x.1:=by intro x;kernel_rfl
theorem F2t:B0 Tryz.prog 269 F2r:=sm MO A8 (tc Tryz.call127 F2p (tc Tryz.call128 E5q (tc Tryz.call130 D84 (tc Tryz.call131 E5t (tc Tryz.call292 E60 (tc Tryz.call293 E2c (tc Tryz.call294 D88 (tc Tryz.call295 C7e A6)))))))) Tryz.func269 (by kernel_rfl) (by decide) (F2s B29 B09 A3C B0A B0B A2f A5W S6)
def C26:Nat->Option Jn:=B4 [(7,⟨[],lt 13 8 [],false⟩),(14,⟨[.t 20 false [.bool]],lt 13 7 [],true⟩),(31,⟨[.b 29 [.int .i64,.ro 150 A5,.int .i64,.ro 5 (.int .u8),.int .i64,.own 100002000],.r 100002000 150 A5],lt 30 21 [.r 106497,.r 161797,.t 11,.t 25,.t 28],false⟩),(124,⟨[.b 29 [.int .i64,.ro 150 A5,.int .i64,.ro 5 (.int .u8),.int .i64,.own 100002000],.r 100002000 150 A5],lt 30 21 [.r 106497,.r 161797,.t 11,.t 25,.t 28],false⟩),(1989,⟨[.t 11 false [.int .i64]],lt 39 10 [],true⟩)]
abbrev B0v:List PK:= [.val true (.pair (.int .i64) (.rs 150 A5)) false,.val false (.int .i64) false,.val false (.rs 5 (.int .u8)) false]
abbrev B0w:List RK:= [.val false (.sl 150 A5),.val true (.pair (.int .i64) (.rs 150 A5)),.val false (.int .i64)]
def B10(f:A1o):Nat×Fn:=(244,⟨B0v,B0w,fun x=>f x.1 x.2.1 x.2.2.1⟩)
def C27:Fn:=(B10 A0A).2
theorem C28(N3:A2J)(B5:F5)(K3:A2V)(T3:A09):∀ x,(C7 cfg [B4M N3,A0E B5,B8M K3,B0u T3] C26 65 [.tmp 6,.cell 7 32,.tmp 8] (Tryz.f244.body.getD .skip) B0v B0w).fn x=A5H N3 B5 K3 T3 x.1 x.2.1 x.2.2.1:=by intro x;kernel_rfl
theorem C29:B0 Tryz.prog 244 C27:=sm MO A8 (tc Tryz.call51 C12 (tc Tryz.call53 A0n (tc Tryz.call54 C4v (tc Tryz.call268 C25 A6)))) Tryz.func244 (by kernel_rfl) (by decide) (C28 Q8 E6 A1b O3)
abbrev B6Q:List PK:= [.ptr (.pair (.pair (.int .i64) (.pair (.sl 5 (.int .u8)) (.pair O5 (.pair (.pair (.int .i64) (.rs 150 A5)) (.pair P0 (.pair (.sl 113 B7) G4)))))) (.pair (.sl 75 G2) (.sl 5 (.int .u8)))),.val true (.pair (.int .i64) (.pair (.int .i64) (.pair (.int .i64) (.rs 5 (.int .u8))))) false]
abbrev B6R:List RK:= []
def A8t(f:A6W):Nat×Fn:=(199,⟨B6Q,B6R,fun x=>f x.1 x.2.1⟩)
def C9H:Fn:=(A8t A45).2
theorem C9I(B21:B1V):∀ x,(C7 cfg [C7b B21] (B4 []) 14 [] (Tryz.f199.body.getD .skip) B6Q B6R).fn x=C00 B21 x.1 x.2.1:=by intro x;kernel_rfl
theorem B6S:B0 Tryz.prog 199 C9H:=sm MO A8 (tc Tryz.call59 E2S A6) Tryz.func199 (by kernel_rfl) (by decide) (C9I A7e)
abbrev B6T:List PK:= [.ptr (.pair (.pair (.int .i64) (.pair (.sl 5 (.int .u8)) (.pair O5 (.pair (.pair (.int .i64) (.rs 150 A5)) (.pair P0 (.pair (.sl 113 B7) G4)))))) (.pair (.sl 75 G2) (.sl 5 (.int .u8)))),.val false (.int .i64) false]
abbrev B6U:List RK:= []
def N6(f:J1):Nat×Fn:=(169,⟨B6T,B6U,fun x=>f x.1 x.2.1⟩)
def C9J:Fn:=(N6 H9).2
theorem C9K(A0e:A6W)(A9g:A9I):∀ x,(C7 cfg [A8t A0e,C3N A9g] (B4 []) 34 [] (Tryz.f169.body.getD .skip) B6T B6U).fn x=C01 A0e A9g x.1 x.2.1:=by intro x;kernel_rfl
theorem R2:B0 Tryz.prog 169 C9J:=sm MO A8 (tc Tryz.call199 B6S (tc Tryz.call200 D7k A6)) Tryz.func169 (by kernel_rfl) (by decide) (C9K A45 A9J)
abbrev B4N:List PK:= [.ptr (.pair (.pair (.int .i64) (.pair (.sl 5 (.int .u8)) (.pair O5 (.pair (.pair (.int .i64) (.rs 150 A5)) (.pair P0 (.pair (.sl 113 B7) G4)))))) (.pair (.sl 75 G2) (.sl 5 (.int .u8)))),.val false (.int .i64) false]
abbrev B4O:List RK:= []
def A88(f:A4W):Nat×Fn:=(247,⟨B4N,B4O,fun x=>f x.1 x.2.1⟩)
def C7i:Fn:=(A88 A2a).2
theorem C7j:∀ x,(C7 cfg [] (B4 []) 34 [] (Tryz.f247.body.getD .skip) B4N B4O).fn x=B7p x.1 x.2.1:=by intro x;kernel_rfl
theorem B4P:B0 Tryz.prog 247 C7i:=sm MO A8 A6 Tryz.func247 (by kernel_rfl) (by decide) (C7j)
def C52:Nat->Option Jn:=B4 [(1,⟨[],lt 26 8 (lt 11 13 []),false⟩),(4,⟨[.t 11 false [.bool]],lt 12 12 [],true⟩),(63,⟨[.b 10 [.int .i64,.int .i64,.int .i64,.str,.int .i64,.nil]],[.t 63,.t 64],true⟩)]
abbrev B3E:List PK:= [.ptr (.pair (.pair (.int .i64) (.pair (.sl 5 (.int .u8)) (.pair O5 (.pair (.pair (.int .i64) (.rs 150 A5)) (.pair P0 (.pair (.sl 113 B7) G4)))))) (.pair (.sl 75 G2) (.sl 5 (.int .u8)))),.val false (.int .i64) false,.val false .bool false,.val false (.rs 150 A5) false]
abbrev B3F:List RK:= []
def B3G(f:A9O):Nat×Fn:=(245,⟨B3E,B3F,fun x=>f x.1 x.2.1 x.2.2.1 x.2.2.2.1⟩)
def C53:Fn:=(B3G A5a).2
theorem C54(C0:J1)(A0T:A4W)(C1q:C1g):∀ x,(C7 cfg [N6 C0,A88 A0T,D9q C1q] C52 86 [] (Tryz.f245.body.getD .skip) B3E B3F).fn x=B5I C0 A0T C1q x.1 x.2.1 x.2.2.1 x.2.2.2.1:=by intro x;kernel_rfl
theorem C55:B0 Tryz.prog 245 C53:=sm MO A8 (tc Tryz.call169 R2 (tc Tryz.call247 B4P (tc Tryz.call269 F2t A6))) Tryz.func245 (by kernel_rfl) (by decide) (C54 H9 A2a B5r)
abbrev B4Q:List PK:= [.ptr (.pair (.pair (.int .i64) (.pair (.sl 5 (.int .u8)) (.pair O5 (.pair (.pair (.int .i64) (.rs 150 A5)) (.pair P0 (.pair (.sl 113 B7) G4)))))) (.pair (.sl 75 G2) (.sl 5 (.int .u8)))),.val false (.int .i64) false,.val false (.int .i64) false]
abbrev B4R:List RK:= []
def A89(f:A4a):Nat×Fn:=(225,⟨B4Q,B4R,fun x=>f x.1 x.2.1 x.2.2.1⟩)
def C7k:Fn:=(A89 A2b).2
theorem C7l(C0:J1)(A8H:A7f)(A0T:A4W):∀ x,(C7 cfg [N6 C0,C16 A8H,A88 A0T] (B4 []) 56 [] (Tryz.f225.body.getD .skip) B4Q B4R).fn x=B7q C0 A8H A0T x.1 x.2.1 x.2.2.1:=by intro x;kernel_rfl
theorem B4S:B0 Tryz.prog 225 C7k:=sm MO A8 (tc Tryz.call169 R2 (tc Tryz.call246 D6L (tc Tryz.call247 B4P A6))) Tryz.func225 (by kernel_rfl) (by decide) (C7l H9 A46 A2a)
abbrev B4T:List PK:= [.ptr (.pair (.pair (.int .i64) (.pair (.sl 5 (.int .u8)) (.pair O5 (.pair (.pair (.int .i64) (.rs 150 A5)) (.pair P0 (.pair (.sl 113 B7) G4)))))) (.pair (.sl 75 G2) (.sl 5 (.int .u8)))),.val false (.int .i64) false,.val false .bool false,.val false (.rs 5 (.int .u8)) false]
abbrev B4U:List RK:= []
def B4V(f:A3U):Nat×Fn:=(223,⟨B4T,B4U,fun x=>f x.1 x.2.1 x.2.2.1 x.2.2.2.1⟩)
def C7m:Fn:=(B4V A1F).2
theorem C7n(W9:A6a)(C0:J1)(T1:A4a)(A1t:A1o)(A9j:A9O):∀ x,(C7 cfg [C1l W9,N6 C0,A89 T1,B10 A1t,B3G A9j] (B4 []) 51 [] (Tryz.f223.body.getD .skip) B4T B4U).fn x=A7m W9 C0 T1 A1t A9j x.1 x.2.1 x.2.2.1 x.2.2.2.1:=by intro x;kernel_rfl
theorem C7o:B0 Tryz.prog 223 C7m:=sm MO A8 (tc Tryz.call77 C9C (tc Tryz.call169 R2 (tc Tryz.call225 B4S (tc Tryz.call244 C29 (tc Tryz.call245 C55 A6))))) Tryz.func223 (by kernel_rfl) (by decide) (C7n A3B H9 A2b A0A A5a)
abbrev C7p:List PK:= [.val false (.rs 5 (.int .u8)) false]
abbrev C7q:List RK:= [.val false (.int .i64),.val false .bool]
def C7r(f:B1a):Nat×Fn:=(226,⟨C7p,C7q,fun x=>f x.1⟩)
def E2d:Fn:=(C7r A7n).2
theorem E2e(A1i:A8i):∀ x,(C7 cfg [C4u A1i] (B4 []) 25 [.tmp 2,.tmp 3] (Tryz.f226.body.getD .skip) C7p C7q).fn x=B7u A1i x.1:=by intro x;kernel_rfl
theorem E2f:B0 Tryz.prog 226 E2d:=sm MO A8 (tc Tryz.call171 D5s A6) Tryz.func226 (by kernel_rfl) (by decide) (E2e A44)
def C9L:Nat->Option Jn:=B4 [(7,⟨[.t 4 false [.bool]],lt 14 7 [],true⟩),(126,⟨[.t 44 false [.bool]],[.t 45,.t 46],true⟩)]
abbrev B6V:List PK:= [.ptr (.pair (.pair (.int .i64) (.pair (.sl 5 (.int .u8)) (.pair O5 (.pair (.pair (.int .i64) (.rs 150 A5)) (.pair P0 (.pair (.sl 113 B7) G4)))))) (.pair (.sl 75 G2) (.sl 5 (.int .u8)))),.val true (.pair (.int .i64) (.pair (.int .i64) (.pair (.int .i64) (.rs 5 (.int .u8))))) false]
abbrev B6W:List RK:= []
def B6a(f:A4c):Nat×Fn:=(202,⟨B6V,B6W,fun x=>f x.1 x.2.1⟩)
def C9M:Fn:=(B6a A29).2
theorem C9N(C0:J1)(C86:C5i)(A3i:A3U):∀ x,(C7 cfg [N6 C0,E5a C86,B4V A3i] C9L 60 [] (Tryz.f202.body.getD .skip) B6V B6W).fn x=A8n C0 C86 A3i x.1 x.2.1:=by intro x;kernel_rfl
theorem C9O:B0 Tryz.prog 202 C9M:=sm MO A8 (tc Tryz.call169 R2 (tc Tryz.call222 F5u (tc Tryz.call223 C7o A6))) Tryz.func202 (by kernel_rfl) (by decide) (C9N H9 C02 A1F)
end
end Go.Proofs.YthnfghmjipikhaaGreatDoor.Ev
