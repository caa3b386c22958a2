/- Each function of the program does what its plain function says. -/
import Derived.Test.YthnfghmjipikhaaGreatDoorG1
set_option linter.unusedVariables false
set_option maxRecDepth 100000
namespace Go.Proofs.YthnfghmjipikhaaGreatDoor.Ev
noncomputable section
def E8A:Nat->Option Jn:=B4 [(63,⟨[.t 8 false [.own 100000001],.r 100000001 5 (.int .u8)],lt 71 8 (lt 28 41 (lt 11 4 [.b 9,.r 75,.r 76,.r 100001000])),false⟩),(506,⟨[.t 8 false [.own 100000001],.t 30 false [.int .i64],.b 9 [.int .i64,.int .i64],.r 100000001 5 (.int .u8)],lt 71 8 (lt 31 38 (lt 11 4 [.r 75,.r 76,.r 100001000])),false⟩),(129638,⟨[.t 8 false [.own 100001000],.t 12 false [.int .i64],.b 9 [.int .i64,.int .i64],.r 100001000 5 (.int .u8)],lt 71 7 (lt 34 35 [.r 75,.r 76,.r 100000001,.t 13,.t 14]),false⟩),(16593703,⟨[],lt 59 10 [],false⟩)]
abbrev E8B:List PK:= [.val false (.pa 257 G4) false,.val false (.rs 5 (.int .u8)) false]
abbrev E8C:List RK:= [.val false .str]
def D5J(f:B7Q):Nat×Fn:=(265,⟨E8B,E8C,fun x=>f x.1 x.2.1⟩)
def E8D:Fn:=(D5J B2h).2
theorem E8E:∀ x,F86 E8A x=C4F x.1 x.2.1:=by intro x;kernel_rfl
theorem E8F:B0 Tryz.prog 265 E8D:=F5S E8E
abbrev C33:List PK:= [.val false (.rs 5 (.int .u8)) false,.val false (.rs 5 (.int .u8)) false]
abbrev C34:List RK:= [.val false .bool]
def C35(f:A96):Nat×Fn:=(266,⟨C33,C34,fun x=>f x.1 x.2.1⟩)
def D7K:Fn:=(C35 A97).2
theorem D7L:∀ x,(C7 cfg [] (B4 []) 10 [.tmp 4] (Tryz.f266.body.getD .skip) C33 C34).fn x=B58 x.1 x.2.1:=by intro x;kernel_rfl
theorem D7M:B0 Tryz.prog 266 D7K:=sm MO A8 A6 Tryz.func266 (by kernel_rfl) (by decide) (D7L)
abbrev D5K:List PK:= [.val false (.rs 5 (.int .u8)) false]
abbrev D5L:List RK:= [.val false .str,.val false .bool]
def D5M(f:B7R):Nat×Fn:=(242,⟨D5K,D5L,fun x=>f x.1⟩)
def E8G:Fn:=(D5M B2i).2
theorem E8H(B4h:B3o)(C82:C5d)(B8U:B7Q)(A9b:A96):∀ x,(C7 cfg [D0g B4h,E54 C82,D5J B8U,C35 A9b] (B4 []) 17 [.tmp 2,.tmp 3] (Tryz.f242.body.getD .skip) D5K D5L).fn x=C4G B4h C82 B8U A9b x.1:=by intro x;kernel_rfl
theorem E8I:B0 Tryz.prog 242 E8G:=sm MO A8 (tc Tryz.call210 E51 (tc Tryz.call212 F5d (tc Tryz.call265 E8F (tc Tryz.call266 D7M A6)))) Tryz.func242 (by kernel_rfl) (by decide) (E8H B03 B9p B2h A97)
def D7N:Nat->Option Jn:=B4 [(7,⟨[],lt 19 14 [],false⟩)]
abbrev C36:List PK:= [.val false (.rs 5 (.int .u8)) false,.val false (.int .i64) false]
abbrev C37:List RK:= [.val false .str,.val false (.int .i64),.val false .bool]
def C38(f:A98):Nat×Fn:=(218,⟨C36,C37,fun x=>f x.1 x.2.1⟩)
def D7O:Fn:=(C38 A5P).2
theorem D7P(V5:A38)(B8V:B7R):∀ x,(C7 cfg [B5P V5,D5M B8V] D7N 65 [.tmp 4,.tmp 5,.tmp 6] (Tryz.f218.body.getD .skip) C36 C37).fn x=B59 V5 B8V x.1 x.2.1:=by intro x;kernel_rfl
theorem D7Q:B0 Tryz.prog 218 D7O:=sm MO A8 (tc Tryz.call192 C32 (tc Tryz.call242 E8I A6)) Tryz.func218 (by kernel_rfl) (by decide) (D7P A1a B2i)
def D5N:Nat->Option Jn:=B4 [(14,⟨[.t 2 false [.int .i64],.t 14 false [.int .i64]],lt 15 10 [.b 4,.t 3,.t 4,.t 35,.x 17],false⟩)]
abbrev C0p:List PK:= [.ptr P0]
abbrev C0q:List RK:= []
def B34(f:A21):Nat×Fn:=(195,⟨C0p,C0q,fun x=>f x.1⟩)
def D5O:Fn:=(B34 P1).2
theorem D5P(C5:E2)(U9:A3s):∀ x,(C7 cfg [O4 C5,C4m U9] D5N 36 [] (Tryz.f195.body.getD .skip) C0p C0q).fn x=B2j C5 U9 x.1:=by intro x;kernel_rfl
theorem C0r:B0 Tryz.prog 195 D5O:=sm MO A8 (tc Tryz.call139 A0D (tc Tryz.call179 D4v A6)) Tryz.func195 (by kernel_rfl) (by decide) (D5P D8 A3t)
abbrev C39:List PK:= [.ptr P0,.val true A5 false]
abbrev C3A:List RK:= []
def C3B(f:A99):Nat×Fn:=(161,⟨C39,C3A,fun x=>f x.1 x.2.1⟩)
def D7R:Fn:=(C3B V2).2
theorem D7S(I7:I6)(S9:A21):∀ x,(C7 cfg [W7 I7,B34 S9] (B4 []) 16 [] (Tryz.f161.body.getD .skip) C39 C3A).fn x=A9A I7 S9 x.1 x.2.1:=by intro x;kernel_rfl
theorem D7T:B0 Tryz.prog 161 D7R:=sm MO A8 (tc Tryz.call194 A4k (tc Tryz.call195 C0r A6)) Tryz.func161 (by kernel_rfl) (by decide) (D7S F9 P1)
def E8J:Nat->Option Jn:=B4 [(7,⟨[],lt 8 8 [],false⟩)]
abbrev D5Q:List PK:= [.val true (.pair (.int .i64) (.rs 150 A5)) false,.val false (.int .i64) false]
abbrev D5R:List RK:= [.val true P0]
def D5S(f:B7S):Nat×Fn:=(196,⟨D5Q,D5R,fun x=>f x.1 x.2.1⟩)
def E8K:Fn:=(D5S B2k).2
theorem E8L(B1:E3)(N2:A2H)(G8:A0b)(S9:A21):∀ x,(C7 cfg [O6 B1,B4C N2,A9V G8,B34 S9] E8J 21 [.cell 4 32] (Tryz.f196.body.getD .skip) D5Q D5R).fn x=C4H B1 N2 G8 S9 x.1 x.2.1:=by intro x;kernel_rfl
theorem E8M:B0 Tryz.prog 196 E8K:=sm MO A8 (tc Tryz.call61 R1 (tc Tryz.call63 C0i (tc Tryz.call64 B5N (tc Tryz.call195 C0r A6)))) Tryz.func196 (by kernel_rfl) (by decide) (E8L E4 A0a V1 P1)
abbrev A53:List PK:= [.ptr (.pair (.rs 5 (.int .u8)) (.pair (.int .i64) (.pair (.int .i64) (.pair P0 (.sl 150 A5))))),.val false (.int .i64) false]
abbrev A54:List RK:= []
def J9(f:F3):Nat×Fn:=(163,⟨A53,A54,fun x=>f x.1 x.2.1⟩)
def B3L:Fn:=(J9 D5).2
theorem B3M:∀ x,(C7 cfg [] (B4 []) 13 [] (Tryz.f163.body.getD .skip) A53 A54).fn x=M9 x.1 x.2.1:=by intro x;kernel_rfl
theorem O1:B0 Tryz.prog 163 B3L:=sm MO A8 A6 Tryz.func163 (by kernel_rfl) (by decide) (B3M)
abbrev A3b:List PK:= [.ptr (.pair (.rs 5 (.int .u8)) (.pair (.int .i64) (.pair (.int .i64) (.pair P0 (.sl 150 A5))))),.val false (.int .i64) false]
abbrev A3c:List RK:= [.val false (.int .i64)]
def R7(f:H7):Nat×Fn:=(159,⟨A3b,A3c,fun x=>f x.1 x.2.1⟩)
def B1e:Fn:=(R7 G5).2
theorem B1f(B9:F3)(V5:A38):∀ x,(C7 cfg [J9 B9,B5P V5] (B4 []) 31 [.tmp 4] (Tryz.f159.body.getD .skip) A3b A3c).fn x=A2Q B9 V5 x.1 x.2.1:=by intro x;kernel_rfl
theorem A0M:B0 Tryz.prog 159 B1e:=sm MO A8 (tc Tryz.call163 O1 (tc Tryz.call192 C32 A6)) Tryz.func159 (by kernel_rfl) (by decide) (B1f D5 A1a)
abbrev A4B:List PK:= [.ptr (.pair (.rs 5 (.int .u8)) (.pair (.int .i64) (.pair (.int .i64) (.pair P0 (.sl 150 A5))))),.val false (.int .i64) false]
abbrev A4C:List RK:= [.val true A5]
def A0m(f:O9):Nat×Fn:=(158,⟨A4B,A4C,fun x=>f x.1 x.2.1⟩)
def B35:Fn:=(A0m H1).2
theorem B36(B9:F3)(B4g:B3n):∀ x,(C7 cfg [J9 B9,D0d B4g] (B4 []) 21 [.cell 4 150] (Tryz.f158.body.getD .skip) A4B A4C).fn x=A3N B9 B4g x.1 x.2.1:=by intro x;kernel_rfl
theorem A4D:B0 Tryz.prog 158 B35:=sm MO A8 (tc Tryz.call163 O1 (tc Tryz.call191 E4u A6)) Tryz.func158 (by kernel_rfl) (by decide) (B36 D5 B02)
abbrev A55:List PK:= [.ptr (.pair (.rs 5 (.int .u8)) (.pair (.int .i64) (.pair (.int .i64) (.pair P0 (.sl 150 A5)))))]
abbrev A56:List RK:= [.val false .str]
def A57(f:A17):Nat×Fn:=(193,⟨A55,A56,fun x=>f x.1⟩)
def B3N:Fn:=(A57 N0).2
theorem B3O(B9:F3)(A9c:A98):∀ x,(C7 cfg [J9 B9,C38 A9c] (B4 []) 35 [.tmp 2] (Tryz.f193.body.getD .skip) A55 A56).fn x=A18 B9 A9c x.1:=by intro x;kernel_rfl
theorem B3P:B0 Tryz.prog 193 B3N:=sm MO A8 (tc Tryz.call163 O1 (tc Tryz.call218 D7Q A6)) Tryz.func193 (by kernel_rfl) (by decide) (B3O D5 A5P)
def B0g:Nat->Option Jn:=B4 [(15,⟨[.b 6 [.str,.str],.b 1000 [.ro 5 (.int .u8),.int .i64,.int .i64,.int .i64,.own 100000000,.own 100000001],.r 100000000 150 A5,.r 100000001 150 A5],lt 22 6 (lt 10 11 [.r 43012,.r 43013,.r 55300,.r 55301,.r 112644,.r 112645]),false⟩)]
abbrev A2t:List PK:= [.ptr (.pair (.rs 5 (.int .u8)) (.pair (.int .i64) (.pair (.int .i64) (.pair P0 (.sl 150 A5))))),.val false (.int .i64) false]
abbrev A2u:List RK:= [.val true A5]
def A2v(f:P5):Nat×Fn:=(160,⟨A2t,A2u,fun x=>f x.1 x.2.1⟩)
def B0h:Fn:=(A2v K7).2
theorem B0i(H2:O9)(D9:H7)(W3:A17):∀ x,(C7 cfg [A0m H2,R7 D9,A57 W3] B0g 32 [.cell 4 150] (Tryz.f160.body.getD .skip) A2t A2u).fn x=A02 H2 D9 W3 x.1 x.2.1:=by intro x;kernel_rfl
theorem B0j:B0 Tryz.prog 160 B0h:=sm MO A8 (tc Tryz.call158 A4D (tc Tryz.call159 A0M (tc Tryz.call193 B3P A6))) Tryz.func160 (by kernel_rfl) (by decide) (B0i H1 G5 N0)
def B1g:Nat->Option Jn:=B4 [(3,⟨[.b 1000 [.ro 5 (.int .u8),.int .i64,.int .i64,.int .i64,.own 100000000,.own 100000001],.r 100000000 150 A5,.r 100000001 150 A5],lt 7 13 [.r 30724,.r 30725,.r 83972,.r 83973],true⟩)]
abbrev A3d:List PK:= [.ptr (.pair (.rs 5 (.int .u8)) (.pair (.int .i64) (.pair (.int .i64) (.pair P0 (.sl 150 A5))))),.val false (.int .i64) false]
abbrev A3e:List RK:= []
def A3f(f:R3):Nat×Fn:=(162,⟨A3d,A3e,fun x=>f x.1 x.2.1⟩)
def B1h:Fn:=(A3f R4).2
theorem B1i(D9:H7)(B9:F3)(B8W:B7S):∀ x,(C7 cfg [R7 D9,J9 B9,D5S B8W] B1g 34 [] (Tryz.f162.body.getD .skip) A3d A3e).fn x=A0I D9 B9 B8W x.1 x.2.1:=by intro x;kernel_rfl
theorem B1j:B0 Tryz.prog 162 B1h:=sm MO A8 (tc Tryz.call159 A0M (tc Tryz.call163 O1 (tc Tryz.call196 E8M A6))) Tryz.func162 (by kernel_rfl) (by decide) (B1i G5 D5 B2k)
def B3Q:Nat->Option Jn:=B4 [(7,⟨[.b 5 [.str,.str],.b 1000 [.ro 5 (.int .u8),.int .i64,.int .i64,.int .i64,.own 100000000,.own 100000001],.r 100000000 150 A5,.r 100000001 150 A5],lt 16 27 [.r 1004,.r 1005,.r 75780,.r 75781,.r 100356,.r 100357,.r 104452,.r 104453,.r 124932,.r 124933,.r 165889],false⟩)]
abbrev A58:List PK:= [.ptr (.pair (.rs 5 (.int .u8)) (.pair (.int .i64) (.pair (.int .i64) (.pair P0 (.sl 150 A5))))),.val false (.int .i64) false]
abbrev A59:List RK:= []
def A5A(f:N9):Nat×Fn:=(110,⟨A58,A59,fun x=>f x.1 x.2.1⟩)
def B3R:Fn:=(A5A H6).2
theorem B3S(H2:O9)(D9:H7)(L0:P5)(A9d:A99)(R8:R3)(B9:F3):∀ x,(C7 cfg [A0m H2,R7 D9,A2v L0,C3B A9d,A3f R8,J9 B9] B3Q 64 [] (Tryz.f110.body.getD .skip) A58 A59).fn x=A0u H2 D9 L0 A9d R8 B9 x.1 x.2.1:=by intro x;kernel_rfl
theorem B3T:B0 Tryz.prog 110 B3R:=sm MO A8 (tc Tryz.call158 A4D (tc Tryz.call159 A0M (tc Tryz.call160 B0j (tc Tryz.call161 D7T (tc Tryz.call162 B1j (tc Tryz.call163 O1 A6)))))) Tryz.func110 (by kernel_rfl) (by decide) (B3S H1 G5 K7 V2 R4 D5)
def D7U:Nat->Option Jn:=B4 [(3,⟨[],lt 10 8 [],false⟩),(6,⟨[.t 17 false [.bool]],lt 10 7 [],true⟩),(15,⟨[.b 9 [.ro 5 (.int .u8),.int .i64,.int .i64,.int .i64,.own 100002000,.own 100002001],.r 100002000 150 A5,.r 100002001 150 A5],lt 24 12 [.r 94209,.r 149508,.r 149509],true⟩),(60,⟨[.b 9 [.ro 5 (.int .u8),.int .i64,.int .i64,.int .i64,.own 100002000,.own 100002001],.r 100002000 150 A5,.r 100002001 150 A5],lt 24 12 [.r 94209,.r 149508,.r 149509],false⟩)]
abbrev C3C:List PK:= [.val true (.pair (.int .i64) (.rs 150 A5)) false,.val false (.int .i64) false,.val false (.rs 5 (.int .u8)) false]
abbrev C3D:List RK:= [.val false (.sl 150 A5),.val true P0,.val false (.int .i64)]
def C3E(f:A9B):Nat×Fn:=(39,⟨C3C,C3D,fun x=>f x.1 x.2.1 x.2.2.1⟩)
def D7V:Fn:=(C3E A5Q).2
theorem D7W(B1:E3)(N2:A2H)(G8:A0b)(K0:N9):∀ x,(C7 cfg [O6 B1,B4C N2,A9V G8,A5A K0] D7U 47 [.tmp 6,.cell 7 32,.tmp 8] (Tryz.f39.body.getD .skip) C3C C3D).fn x=B5A B1 N2 G8 K0 x.1 x.2.1 x.2.2.1:=by intro x;kernel_rfl
theorem D7a:B0 Tryz.prog 39 D7V:=sm MO A8 (tc Tryz.call61 R1 (tc Tryz.call63 C0i (tc Tryz.call64 B5N (tc Tryz.call110 B3T A6)))) Tryz.func39 (by kernel_rfl) (by decide) (D7W E4 A0a V1 H6)
def E1v:Nat->Option Jn:=B4 [(7,⟨[.t 6 false [.int .i64]],lt 7 21 [.x 20],true⟩),(28,⟨[.t 6 false [.int .i64]],lt 7 21 [.x 20],false⟩)]
abbrev C6s:List PK:= [.ptr B5i,.val false (.int .i64) false]
abbrev C6t:List RK:= [.val false (.int .i64),.val false .bool]
def B1k(f:A19):Nat×Fn:=(83,⟨C6s,C6t,fun x=>f x.1 x.2.1⟩)
def E1w:Fn:=(B1k S1).2
theorem E20:∀ x,(C7 cfg [] E1v 48 [.tmp 4,.tmp 5] (Tryz.f83.body.getD .skip) C6s C6t).fn x=B7T x.1 x.2.1:=by intro x;kernel_rfl
theorem B8A:B0 Tryz.prog 83 E1w:=sm MO A8 A6 Tryz.func83 (by kernel_rfl) (by decide) (E20)
def E21:Nat->Option Jn:=B4 [(26,⟨[.t 5 false [.bool]],[.t 6,.t 7],true⟩)]
abbrev C6u:List PK:= [.val false (.int .i64) false]
abbrev C6v:List RK:= [.val false (.int .i64),.val false (.int .i64)]
def C6w(f:B1R):Nat×Fn:=(261,⟨C6u,C6v,fun x=>f x.1⟩)
def E22:Fn:=(C6w A7P).2
theorem E23:∀ x,(C7 cfg [] E21 12 [.tmp 2,.tmp 3] (Tryz.f261.body.getD .skip) C6u C6v).fn x=B7U x.1:=by intro x;kernel_rfl
theorem E24:B0 Tryz.prog 261 E22:=sm MO A8 A6 Tryz.func261 (by kernel_rfl) (by decide) (E23)
def E25:Nat->Option Jn:=B4 [(26,⟨[.t 5 false [.bool]],[.t 6,.t 7],true⟩),(107,⟨[.t 8 false [.bool]],[.t 9,.t 10],true⟩),(431,⟨[.t 11 false [.bool]],[.t 12,.t 13],true⟩)]
abbrev C70:List PK:= [.val false (.int .i64) false]
abbrev C71:List RK:= [.val false (.int .i64),.val false (.int .i64)]
def C72(f:B1S):Nat×Fn:=(262,⟨C70,C71,fun x=>f x.1⟩)
def E26:Fn:=(C72 A7Q).2
theorem E27:∀ x,(C7 cfg [] E25 16 [.tmp 2,.tmp 3] (Tryz.f262.body.getD .skip) C70 C71).fn x=B7V x.1:=by intro x;kernel_rfl
theorem E28:B0 Tryz.prog 262 E26:=sm MO A8 A6 Tryz.func262 (by kernel_rfl) (by decide) (E27)
def C73:Nat->Option Jn:=B4 [(26,⟨[.t 5 false [.bool]],lt 6 4 [],true⟩)]
abbrev B4D:List PK:= [.val false (.int .i64) false]
abbrev B4E:List RK:= [.val false (.int .i64),.val false (.int .i64)]
def B4F(f:A3Q):Nat×Fn:=(263,⟨B4D,B4E,fun x=>f x.1⟩)
def C74:Fn:=(B4F A1A).2
theorem C75:∀ x,(C7 cfg [] C73 13 [.tmp 2,.tmp 3] (Tryz.f263.body.getD .skip) B4D B4E).fn x=A7R x.1:=by intro x;kernel_rfl
theorem C76:B0 Tryz.prog 263 C74:=sm MO A8 A6 Tryz.func263 (by kernel_rfl) (by decide) (C75)
def C8q:Nat->Option Jn:=B4 [(26,⟨[.t 5 false [.bool]],lt 6 4 [],true⟩)]
abbrev B68:List PK:= [.val false (.int .i64) false]
abbrev B69:List RK:= [.val false (.int .i64),.val false (.int .i64)]
def B6A(f:A4M):Nat×Fn:=(264,⟨B68,B69,fun x=>f x.1⟩)
def C8r:Fn:=(B6A A22).2
theorem C8s:∀ x,(C7 cfg [] C8q 14 [.tmp 2,.tmp 3] (Tryz.f264.body.getD .skip) B68 B69).fn x=A8c x.1:=by intro x;kernel_rfl
theorem C8t:B0 Tryz.prog 264 C8r:=sm MO A8 A6 Tryz.func264 (by kernel_rfl) (by decide) (C8s)
abbrev C0s:List PK:= [.val false (.int .i64) false,.val false (.int .i64) false]
abbrev C0t:List RK:= [.val false (.int .i64),.val false (.int .i64)]
def B37(f:A23):Nat×Fn:=(240,⟨C0s,C0t,fun x=>f x.1 x.2.1⟩)
def D5T:Fn:=(B37 N1).2
theorem D5U(B1:E3)(B1t:B1R)(B1u:B1S)(A3g:A3Q)(A4o:A4M):∀ x,(C7 cfg [O6 B1,C6w B1t,C72 B1u,B4F A3g,B6A A4o] (B4 []) 40 [.tmp 4,.tmp 5] (Tryz.f240.body.getD .skip) C0s C0t).fn x=A7S B1 B1t B1u A3g A4o x.1 x.2.1:=by intro x;kernel_rfl
theorem C0u:B0 Tryz.prog 240 D5T:=sm MO A8 (tc Tryz.call61 R1 (tc Tryz.call261 E24 (tc Tryz.call262 E28 (tc Tryz.call263 C76 (tc Tryz.call264 C8t A6))))) Tryz.func240 (by kernel_rfl) (by decide) (D5U E4 A7P A7Q A1A A22)
abbrev B6B:List PK:= [.ptr A0s,.val true (.pair (.int .i64) (.pair (.int .i64) (.pair B2L (.rs 5 (.int .u8))))) false]
abbrev B6C:List RK:= []
def B6D(f:A4N):Nat×Fn:=(241,⟨B6B,B6C,fun x=>f x.1 x.2.1⟩)
def C8u:Fn:=(B6D A24).2
theorem C8v(A7:C4):∀ x,(C7 cfg [G7 A7] (B4 []) 24 [] (Tryz.f241.body.getD .skip) B6B B6C).fn x=A8d A7 x.1 x.2.1:=by intro x;kernel_rfl
theorem C8w:B0 Tryz.prog 241 C8u:=sm MO A8 (tc Tryz.call144 I4 A6) Tryz.func241 (by kernel_rfl) (by decide) (C8v B8)
abbrev B8B:List PK:= [.ptr A0s,.val true (.pair (.int .i64) (.pair (.int .i64) B2L)) false,.val false (.int .i64) false]
abbrev A7u:List RK:= []
def A7v(f:A0J):Nat×Fn:=(241,⟨B8B,A7u,fun x=>f x.1 x.2.1 x.2.2.1⟩)
def B8C:Fn:=(A7v S2).2
theorem B8D(A7:C4):∀ x,F7F cfg [G7 A7] (B4 []) 24 [] (Tryz.f241.body.getD .skip) A0s (.pair (.int .i64) (.pair (.int .i64) B2L)) (kr:=B7) 9 5 (fun x0=>x0.1.2.2.2.2.2.1) A7u x=A2R A7 x.1 x.2.1 x.2.2.1:=by intro x;kernel_rfl
theorem B8E:C45 Tryz.prog ⟨241,B8C,9,6,5⟩:=F8H MO A8 (tc Tryz.call144 I4 A6) Tryz.func241 (by kernel_rfl) (lq:=9) (off:=5) (by decide) (by decide) (fun x0=>rfl) (fun x0=>rfl) (fun x1=>rfl) (B8D B8)
abbrev B38:List PK:= [.ptr A0s,.val false (.int .i64) false,.val false (.int .i64) false]
abbrev B39:List RK:= [.val false (.int .i64)]
def A6M(f:U6):Nat×Fn:=(216,⟨B38,B39,fun x=>f x.1 x.2.1 x.2.2.1⟩)
def C4o:Fn:=(A6M Q2).2
theorem C4p(T0:A23)(A0O:A0J):∀ x,(F4M cfg [B37 T0] ⟨241,(A7v A0O).2,9,6,5⟩ (B4 []) 40 [.tmp 6] (Tryz.f216.body.getD .skip) B38 B39).fn x=A6B T0 A0O x.1 x.2.1 x.2.2.1:=by intro x;kernel_rfl
theorem B3A:B0 Tryz.prog 216 C4o:=smA MO A8 (tc Tryz.call240 C0u A6) B8E Tryz.call241 Tryz.func216 (by kernel_rfl) (by decide) (C4p N1 S2)
abbrev D5V:List PK:= [.val false .bool false]
abbrev D5W:List RK:= [.val false (.int .i64)]
def D5a(f:B7W):Nat×Fn:=(238,⟨D5V,D5W,fun x=>f x.1⟩)
def E8N:Fn:=(D5a B2l).2
theorem E8O:∀ x,(C7 cfg [] (B4 []) 4 [.tmp 2] (Tryz.f238.body.getD .skip) D5V D5W).fn x=D3B x.1:=by intro x;kernel_rfl
theorem E8P:B0 Tryz.prog 238 E8N:=sm MO A8 A6 Tryz.func238 (by kernel_rfl) (by decide) (E8O)
abbrev B8t:List PK:= [.val false (.int .i64) false]
abbrev B8u:List RK:= [.val false .str,.val false (.int .i64)]
def B8v(f:A5r):Nat×Fn:=(136,⟨B8t,B8u,fun x=>f x.1⟩)
def D1d:Fn:=(B8v A2n).2
theorem D1e:∀ x,(C7 cfg [] (B4 []) 11 [.tmp 2,.tmp 3] (Tryz.f136.body.getD .skip) B8t B8u).fn x=B0V x.1:=by intro x;kernel_rfl
theorem D1f:B0 Tryz.prog 136 D1d:=sm MO A8 A6 Tryz.func136 (by kernel_rfl) (by decide) (D1e)
def F5e:Nat->Option Jn:=B4 [(3,⟨[],lt 3 30 [],false⟩),(26,⟨[.t 3 false [.int .i64]],lt 4 29 [],false⟩)]
abbrev E55:List PK:= [.val false .str false]
abbrev E56:List RK:= [.val false .bool]
def E57(f:C5e):Nat×Fn:=(137,⟨E55,E56,fun x=>f x.1⟩)
def F5f:Fn:=(E57 B9q).2
theorem F5g(B1:E3):∀ x,(C7 cfg [O6 B1] F5e 36 [.tmp 2] (Tryz.f137.body.getD .skip) E55 E56).fn x=D3C B1 x.1:=by intro x;kernel_rfl
theorem F5h:B0 Tryz.prog 137 F5f:=sm MO A8 (tc Tryz.call61 R1 A6) Tryz.func137 (by kernel_rfl) (by decide) (F5g E4)
def E29:Nat->Option Jn:=B4 [(15,⟨[.t 6 false [.int .i64]],lt 12 24 [.t 7],false⟩),(122,⟨[.t 6 false [.int .i64],.t 7 false [.int .i64]],lt 12 24 [],false⟩),(1956,⟨[],lt 18 10 [],false⟩)]
abbrev C77:List PK:= [.val false .str false,.val false (.int .i64) false]
abbrev C78:List RK:= [.val false (.int .i64),.val false .bool]
def C79(f:B1T):Nat×Fn:=(164,⟨C77,C78,fun x=>f x.1 x.2.1⟩)
def E2A:Fn:=(C79 A7T).2
theorem E2B(B1:E3)(A8F:A71):∀ x,(C7 cfg [O6 B1,C0R A8F] E29 46 [.tmp 4,.tmp 5] (Tryz.f164.body.getD .skip) C77 C78).fn x=B7b B1 A8F x.1 x.2.1:=by intro x;kernel_rfl
theorem E2C:B0 Tryz.prog 164 E2A:=sm MO A8 (tc Tryz.call61 R1 (tc Tryz.call142 D4J A6)) Tryz.func164 (by kernel_rfl) (by decide) (E2B E4 A3o)
def E58:Nat->Option Jn:=B4 [(7,⟨[.t 6 false [.str],.t 7 false [.int .i64]],lt 9 18 [.b 9],true⟩),(58,⟨[.t 6 false [.str],.t 7 false [.int .i64],.t 12 false [.int .i64]],lt 13 14 [.b 9,.t 9],false⟩)]
abbrev D0h:List PK:= [.val false (.rs 150 A5) false,.val false .str false]
abbrev D0i:List RK:= [.val false .str,.val false (.int .i64)]
def C0v(f:A2I):Nat×Fn:=(258,⟨D0h,D0i,fun x=>f x.1 x.2.1⟩)
def E59:Fn:=(C0v J0).2
theorem E5A:∀ x,(C7 cfg [] E58 29 [.tmp 4,.tmp 5] (Tryz.f258.body.getD .skip) D0h D0i).fn x=B9r x.1 x.2.1:=by intro x;kernel_rfl
theorem D0j:B0 Tryz.prog 258 E59:=sm MO A8 A6 Tryz.func258 (by kernel_rfl) (by decide) (E5A)
def E8Q:Nat->Option Jn:=B4 [(3,⟨[],lt 3 17 [],false⟩),(26,⟨[.t 3 false [.int .i64]],lt 4 16 [],false⟩)]
abbrev D5b:List PK:= [.val false .str false]
abbrev D5c:List RK:= [.val false .bool]
def D5d(f:B2m):Nat×Fn:=(285,⟨D5b,D5c,fun x=>f x.1⟩)
def E8R:Fn:=(D5d A41).2
theorem E8S:∀ x,(C7 cfg [] E8Q 22 [.tmp 2] (Tryz.f285.body.getD .skip) D5b D5c).fn x=C4I x.1:=by intro x;kernel_rfl
theorem E8T:B0 Tryz.prog 285 E8R:=sm MO A8 A6 Tryz.func285 (by kernel_rfl) (by decide) (E8S)
def B0k:Nat->Option Jn:=B4 [(26,⟨[.t 8 false [.int .i64]],lt 9 8 [.t 5,.t 18],false⟩)]
abbrev A2w:List PK:= [.val false (.rs 9 .str) false,.val false .str false]
abbrev A30:List RK:= [.val false (.int .i64)]
def A31(f:P6):Nat×Fn:=(306,⟨A2w,A30,fun x=>f x.1 x.2.1⟩)
def B0l:Fn:=(A31 P7).2
theorem B0m:∀ x,(C7 cfg [] B0k 19 [.tmp 4] (Tryz.f306.body.getD .skip) A2w A30).fn x=A03 x.1 x.2.1:=by intro x;kernel_rfl
theorem B0n:B0 Tryz.prog 306 B0l:=sm MO A8 A6 Tryz.func306 (by kernel_rfl) (by decide) (B0m)
abbrev A1j:List PK:= [.val false (.rs 9 .str) false,.val false .str false]
abbrev A1k:List RK:= [.val false .bool]
def A1l(f:I8):Nat×Fn:=(286,⟨A1j,A1k,fun x=>f x.1 x.2.1⟩)
def A8L:Fn:=(A1l E7).2
theorem A8M(P9:P6):∀ x,(C7 cfg [A31 P9] (B4 []) 9 [.tmp 4] (Tryz.f286.body.getD .skip) A1j A1k).fn x=T7 P9 x.1 x.2.1:=by intro x;kernel_rfl
theorem A8N:B0 Tryz.prog 286 A8L:=sm MO A8 (tc Tryz.call306 B0n A6) Tryz.func286 (by kernel_rfl) (by decide) (A8M P7)
def E8U:Nat->Option Jn:=B4 [(7,⟨[],lt 13 35 (lt 5 4 [.b 5,.r 27,.t 3]),false⟩),(58,⟨[.t 3 false [.bool],.t 15 false [.int .i64]],lt 16 32 (lt 5 4 [.b 5,.r 27]),false⟩),(122,⟨[.t 49 false [.int .i64]],lt 50 11 (lt 10 3 []),false⟩)]
abbrev D5e:List PK:= [.val false (.rs 150 A5) false]
abbrev D5f:List RK:= [.val false .bool]
def D5g(f:B7d):Nat×Fn:=(257,⟨D5e,D5f,fun x=>f x.1⟩)
def E8V:Fn:=(D5g B2n).2
theorem E8W(L5:A2I)(A8u:B2m)(G3:I8):∀ x,(C7 (cfg.withAr [(292,3,9)]) [C0v L5,D5d A8u,A1l G3] E8U 61 [.tmp 2] (Tryz.f257.body.getD .skip) D5e D5f).fn x=C4J L5 A8u G3 x.1:=by intro x;kernel_rfl
theorem E8a:B0 Tryz.prog 257 E8V:=sm MO (B25 (l:= [(292,3,9)]) A8 ⟨C1a (f:=Tryz.t292) (ti:=⟨false,.str,16,[]⟩) Tryz.underlying292 (by kernel_rfl) (by kernel_rfl) (by kernel_rfl),trivial⟩) (tc Tryz.call258 D0j (tc Tryz.call285 E8T (tc Tryz.call286 A8N A6))) Tryz.func257 (by kernel_rfl) (by decide) (E8W J0 A41 E7)
abbrev C7A:List PK:= [.val false (.int .i64) false]
abbrev C7B:List RK:= [.val false .str]
def C7C(f:A7U):Nat×Fn:=(141,⟨C7A,C7B,fun x=>f x.1⟩)
def E2D:Fn:=(C7C V3).2
theorem E2E:∀ x,(C7 (cfg.withAr [(211,6,9)]) [] (B4 []) 7 [.tmp 2] (Tryz.f141.body.getD .skip) C7A C7B).fn x=C5f x.1:=by intro x;kernel_rfl
theorem E2F:B0 Tryz.prog 141 E2D:=sm MO (B25 (l:= [(211,6,9)]) A8 ⟨C1a (f:=Tryz.t211) (ti:=⟨false,.str,16,[]⟩) Tryz.underlying211 (by kernel_rfl) (by kernel_rfl) (by kernel_rfl),trivial⟩) A6 Tryz.func141 (by kernel_rfl) (by decide) (E2E)
def F5i:Nat->Option Jn:=B4 [(26,⟨[.t 3 false [.int .i64]],lt 4 8 [],false⟩)]
abbrev E5B:List PK:= [.val false .str false]
abbrev E5C:List RK:= [.val false (.int .i64)]
def E5D(f:C5g):Nat×Fn:=(259,⟨E5B,E5C,fun x=>f x.1⟩)
def F5j:Fn:=(E5D B9s).2
theorem F5k(A4p:A7U):∀ x,(C7 cfg [C7C A4p] F5i 13 [.tmp 2] (Tryz.f259.body.getD .skip) E5B E5C).fn x=D3D A4p x.1:=by intro x;kernel_rfl
theorem F5l:B0 Tryz.prog 259 F5j:=sm MO A8 (tc Tryz.call141 E2F A6) Tryz.func259 (by kernel_rfl) (by decide) (F5k V3)
abbrev A1K:List PK:= [.val false .str false,.val false .str false]
abbrev A1L:List RK:= [.val false .bool]
def A1M(f:M0):Nat×Fn:=(307,⟨A1K,A1L,fun x=>f x.1 x.2.1⟩)
def A7w:Fn:=(A1M M1).2
theorem A80:∀ x,(C7 cfg [] (B4 []) 18 [.tmp 4] (Tryz.f307.body.getD .skip) A1K A1L).fn x=S3 x.1 x.2.1:=by intro x;kernel_rfl
theorem A81:B0 Tryz.prog 307 A7w:=sm MO A8 A6 Tryz.func307 (by kernel_rfl) (by decide) (A80)
abbrev A1N:List PK:= [.val false .str false,.val false .str false]
abbrev A1O:List RK:= [.val false .str,.val false .bool]
def A1P(f:M2):Nat×Fn:=(287,⟨A1N,A1O,fun x=>f x.1 x.2.1⟩)
def A82:Fn:=(A1P M3).2
theorem A83(M4:M0):∀ x,(C7 cfg [A1M M4] (B4 []) 15 [.tmp 4,.tmp 5] (Tryz.f287.body.getD .skip) A1N A1O).fn x=S4 M4 x.1 x.2.1:=by intro x;kernel_rfl
theorem A84:B0 Tryz.prog 287 A82:=sm MO A8 (tc Tryz.call307 A81 A6) Tryz.func287 (by kernel_rfl) (by decide) (A83 M1)
abbrev B0p:List PK:= [.val false .str false,.val false .str false]
abbrev B0q:List RK:= [.val false .str,.val false .bool]
def B0r(f:A1n):Nat×Fn:=(260,⟨B0p,B0q,fun x=>f x.1 x.2.1⟩)
def C1w:Fn:=(B0r T2).2
theorem C20(M5:M2):∀ x,(C7 cfg [A1P M5] (B4 []) 11 [.tmp 4,.tmp 5] (Tryz.f260.body.getD .skip) B0p B0q).fn x=A5E M5 x.1 x.2.1:=by intro x;kernel_rfl
theorem C21:B0 Tryz.prog 260 C1w:=sm MO A8 (tc Tryz.call287 A84 A6) Tryz.func260 (by kernel_rfl) (by decide) (C20 M3)
def F2c:Nat->Option Jn:=B4 [(255,⟨[],lt 42 7 [],false⟩)]
abbrev D9d:List PK:= [.val false (.rs 150 A5) false]
abbrev D9e:List RK:= [.val true B2L,.val false (.int .i64)]
def D9f(f:C1e):Nat×Fn:=(239,⟨D9d,D9e,fun x=>f x.1⟩)
def F2d:Fn:=(D9f B5q).2
theorem F2e(A64:A5r)(C83:C5e)(B1v:B1T)(B8a:B7d)(L5:A2I)(C84:C5g)(A1s:A1n):∀ x,(C7 cfg [B8v A64,E57 C83,C79 B1v,D5g B8a,C0v L5,E5D C84,B0r A1s] F2c 83 [.cell 2 36,.tmp 3] (Tryz.f239.body.getD .skip) D9d D9e).fn x=C8Q A64 C83 B1v B8a L5 C84 A1s x.1:=by intro x;kernel_rfl
theorem F2f:B0 Tryz.prog 239 F2d:=sm MO A8 (tc Tryz.call136 D1f (tc Tryz.call137 F5h (tc Tryz.call164 E2C (tc Tryz.call257 E8a (tc Tryz.call258 D0j (tc Tryz.call259 F5l (tc Tryz.call260 C21 A6))))))) Tryz.func239 (by kernel_rfl) (by decide) (F2e A2n B9q A7T B2n J0 B9s T2)
def C90:Nat->Option Jn:=B4 [(63,⟨[],lt 51 21 [.t 44,.t 45],false⟩),(1011,⟨[.t 51 false [.bool]],lt 52 12 [],true⟩)]
abbrev B6E:List PK:= [.ptr A0s,.val false (.int .i64) false,.val false .bool false,.val false (.rs 5 (.int .u8)) false]
abbrev B6F:List RK:= [.val false (.int .i64)]
def B6G(f:A4Q):Nat×Fn:=(214,⟨B6E,B6F,fun x=>f x.1 x.2.1 x.2.2.1 x.2.2.2.1⟩)
def C91:Fn:=(B6G A25).2
theorem C92(A9e:A9B)(M6:A19)(I5:U6)(B3H:B7W)(C1o:C1e)(T0:A23)(A4q:A4N):∀ x,(C7 cfg [C3E A9e,B1k M6,A6M I5,D5a B3H,D9f C1o,B37 T0,B6D A4q] C90 121 [.tmp 8] (Tryz.f214.body.getD .skip) B6E B6F).fn x=A8e A9e M6 I5 B3H C1o T0 A4q x.1 x.2.1 x.2.2.1 x.2.2.2.1:=by intro x;kernel_rfl
theorem C93:B0 Tryz.prog 214 C91:=sm MO A8 (tc Tryz.call39 D7a (tc Tryz.call83 B8A (tc Tryz.call216 B3A (tc Tryz.call238 E8P (tc Tryz.call239 F2f (tc Tryz.call240 C0u (tc Tryz.call241 C8w A6))))))) Tryz.func214 (by kernel_rfl) (by decide) (C92 A5Q S1 Q2 B2l B5q N1 A24)
def D1g:Nat->Option Jn:=B4 [(7,⟨[.t 5 false [.int .i64],.t 6 false [.bool]],lt 22 6 [],true⟩),(506,⟨[.t 45 false [.bool]],[.t 46,.t 47],true⟩)]
abbrev B8w:List PK:= [.ptr A0s,.val true (.pair (.int .i64) (.pair (.int .i64) (.pair (.int .i64) (.rs 5 (.int .u8))))) false]
abbrev B90:List RK:= [.val false (.int .i64)]
def B91(f:A5s):Nat×Fn:=(186,⟨B8w,B90,fun x=>f x.1 x.2.1⟩)
def D1h:Fn:=(B91 A2o).2
theorem D1i(C85:C5c)(D0:J6)(A4r:A4Q):∀ x,(C7 cfg [E4r C85,A1g D0,B6G A4r] D1g 57 [.tmp 4] (Tryz.f186.body.getD .skip) B8w B90).fn x=B0W C85 D0 A4r x.1 x.2.1:=by intro x;kernel_rfl
theorem D1j:B0 Tryz.prog 186 D1h:=sm MO A8 (tc Tryz.call38 F5W (tc Tryz.call109 A3J (tc Tryz.call214 C93 A6))) Tryz.func186 (by kernel_rfl) (by decide) (D1i B9n J7 A25)
def E8b:Nat->Option Jn:=B4 [(58,⟨[.t 0 false [.own 100000000],.t 7 false [.int .i64],.r 100000000 5 (.int .u8)],lt 12 13 [.r 23,.r 24,.r 1000],false⟩)]
abbrev D5h:List PK:= [.val false (.sl 5 (.int .u8)) false,.val false (.int .i64) false,.val false (.int .i64) false]
abbrev D5i:List RK:= [.val false (.sl 5 (.int .u8))]
def C4q(f:A8f):Nat×Fn:=(145,⟨D5h,D5i,fun x=>f x.1 x.2.1 x.2.2.1⟩)
def E8c:Fn:=(C4q A6C).2
theorem E8d:∀ x,(C7 cfg [] E8b 26 [.tmp 6] (Tryz.f145.body.getD .skip) D5h D5i).fn x=C4K x.1 x.2.1 x.2.2.1:=by intro x;kernel_rfl
theorem D5j:B0 Tryz.prog 145 E8c:=sm MO A8 A6 Tryz.func145 (by kernel_rfl) (by decide) (E8d)
abbrev C7D:List PK:= [.val false (.sl 5 (.int .u8)) false,.val true (.pair (.int .i64) (.pair (.int .i64) (.pair (.int .i64) (.rs 5 (.int .u8))))) false]
abbrev C7E:List RK:= [.val false (.sl 5 (.int .u8))]
def B8F(f:A4R):Nat×Fn:=(69,⟨C7D,C7E,fun x=>f x.1 x.2.1⟩)
def E2G:Fn:=(B8F A2S).2
theorem E2H(A0o:A8f):∀ x,(C7 cfg [C4q A0o] (B4 []) 26 [.tmp 4] (Tryz.f69.body.getD .skip) C7D C7E).fn x=B7f A0o x.1 x.2.1:=by intro x;kernel_rfl
theorem C7F:B0 Tryz.prog 69 E2G:=sm MO A8 (tc Tryz.call145 D5j A6) Tryz.func69 (by kernel_rfl) (by decide) (E2H A6C)
abbrev B4G:List PK:= [.ptr A0s,.val true (.pair (.int .i64) (.pair (.int .i64) (.pair (.int .i64) (.rs 5 (.int .u8))))) false,.val false (.rs 5 (.int .u8)) false]
abbrev B4H:List RK:= []
def B4I(f:A3R):Nat×Fn:=(187,⟨B4G,B4H,fun x=>f x.1 x.2.1 x.2.2.1⟩)
def C7G:Fn:=(B4I A1B).2
theorem C7H(A0P:A4R)(D0:J6):∀ x,(C7 cfg [B8F A0P,A1g D0] (B4 []) 21 [] (Tryz.f187.body.getD .skip) B4G B4H).fn x=A7V A0P D0 x.1 x.2.1 x.2.2.1:=by intro x;kernel_rfl
theorem C7I:B0 Tryz.prog 187 C7G:=sm MO A8 (tc Tryz.call69 C7F (tc Tryz.call109 A3J A6)) Tryz.func187 (by kernel_rfl) (by decide) (C7H A2S J7)
abbrev C7J:List PK:= [.val false (.rs 5 (.int .u8)) false]
abbrev C7K:List RK:= [.val false (.int .i64),.val false .bool]
def C7L(f:B1U):Nat×Fn:=(188,⟨C7J,C7K,fun x=>f x.1⟩)
def E2I:Fn:=(C7L A7W).2
theorem E2J(A1h:A8a):∀ x,(C7 cfg [C4n A1h] (B4 []) 25 [.tmp 2,.tmp 3] (Tryz.f188.body.getD .skip) C7J C7K).fn x=B7g A1h x.1:=by intro x;kernel_rfl
theorem E2K:B0 Tryz.prog 188 E2I:=sm MO A8 (tc Tryz.call155 D54 A6) Tryz.func188 (by kernel_rfl) (by decide) (E2J A3u)
abbrev B3B:List PK:= [.ptr A0s,.val true (.pair (.int .i64) (.pair (.int .i64) (.pair (.int .i64) (.rs 5 (.int .u8))))) false]
abbrev B3C:List RK:= [.val false (.int .i64)]
def A6N(f:U7):Nat×Fn:=(215,⟨B3B,B3C,fun x=>f x.1 x.2.1⟩)
def C4r:Fn:=(A6N Q3).2
theorem C4s:∀ x,(C7 cfg [] (B4 []) 13 [.tmp 4] (Tryz.f215.body.getD .skip) B3B B3C).fn x=A6D x.1 x.2.1:=by intro x;kernel_rfl
theorem B3D:B0 Tryz.prog 215 C4r:=sm MO A8 A6 Tryz.func215 (by kernel_rfl) (by decide) (C4s)
abbrev B92:List PK:= [.ptr A0s,.val true (.pair (.int .i64) (.pair (.int .i64) (.pair (.int .i64) (.rs 5 (.int .u8))))) false]
abbrev B93:List RK:= [.val false (.int .i64)]
def B94(f:A5t):Nat×Fn:=(189,⟨B92,B93,fun x=>f x.1 x.2.1⟩)
def D1k:Fn:=(B94 A2p).2
theorem D1l(M6:A19)(A4n:B27)(D0:J6)(K2:U7)(I5:U6):∀ x,(C7 cfg [B1k M6,C8p A4n,A1g D0,A6N K2,A6M I5] (B4 []) 65 [.tmp 4] (Tryz.f189.body.getD .skip) B92 B93).fn x=B0a M6 A4n D0 K2 I5 x.1 x.2.1:=by intro x;kernel_rfl
theorem D1m:B0 Tryz.prog 189 D1k:=sm MO A8 (tc Tryz.call83 B8A (tc Tryz.call108 D9c (tc Tryz.call109 A3J (tc Tryz.call215 B3D (tc Tryz.call216 B3A A6))))) Tryz.func189 (by kernel_rfl) (by decide) (D1l S1 A8b J7 Q3 Q2)
abbrev B6H:List PK:= [.ptr A0s,.val true (.pair (.int .i64) (.pair (.int .i64) (.pair (.int .i64) (.rs 5 (.int .u8))))) false]
abbrev B6I:List RK:= [.val false (.int .i64)]
def B6J(f:A4S):Nat×Fn:=(190,⟨B6H,B6I,fun x=>f x.1 x.2.1⟩)
def C94:Fn:=(B6J A26).2
theorem C95(M6:A19)(L3:L2)(K2:U7):∀ x,(C7 cfg [B1k M6,A0t L3,A6N K2] (B4 []) 34 [.tmp 4] (Tryz.f190.body.getD .skip) B6H B6I).fn x=A8g M6 L3 K2 x.1 x.2.1:=by intro x;kernel_rfl
theorem C96:B0 Tryz.prog 190 C94:=sm MO A8 (tc Tryz.call83 B8A (tc Tryz.call86 A6s (tc Tryz.call215 B3D A6))) Tryz.func190 (by kernel_rfl) (by decide) (C95 S1 H5 Q3)
def C97:Nat->Option Jn:=B4 [(122,⟨[.t 25 false [.bool]],[.t 26,.t 27],true⟩)]
abbrev B6K:List PK:= [.ptr A0s,.val true (.pair (.int .i64) (.pair (.int .i64) (.pair (.int .i64) (.rs 5 (.int .u8))))) false]
abbrev B6L:List RK:= [.val false (.int .i64)]
def B6M(f:A27):Nat×Fn:=(152,⟨B6K,B6L,fun x=>f x.1 x.2.1⟩)
def C98:Fn:=(B6M U8).2
theorem C99(V4:A37)(A32:A5s)(A1Q:A3R)(B1w:B1U)(A65:A5t)(A4s:A4S):∀ x,(C7 cfg [B5O V4,B91 A32,B4I A1Q,C7L B1w,B94 A65,B6J A4s] C97 65 [.tmp 4] (Tryz.f152.body.getD .skip) B6K B6L).fn x=A8h V4 A32 A1Q B1w A65 A4s x.1 x.2.1:=by intro x;kernel_rfl
theorem C9A:B0 Tryz.prog 152 C98:=sm MO A8 (tc Tryz.call105 C2t (tc Tryz.call186 D1j (tc Tryz.call187 C7I (tc Tryz.call188 E2K (tc Tryz.call189 D1m (tc Tryz.call190 C96 A6)))))) Tryz.func152 (by kernel_rfl) (by decide) (C99 I3 A2o A1B A7W A2p A26)
def C7M:Nat->Option Jn:=B4 [(14,⟨[.t 5 false [.int .i64],.b 1000 [.int .i64,.own 100000000,.int .i64,.bool,.own 100000001,.int .i64,.own 100000002,.int .i64,.own 100000003,.own 100000004,.int .i64,.int .i64,.own 100000005,.own 100000006],.r 100000000 5 (.int .u8),.r 100000001 5 (.int .u8),.r 100000002 150 A5,.r 100000003 150 A5,.r 100000004 113 B7,.r 100000005 75 G2,.r 100000006 5 (.int .u8)],lt 28 7 (lt 6 14 [.b 6,.r 1001,.r 1004,.r 1006,.r 1008,.r 1009,.r 1012,.r 1013,.r 57347,.r 137217,.r 137220,.r 137222,.r 137224,.r 137225,.r 137228,.r 137229,.t 36]),false⟩)]
abbrev B4J:List PK:= [.ptr A0s,.val false (.rs 5 (.int .u8)) false]
abbrev B4K:List RK:= [.val false (.int .i64)]
def B4L(f:A3S):Nat×Fn:=(100,⟨B4J,B4K,fun x=>f x.1 x.2.1⟩)
def C7N:Fn:=(B4L A3T).2
theorem C7O(S8:A2P)(A7:C4)(A0h:A27):∀ x,(C7 cfg [B88 S8,G7 A7,B6M A0h] C7M 37 [.tmp 4] (Tryz.f100.body.getD .skip) B4J B4K).fn x=A7a S8 A7 A0h x.1 x.2.1:=by intro x;kernel_rfl
theorem C7P:B0 Tryz.prog 100 C7N:=sm MO A8 (tc Tryz.call103 C6l (tc Tryz.call144 I4 (tc Tryz.call152 C9A A6))) Tryz.func100 (by kernel_rfl) (by decide) (C7O A0H B8 U8)
def B3U:Nat->Option Jn:=B4 [(7,⟨[.t 3 false [.int .i64]],lt 9 12 [.t 5,.t 22],true⟩),(58,⟨[.t 3 false [.int .i64],.t 11 false [.int .i64]],lt 12 9 [.t 5,.t 22],false⟩),(250,⟨[.t 6 false [.own 100002000],.t 27 false [.int .i64],.r 100002000 5 (.int .u8)],lt 28 7 [.r 33,.r 102400,.t 8],false⟩)]
abbrev A5B:List PK:= [.val false (.rs 27 (.sl 5 (.int .u8))) false]
abbrev A5C:List RK:= [.val false (.sl 5 (.int .u8))]
def A5D(f:U0):Nat×Fn:=(101,⟨A5B,A5C,fun x=>f x.1⟩)
def B3V:Fn:=(A5D O0).2
theorem B3W(W8:W4):∀ x,(C7 cfg [A6h W8] B3U 36 [.tmp 2] (Tryz.f101.body.getD .skip) A5B A5C).fn x=A0v W8 x.1:=by intro x;kernel_rfl
theorem B3a:B0 Tryz.prog 101 B3V:=sm MO A8 (tc Tryz.call153 B66 A6) Tryz.func101 (by kernel_rfl) (by decide) (B3W W5)
abbrev C3F:List PK:= [.val false (.int .i64) false,.val false (.int .i64) false]
abbrev C3G:List RK:= [.val false (.sl 5 (.int .u8))]
def C3H(f:A9C):Nat×Fn:=(154,⟨C3F,C3G,fun x=>f x.1 x.2.1⟩)
def D7b:Fn:=(C3H A9D).2
theorem D7c(A0o:A8f):∀ x,(C7 cfg [C4q A0o] (B4 []) 9 [.tmp 4] (Tryz.f154.body.getD .skip) C3F C3G).fn x=B5B A0o x.1 x.2.1:=by intro x;kernel_rfl
theorem D7d:B0 Tryz.prog 154 D7b:=sm MO A8 (tc Tryz.call145 D5j A6) Tryz.func154 (by kernel_rfl) (by decide) (D7c A6C)
abbrev C0w:List PK:= [.ptr A0s,.val false (.int .i64) false]
abbrev C10:List RK:= []
def C11(f:A7b):Nat×Fn:=(102,⟨C0w,C10,fun x=>f x.1 x.2.1⟩)
def D5k:Fn:=(C11 A43).2
theorem D5l(A0P:A4R)(A9f:A9C):∀ x,(C7 cfg [B8F A0P,C3H A9f] (B4 []) 38 [] (Tryz.f102.body.getD .skip) C0w C10).fn x=B2o A0P A9f x.1 x.2.1:=by intro x;kernel_rfl
theorem D5m:B0 Tryz.prog 102 D5k:=sm MO A8 (tc Tryz.call69 C7F (tc Tryz.call154 D7d A6)) Tryz.func102 (by kernel_rfl) (by decide) (D5l A2S A9D)
def B8G:Nat->Option Jn:=B4 [(3,⟨[.t 1 false [.ro 5 (.int .u8)],.b 1000 [.int .i64,.own 1001,.int .i64,.bool,.own 1004,.int .i64,.own 1006,.int .i64,.own 1008,.own 1009,.int .i64,.int .i64,.own 1012,.own 1013],.r 1001 5 (.int .u8),.r 1004 5 (.int .u8),.r 1006 150 A5,.r 1008 150 A5,.r 1009 113 B7,.r 1012 75 G2,.r 1013 5 (.int .u8)],lt 6 32 [],false⟩),(12,⟨[.t 1 false [.ro 5 (.int .u8)],.b 1000 [.int .i64,.own 1001,.int .i64,.bool,.own 1004,.int .i64,.own 1006,.int .i64,.own 1008,.own 1009,.int .i64,.int .i64,.own 1012,.own 1013],.r 1001 5 (.int .u8),.r 1004 5 (.int .u8),.r 1006 150 A5,.r 1008 150 A5,.r 1009 113 B7,.r 1012 75 G2,.r 1013 5 (.int .u8)],lt 6 32 [],false⟩),(24,⟨[],lt 6 11 [],false⟩)]
abbrev A85:List PK:= [.ptr A0s,.val false (.rs 5 (.int .u8)) false]
abbrev A86:List RK:= [.val false (.rs 5 (.int .u8)),.val false (.int .i64)]
def A87(f:A0K):Nat×Fn:=(99,⟨A85,A86,fun x=>f x.1 x.2.1⟩)
def B8H:Fn:=(A87 H8).2
theorem B8I:∀ x,(C7 cfg [] B8G 39 [.tmp 4,.tmp 5] (Tryz.f99.body.getD .skip) A85 A86).fn x=N5 x.1 x.2.1:=by intro x;kernel_rfl
theorem B8J:B0 Tryz.prog 99 B8H:=sm MO A8 A6 Tryz.func99 (by kernel_rfl) (by decide) (B8I)
end
end Go.Proofs.YthnfghmjipikhaaGreatDoor.Ev
