/- Each function of the program does what its plain function says. -/
import Derived.Test.YthnfghmjipikhaaGreatDoorG3
set_option linter.unusedVariables false
set_option maxRecDepth 100000
namespace Go.Proofs.YthnfghmjipikhaaGreatDoor.Ev
noncomputable section
abbrev B6b:List PK:= [.ptr (.pair (.pair (.int .i64) (.pair (.sl 5 (.int .u8)) (.pair O5 (.pair (.pair (.int .i64) (.rs 150 A5)) (.pair P0 (.pair (.sl 113 B7) G4)))))) (.pair (.sl 75 G2) (.sl 5 (.int .u8)))),.val true (.pair (.int .i64) (.pair (.int .i64) (.pair (.int .i64) (.rs 5 (.int .u8))))) false]
abbrev B6c:List RK:= []
def B6d(f:B42):Nat×Fn:=(203,⟨B6b,B6c,fun x=>f x.1 x.2.1⟩)
def C9P:Fn:=(B6d B0D).2
theorem C9Q(W9:A6a)(C0:J1)(A4t:B28)(T1:A4a):∀ x,(C7 cfg [C1l W9,N6 C0,C9B A4t,A89 T1] (B4 []) 79 [] (Tryz.f203.body.getD .skip) B6b B6c).fn x=C09 W9 C0 A4t T1 x.1 x.2.1:=by intro x;kernel_rfl
theorem C9R:B0 Tryz.prog 203 C9P:=sm MO A8 (tc Tryz.call77 C9C (tc Tryz.call169 R2 (tc Tryz.call224 D9i (tc Tryz.call225 B4S A6)))) Tryz.func203 (by kernel_rfl) (by decide) (C9Q A3B H9 A8l A2b)
abbrev B4W:List PK:= [.ptr (.pair (.pair (.int .i64) (.pair (.sl 5 (.int .u8)) (.pair O5 (.pair (.pair (.int .i64) (.rs 150 A5)) (.pair P0 (.pair (.sl 113 B7) G4)))))) (.pair (.sl 75 G2) (.sl 5 (.int .u8)))),.val true (.pair (.int .i64) (.pair (.int .i64) (.pair (.int .i64) (.rs 5 (.int .u8))))) false]
abbrev B4a:List RK:= []
def B4b(f:A3V):Nat×Fn:=(204,⟨B4W,B4a,fun x=>f x.1 x.2.1⟩)
def C7s:Fn:=(B4b A1G).2
theorem C7t(W9:A6a)(C0:J1)(A0e:A6W)(B22:B1a)(A4v:A4H):∀ x,(C7 cfg [C1l W9,N6 C0,A8t A0e,C7r B22,B67 A4v] (B4 []) 69 [] (Tryz.f204.body.getD .skip) B4W B4a).fn x=A7o W9 C0 A0e B22 A4v x.1 x.2.1:=by intro x;kernel_rfl
theorem C7u:B0 Tryz.prog 204 C7s:=sm MO A8 (tc Tryz.call77 C9C (tc Tryz.call169 R2 (tc Tryz.call199 B6S (tc Tryz.call226 E2f (tc Tryz.call227 C8n A6))))) Tryz.func204 (by kernel_rfl) (by decide) (C7t A3B H9 A45 A7n A1w)
def C7v:Nat->Option Jn:=B4 [(14,⟨[.t 17 false [.bool]],lt 18 17 [],true⟩)]
abbrev B4c:List PK:= [.ptr (.pair (.pair (.int .i64) (.pair (.sl 5 (.int .u8)) (.pair O5 (.pair (.pair (.int .i64) (.rs 150 A5)) (.pair P0 (.pair (.sl 113 B7) G4)))))) (.pair (.sl 75 G2) (.sl 5 (.int .u8)))),.val true (.pair (.int .i64) (.pair (.int .i64) (.pair (.int .i64) (.rs 5 (.int .u8))))) false]
abbrev B4d:List RK:= []
def B4e(f:A3W):Nat×Fn:=(170,⟨B4c,B4d,fun x=>f x.1 x.2.1⟩)
def C7w:Fn:=(B4e A1H).2
theorem C80(C0:J1)(V6:A3A)(A4w:A4c)(B4o:B42)(A3j:A3V):∀ x,(C7 cfg [N6 C0,B5Q V6,B6a A4w,B6d B4o,B4b A3j] C7v 45 [] (Tryz.f170.body.getD .skip) B4c B4d).fn x=A7p C0 V6 A4w B4o A3j x.1 x.2.1:=by intro x;kernel_rfl
theorem C81:B0 Tryz.prog 170 C7w:=sm MO A8 (tc Tryz.call169 R2 (tc Tryz.call201 C3Q (tc Tryz.call202 C9O (tc Tryz.call203 C9R (tc Tryz.call204 C7u A6))))) Tryz.func170 (by kernel_rfl) (by decide) (C80 H9 A1c A29 B0D A1G)
abbrev B6e:List PK:= [.ptr (.pair (.pair (.int .i64) (.pair (.sl 5 (.int .u8)) (.pair O5 (.pair (.pair (.int .i64) (.rs 150 A5)) (.pair P0 (.pair (.sl 113 B7) G4)))))) (.pair (.sl 75 G2) (.sl 5 (.int .u8)))),.val false (.int .u8) false]
abbrev B6f:List RK:= []
def B6g(f:A2A):Nat×Fn:=(119,⟨B6e,B6f,fun x=>f x.1 x.2.1⟩)
def C9S:Fn:=(B6g Q9).2
theorem C9T(A0S:A4V)(C0:J1)(A3k:A3W):∀ x,(C7 cfg [B8L A0S,N6 C0,B4e A3k] (B4 []) 70 [] (Tryz.f119.body.getD .skip) B6e B6f).fn x=A4d A0S C0 A3k x.1 x.2.1:=by intro x;kernel_rfl
theorem C9U:B0 Tryz.prog 119 C9S:=sm MO A8 (tc Tryz.call122 C7V (tc Tryz.call169 R2 (tc Tryz.call170 C81 A6))) Tryz.func119 (by kernel_rfl) (by decide) (C9T A1C H9 A1H)
abbrev D6b:List PK:= [.val true (.pair (.int .i64) (.pair B2L (.pair (.rs 5 (.int .u8)) (.int .i64)))) false,.val true (.pair (.int .i64) (.pair B2L (.pair (.rs 5 (.int .u8)) (.int .i64)))) false]
abbrev D6c:List RK:= [.val false .bool]
def D6d(f:B2u):Nat×Fn:=(123,⟨D6b,D6c,fun x=>f x.1 x.2.1⟩)
def E9O:Fn:=(D6d B2v).2
theorem E9P(F0:T6)(A4m:B26):∀ x,(C7 cfg [A6i F0,C8o A4m] (B4 []) 27 [.tmp 4] (Tryz.f123.body.getD .skip) D6b D6c).fn x=C4W F0 A4m x.1 x.2.1:=by intro x;kernel_rfl
theorem E9Q:B0 Tryz.prog 123 E9O:=sm MO A8 (tc Tryz.call16 B0M (tc Tryz.call172 D9T A6)) Tryz.func123 (by kernel_rfl) (by decide) (E9P Q6 A8W)
def E61:Nat->Option Jn:=B4 [(58,⟨[.t 5 false [.int .i64]],lt 11 16 [],false⟩)]
abbrev D1J:List PK:= [.val false (.rs 75 G2) false,.val false (.rs 75 G2) false]
abbrev D1K:List RK:= [.val false .bool]
def D1L(f:B43):Nat×Fn:=(47,⟨D1J,D1K,fun x=>f x.1 x.2.1⟩)
def E62:Fn:=(D1L B0E).2
theorem E63(A8w:B2u):∀ x,(C7 cfg [D6d A8w] E61 27 [.tmp 4] (Tryz.f47.body.getD .skip) D1J D1K).fn x=C0A A8w x.1 x.2.1:=by intro x;kernel_rfl
theorem E64:B0 Tryz.prog 47 E62:=sm MO A8 (tc Tryz.call123 E9Q A6) Tryz.func47 (by kernel_rfl) (by decide) (E63 B2v)
def D89:Nat->Option Jn:=B4 [(26,⟨[.t 0 false [.own 1000],.t 1 false [.int .i64],.t 5 false [.int .i64],.r 1000 75 G2],lt 6 52 [.x 15,.x 22,.x 31,.x 39,.x 46,.x 54],false⟩)]
abbrev C3i:List PK:= [.val false (.sl 75 G2) true,.val false (.int .i64) false]
abbrev C3j:List RK:= [.val false (.int .i64)]
def C3k(f:A9P):Nat×Fn:=(48,⟨C3i,C3j,fun x=>f x.1 x.2.1⟩)
def D8A:Fn:=(C3k A9Q).2
theorem D8B(D3:J4)(C2:G0):∀ x,(C7 cfg [A3H D3,A2i C2] D89 59 [.tmp 4] (Tryz.f48.body.getD .skip) C3i C3j).fn x=C2K D3 C2 x.1 x.2.1:=by intro x;kernel_rfl
theorem D8C:B0 Tryz.prog 48 D8A:=sm MO A8 (tc Tryz.call19 A5d (tc Tryz.call124 A4l A6)) Tryz.func48 (by kernel_rfl) (by decide) (D8B H3 F2)
def D8D:Nat->Option Jn:=B4 [(26,⟨[.t 1 false [.int .i64],.t 5 false [.int .i64]],lt 6 64 [],false⟩)]
abbrev C3l:List PK:= [.val false (.rs 75 G2) false,.val false (.int .i64) false]
abbrev C3m:List RK:= [.val false (.int .i64)]
def C3n(f:A9R):Nat×Fn:=(49,⟨C3l,C3m,fun x=>f x.1 x.2.1⟩)
def D8E:Fn:=(C3n A9S).2
theorem D8F(D4:J5)(C2:G0):∀ x,(C7 cfg [A3I D4,A2i C2] D8D 71 [.tmp 4] (Tryz.f49.body.getD .skip) C3l C3m).fn x=C2L D4 C2 x.1 x.2.1:=by intro x;kernel_rfl
theorem D8G:B0 Tryz.prog 49 D8E:=sm MO A8 (tc Tryz.call20 A5e (tc Tryz.call124 A4l A6)) Tryz.func49 (by kernel_rfl) (by decide) (D8F H4 F2)
def C2A:Nat->Option Jn:=B4 [(15,⟨[.b 13 [.int .i64,.own 100000000,.int .i64,.bool,.own 100000001,.int .i64,.ro 150 A5,.int .i64,.own 100000002,.own 100000003,.int .i64,.int .i64,.own 100000004,.own 100000005],.r 100000000 5 (.int .u8),.r 100000001 5 (.int .u8),.r 100000002 150 A5,.r 100000003 113 B7,.r 100000004 75 G2,.r 100000005 5 (.int .u8)],lt 16 23 [.r 49153,.r 49156,.r 49158,.r 49160,.r 49161,.r 161793,.r 161796,.r 161800,.r 161801,.r 161804,.r 161805,.t 9,.t 11,.t 12],true⟩),(122,⟨[.t 9 false [.int .i64],.b 13 [.int .i64,.own 100000000,.int .i64,.bool,.own 100000001,.int .i64,.ro 150 A5,.int .i64,.own 100000002,.own 100000003,.int .i64,.int .i64,.own 100000004,.own 100000005],.r 100000000 5 (.int .u8),.r 100000001 5 (.int .u8),.r 100000002 150 A5,.r 100000003 113 B7,.r 100000004 75 G2,.r 100000005 5 (.int .u8)],lt 16 23 [.r 49153,.r 49156,.r 49158,.r 49160,.r 49161,.r 161793,.r 161796,.r 161800,.r 161801,.r 161804,.r 161805,.t 11,.t 12],false⟩),(244,⟨[],lt 16 15 [],false⟩)]
abbrev B11:List PK:= [.val true (.pair (.int .i64) (.pair (.rs 5 (.int .u8)) (.pair (.pair (.int .i64) (.pair .bool (.rs 5 (.int .u8)))) (.pair (.pair (.int .i64) (.rs 150 A5)) (.pair (.pair (.int .i64) (.rs 150 A5)) (.pair (.rs 113 B7) G4)))))) false,.val false (.rs 5 (.int .u8)) false]
abbrev B12:List RK:= [.val true (.pair (.int .i64) (.pair (.sl 5 (.int .u8)) (.pair O5 (.pair (.pair (.int .i64) (.rs 150 A5)) (.pair P0 (.pair (.sl 113 B7) G4)))))),.val false (.sl 75 G2),.val false (.sl 5 (.int .u8))]
def B13(f:A1p):Nat×Fn:=(45,⟨B11,B12,fun x=>f x.1 x.2.1⟩)
def C2B:Fn:=(B13 L4).2
theorem C2C(B8h:B7i)(B4p:B3r)(A0i:A2A):∀ x,(C7 cfg [D5v B8h,D0r B4p,B6g A0i] C2A 55 [.cell 4 55,.tmp 5,.tmp 6] (Tryz.f45.body.getD .skip) B11 B12).fn x=A1q B8h B4p A0i x.1 x.2.1:=by intro x;kernel_rfl
theorem C2D:B0 Tryz.prog 45 C2B:=sm MO A8 (tc Tryz.call46 E8n (tc Tryz.call76 E5S (tc Tryz.call119 C9U A6))) Tryz.func45 (by kernel_rfl) (by decide) (C2C A2U B06 Q9)
def C1F:Nat->Option Jn:=B4 [(1023,⟨[],lt 48 16 [],false⟩),(65535,⟨[],lt 80 20 [],false⟩),(1073741823,⟨[],lt 136 16 [],false⟩)]
abbrev V9:List PK:= [.val true (.pair (.int .i64) (.pair (.rs 5 (.int .u8)) (.pair (.pair (.int .i64) (.pair .bool (.rs 5 (.int .u8)))) (.pair (.pair (.int .i64) (.rs 161 A5)) (.pair (.pair (.int .i64) (.rs 161 A5)) (.pair (.rs 180 B7) G4)))))) false,.val false (.rs 5 (.int .u8)) false]
abbrev B0Q:List RK:= [.val false .bool]
def C1G(f:B0F):Nat×Fn:=(8,⟨V9,B0Q,fun x=>f x.1 x.2.1⟩)
def F_w_FnExactHearBytes:Fn:=(C1G A4A).2
theorem C1H(G1:A0V)(F0:T6)(D3:J4)(D4:J5)(B8i:B73)(A6O:B78)(A6P:B7D)(A8J:B1J)(A8K:B1M)(A5l:A9E)(A1u:A1p)(A6n:B43)(A9k:A9P)(A5m:A9R):∀ x,(C7 cfg [B0L G1,A6i F0,A3H D3,A3I D4,D4P B8i,D4V A6O,D4e A6P,C6c A8J,C6i A8K,C3K A5l,B13 A1u,D1L A6n,C3k A9k,C3n A5m] C1F 170 [.tmp 4] (Tryz.f8.body.getD .skip) V9 B0Q).fn x=A49 G1 F0 D3 D4 B8i A6O A6P A8J A8K A5l A1u A6n A9k A5m x.1 x.2.1:=by intro x;kernel_rfl
theorem C1I:B0 Tryz.prog 8 F_w_FnExactHearBytes:=sm MO A8 (tc Tryz.call14 B4A (tc Tryz.call16 B0M (tc Tryz.call19 A5d (tc Tryz.call20 A5e (tc Tryz.call22 E7U (tc Tryz.call24 E7e (tc Tryz.call27 E7l (tc Tryz.call28 E1e (tc Tryz.call29 E1l (tc Tryz.call33 D7h (tc Tryz.call45 C2D (tc Tryz.call47 E64 (tc Tryz.call48 D8C (tc Tryz.call49 D8G A6)))))))))))))) Tryz.func8 (by kernel_rfl) (by decide) (C1H T5 Q6 H3 H4 B2O B2R B2U A7C A7H A0c L4 B0E A9Q A9S)
end
end Go.Proofs.YthnfghmjipikhaaGreatDoor.Ev
