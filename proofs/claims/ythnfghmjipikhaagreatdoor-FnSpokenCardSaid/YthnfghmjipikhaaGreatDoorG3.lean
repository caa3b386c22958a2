/- Each function of the program does what its plain function says. -/
import Derived.Test.YthnfghmjipikhaaGreatDoorG2
set_option linter.unusedVariables false
set_option maxRecDepth 100000
namespace Go.Proofs.YthnfghmjipikhaaGreatDoor.Ev
noncomputable section
def D75:Nat->Option Jn:=B7 [(7,⟨[.t 1 false [.int .i64]],[.t 12,.t 13],true⟩),(250,⟨[.t 7 false [.own 100001000],.t 8 false [.int .i64],.r 100001000 5 (.int .u8)],lt 20 13 [.r 11,.r 31,.r 32],false⟩)]
abbrev C7P:List PK:= [.val false (.rs 5 (.int .u8)) false,.val false (.int .i64) false,.val false (.int .i64) false]
abbrev C7Q:List RK:= [.val false (.sl 5 (.int .u8))]
def C7R(f:B2c):Nat×Fn:=(134,⟨C7P,C7Q,fun x=>f x.1 x.2.1 x.2.2.1⟩)
def D76:Fn:=(C7R A85).2
theorem D77(f_s_l1In:J3):∀ x,(C8 cfg [A28 f_s_l1In] D75 34 [.tmp 6] (Tryz.f134.body.getD .skip) C7P C7Q).fn x=B7j f_s_l1In x.1 x.2.1 x.2.2.1:=by intro x;kernel_rfl
theorem D78:B4 Tryz.prog 134 D76:=sm MO B0 (tc Tryz.call53 A3h A8) Tryz.func134 (by kernel_rfl) (by decide) (D77 I7)
abbrev B9v:List PK:= [.val true (.pair (.int .i64) (.pair (.int .i64) (.pair (.int .i64) (.rs 5 (.int .u8))))) false]
abbrev B9w:List RK:= [.val false (.sl 5 (.int .u8))]
def A5F(f:J8):Nat×Fn:=(59,⟨B9v,B9w,fun x=>f x.1⟩)
def D1i:Fn:=(A5F G3).2
theorem D1j(f_s_FrameOk:A9A)(f_s_PutBig:B2c):∀ x,(C8 cfg [C32 f_s_FrameOk,C7R f_s_PutBig] (B7 []) 28 [.tmp 2] (Tryz.f59.body.getD .skip) B9v B9w).fn x=B2d f_s_FrameOk f_s_PutBig x.1:=by intro x;kernel_rfl
theorem A7W:B4 Tryz.prog 59 D1i:=sm MO B0 (tc Tryz.call133 D4U (tc Tryz.call134 D78 A8)) Tryz.func59 (by kernel_rfl) (by decide) (D1j A6W A85)
def C8h:Nat->Option Jn:=B7 [(58,⟨[.t 3 false [.own 100000000],.t 4 false [.int .i64],.r 100000000 5 (.int .u8)],lt 6 13 [.r 5,.r 18,.r 73728],false⟩)]
abbrev B79:List PK:= [.val false (.rs 82 K9) false]
abbrev B7A:List RK:= [.val false (.sl 5 (.int .u8))]
def B7B(f:A69):Nat×Fn:=(57,⟨B79,B7A,fun x=>f x.1⟩)
def C8i:Fn:=(B7B A3P).2
theorem C8j(f_s_PutFrame:J8):∀ x,(C8 cfg [A5F f_s_PutFrame] C8h 20 [.tmp 2] (Tryz.f57.body.getD .skip) B79 B7A).fn x=A9t f_s_PutFrame x.1:=by intro x;kernel_rfl
theorem C8k:B4 Tryz.prog 57 C8i:=sm MO B0 (tc Tryz.call59 A7W A8) Tryz.func57 (by kernel_rfl) (by decide) (C8j G3)
def E3O:Nat->Option Jn:=B7 [(15,⟨[.t 3 false [.int .i64]],[.t 18,.t 19],true⟩),(31,⟨[.t 3 false [.int .i64]],[.t 20,.t 21],true⟩),(506,⟨[.t 9 false [.own 100002000],.t 10 false [.int .i64],.r 100002000 82 K9],lt 22 42 [.b 11,.r 13,.r 53,.r 58,.r 62,.r 63,.t 11,.t 12],false⟩),(1012,⟨[],lt 22 8 [],false⟩),(16201,⟨[.b 11 [.int .i64,.int .i64,.int .i64,.nil]],lt 35 5 [],true⟩),(64807,⟨[.t 12 false [.int .i64],.b 11 [.int .i64,.int .i64,.int .i64,.nil]],lt 43 10 [],true⟩)]
abbrev D4V:List PK:= [.val false (.int .i64) false,.val false .bool false,.val false (.rs 5 (.int .u8)) false,.val false (.int .i64) false]
abbrev D4W:List RK:= [.val false (.sl 82 K9)]
def D4a(f:B8k):Nat×Fn:=(58,⟨D4V,D4W,fun x=>f x.1 x.2.1 x.2.2.1 x.2.2.2.1⟩)
def E3P:Fn:=(D4a B4Q).2
theorem E3Q(f_s_l1In:J3):∀ x,(C8 cfg [A28 f_s_l1In] E3O 65 [.tmp 8] (Tryz.f58.body.getD .skip) D4V D4W).fn x=C5J f_s_l1In x.1 x.2.1 x.2.2.1 x.2.2.2.1:=by intro x;kernel_rfl
theorem E3R:B4 Tryz.prog 58 E3P:=sm MO B0 (tc Tryz.call53 A3h A8) Tryz.func58 (by kernel_rfl) (by decide) (E3Q I7)
def B5q:Nat->Option Jn:=B7 [(15,⟨[.t 6 false [.own 100000000],.b 7 [.int .i64,.ro 150 A6],.r 100000000 5 (.int .u8)],lt 14 27 (lt 8 4 [.b 11,.r 12,.r 39,.r 61441,.r 143360]),true⟩),(122,⟨[.t 6 false [.own 100000000],.t 8 false [.int .i64],.b 7 [.int .i64,.ro 150 A6],.r 100000000 5 (.int .u8)],lt 14 27 (lt 9 3 [.b 11,.r 12,.r 39,.r 61441,.r 143360]),false⟩),(3913,⟨[.t 9 false [.int .i64]],lt 21 6 [],true⟩)]
abbrev A77:List PK:= [.val true (.pair (.int .i64) (.rs 150 A6)) false,.val false (.rs 150 A6) false]
abbrev A78:List RK:= [.val false (.sl 5 (.int .u8)),.val true (.pair (.int .i64) (.rs 150 A6))]
def A79(f:A0N):Nat×Fn:=(55,⟨A77,A78,fun x=>f x.1 x.2.1⟩)
def B5r:Fn:=(A79 S2).2
theorem B5s(f_s_l4Copy:A20)(f_s_PutField_r99_0:U3):∀ x,(C8 cfg [B3C f_s_l4Copy,A8S f_s_PutField_r99_0] B5q 43 [.tmp 4,.cell 5 32] (Tryz.f55.body.getD .skip) A77 A78).fn x=A38 f_s_l4Copy f_s_PutField_r99_0 x.1 x.2.1:=by intro x;kernel_rfl
theorem B5t:B4 Tryz.prog 55 B5r:=sm MO B0 (tc Tryz.call54 B87 (tc Tryz.call129 B8C A8)) Tryz.func55 (by kernel_rfl) (by decide) (B5s A0t J4)
abbrev C33:List PK:= []
abbrev C34:List RK:= [.val false (.sl 5 (.int .u8))]
def C35(f:A9B):Nat×Fn:=(165,⟨C33,C34,fun x=>f⟩)
def D4b:Fn:=(C35 A6a).2
theorem D4c(f_s_PutFrame:J8):∀ x,(C8 cfg [A5F f_s_PutFrame] (B7 []) 6 [.tmp 0] (Tryz.f165.body.getD .skip) C33 C34).fn x=B4R f_s_PutFrame:=by intro x;kernel_rfl
theorem D4d:B4 Tryz.prog 165 D4b:=sm MO B0 (tc Tryz.call59 A7W A8) Tryz.func165 (by kernel_rfl) (by decide) (D4c G3)
def C00:Nat->Option Jn:=B7 [(3,⟨[],lt 18 13 [],false⟩),(6,⟨[.t 30 false [.bool]],lt 18 12 [],true⟩),(31,⟨[.t 4 false [.int .i64]],[.t 49,.t 50],true⟩),(63,⟨[.t 4 false [.int .i64]],[.t 51,.t 52],true⟩),(127,⟨[.t 14 false [.own 100004000],.r 100004000 5 (.int .u8)],lt 53 30 (lt 15 3 [.b 17,.r 72,.r 77,.r 82,.r 200704,.r 335872]),true⟩),(1018,⟨[.t 14 false [.own 100004000],.t 15 false [.int .i64],.r 100004000 5 (.int .u8)],lt 53 30 [.b 17,.r 72,.r 77,.r 82,.r 200704,.r 335872,.t 16,.t 17],false⟩),(65171,⟨[.t 16 false [.int .i64],.b 17 [.int .i64,.int .i64,.int .i64,.nil]],lt 65 7 [],true⟩)]
abbrev A9U:List PK:= [.val true (.pair (.int .i64) (.rs 150 A6)) false,.val false (.int .i64) false,.val true A6i false,.val false (.rs 5 (.int .u8)) false,.val false (.int .i64) false]
abbrev A9V:List RK:= [.val false (.sl 5 (.int .u8)),.val true (.pair (.int .i64) (.rs 150 A6))]
def A9W(f:W9):Nat×Fn:=(11,⟨A9U,A9V,fun x=>f x.1 x.2.1 x.2.2.1 x.2.2.2.1 x.2.2.2.2.1⟩)
def C01:Fn:=(A9W Q9).2
theorem C02(f_s_TableOk:A4N)(f_s_ReqOk:A7d)(f_s_l1In:J3)(f_s_l4Copy:A20)(f_s_PutFields_r99_0:A0N)(f_s_FieldsOf:A7O)(f_s_l16Frames:A69)(f_s_Part:B8k)(f_s_PutFrame:J8):∀ x,(C8 cfg [B5A f_s_TableOk,C15 f_s_ReqOk,A28 f_s_l1In,B3C f_s_l4Copy,A79 f_s_PutFields_r99_0,B9u f_s_FieldsOf,B7B f_s_l16Frames,D4a f_s_Part,A5F f_s_PutFrame] C00 85 [.tmp 10,.cell 11 32] (Tryz.f11.body.getD .skip) A9U A9V).fn x=A50 f_s_TableOk f_s_ReqOk f_s_l1In f_s_l4Copy f_s_PutFields_r99_0 f_s_FieldsOf f_s_l16Frames f_s_Part f_s_PutFrame x.1 x.2.1 x.2.2.1 x.2.2.2.1 x.2.2.2.2.1:=by intro x;kernel_rfl
theorem C03:B4 Tryz.prog 11 C01:=sm MO B0 (tc Tryz.call51 C2k (tc Tryz.call52 C9t (tc Tryz.call53 A3h (tc Tryz.call54 B87 (tc Tryz.call55 B5t (tc Tryz.call56 D1h (tc Tryz.call57 C8k (tc Tryz.call58 E3R (tc Tryz.call59 A7W A8))))))))) Tryz.func11 (by kernel_rfl) (by decide) (C02 Q4 A5e I7 A0t S2 A4w A3P B4Q G3)
def C8l:Nat->Option Jn:=B7 [(58,⟨[.t 5 false [.int .i64]],lt 11 57 [],false⟩)]
abbrev B7C:List PK:= [.val false (.rs 75 A0f) false,.val false (.rs 75 A0f) false]
abbrev B7D:List RK:= [.val false .bool]
def B7E(f:A6A):Nat×Fn:=(42,⟨B7C,B7D,fun x=>f x.1 x.2.1⟩)
def C8m:Fn:=(B7E A3Q).2
theorem C8n(f_w_sameBytes:A0A):∀ x,(C8 (cfg.withEq [(36,2010)]) [B09 f_w_sameBytes] C8l 68 [.tmp 4] (Tryz.f42.body.getD .skip) B7C B7D).fn x=A9u f_w_sameBytes x.1 x.2.1:=by intro x;kernel_rfl
theorem C8o:B4 Tryz.prog 42 C8m:=sm MO (C9H (l:= [(36,2010)]) B0 ⟨E7N,trivial⟩) (tc Tryz.call36 B6t A8) Tryz.func42 (by kernel_rfl) (by decide) (C8n T3)
def C3d:Nat->Option Jn:=B7 [(7,⟨[.t 3 false [.int .i64]],lt 8 20 [.t 4],true⟩),(58,⟨[.t 3 false [.int .i64],.t 4 false [.int .i64]],lt 8 20 [],false⟩),(116,⟨[],lt 8 8 [],false⟩)]
abbrev B3e:List PK:= [.val false (.rs 5 (.int .u8)) false]
abbrev B3f:List RK:= [.new (.pair (.rs 5 (.int .u8)) E9)]
def B3g(f:B5c):Nat×Fn:=(93,⟨B3e,B3f,fun x=>f x.1⟩)
def C3e:Fn:=(B3g B0T).2
theorem C3f:∀ x,(C8 cfg [] C3d 32 [.tmp 2] (Tryz.f93.body.getD .skip) B3e B3f).fn x=C0K x.1:=by intro x;kernel_rfl
theorem C3g:B4 Tryz.prog 93 C3e:=sm MO B0 A8 Tryz.func93 (by kernel_rfl) (by decide) (C3f)
abbrev B3h:List PK:= [.ptr (.pair (.rs 5 (.int .u8)) E9)]
abbrev B3i:List RK:= [.val false (.int .i64)]
def A3t(f:A0r):Nat×Fn:=(115,⟨B3h,B3i,fun x=>f x.1⟩)
def C3h:Fn:=(A3t U2).2
theorem C3i:∀ x,(C8 cfg [] (B7 []) 58 [.tmp 2] (Tryz.f115.body.getD .skip) B3h B3i).fn x=B7g x.1:=by intro x;kernel_rfl
theorem A71:B4 Tryz.prog 115 C3h:=sm MO B0 A8 Tryz.func115 (by kernel_rfl) (by decide) (C3i)
abbrev B1f:List PK:= [.ptr (.pair (.rs 5 (.int .u8)) E9),.val false (.int .i64) false]
abbrev B1g:List RK:= [.val false (.int .i64)]
def N5(f:G7):Nat×Fn:=(98,⟨B1f,B1g,fun x=>f x.1 x.2.1⟩)
def C1a:Fn:=(N5 F3).2
theorem C1b(f_s_l1Byte:A0r):∀ x,(C8 cfg [A3t f_s_l1Byte] (B7 []) 31 [.tmp 4] (Tryz.f98.body.getD .skip) B1f B1g).fn x=B4L f_s_l1Byte x.1 x.2.1:=by intro x;kernel_rfl
theorem P8:B4 Tryz.prog 98 C1a:=sm MO B0 (tc Tryz.call115 A71 A8) Tryz.func98 (by kernel_rfl) (by decide) (C1b U2)
abbrev B5C:List PK:= [.ptr (.pair (.rs 5 (.int .u8)) E9),.val false (.rs 3 (.int .i64)) false]
abbrev B5D:List RK:= [.val false (.int .i64)]
def A5G(f:A2h):Nat×Fn:=(97,⟨B5C,B5D,fun x=>f x.1 x.2.1⟩)
def C7S:Fn:=(A5G V5).2
theorem C7T(f_s_l1Below:G7):∀ x,(C8 cfg [N5 f_s_l1Below] (B7 []) 12 [.tmp 4] (Tryz.f97.body.getD .skip) B5C B5D).fn x=C0N f_s_l1Below x.1 x.2.1:=by intro x;kernel_rfl
theorem A8T:B4 Tryz.prog 97 C7S:=sm MO B0 (tc Tryz.call98 P8 A8) Tryz.func97 (by kernel_rfl) (by decide) (C7T F3)
abbrev B3j:List PK:= [.ptr (.pair (.rs 5 (.int .u8)) E9),.val false (.int .i64) false]
abbrev B3k:List RK:= [.val false .bool]
def A3u(f:A21):Nat×Fn:=(114,⟨B3j,B3k,fun x=>f x.1 x.2.1⟩)
def C3j:Fn:=(A3u A0v).2
theorem C3k(f_s_l1Below:G7):∀ x,(C8 cfg [N5 f_s_l1Below] (B7 []) 9 [.tmp 4] (Tryz.f114.body.getD .skip) B3j B3k).fn x=B7k f_s_l1Below x.1 x.2.1:=by intro x;kernel_rfl
theorem A72:B4 Tryz.prog 114 C3j:=sm MO B0 (tc Tryz.call98 P8 A8) Tryz.func114 (by kernel_rfl) (by decide) (C3k F3)
def C1c:Nat->Option Jn:=B7 [(58,⟨[.t 5 false [.own 100000000],.t 6 false [.int .i64],.b 1000 [.ro 5 (.int .u8),.int .i64,.int .i64],.r 100000000 5 (.int .u8)],lt 8 11 [.r 7,.r 17,.r 18],false⟩)]
abbrev B1h:List PK:= [.ptr (.pair (.rs 5 (.int .u8)) E9),.val false (.int .i64) false]
abbrev B1i:List RK:= [.val false (.sl 5 (.int .u8))]
def A5p(f:P7):Nat×Fn:=(96,⟨B1h,B1i,fun x=>f x.1 x.2.1⟩)
def C1d:Fn:=(A5p N0).2
theorem C1e(f_s_l1Byte:A0r):∀ x,(C8 cfg [A3t f_s_l1Byte] C1c 20 [.tmp 4] (Tryz.f96.body.getD .skip) B1h B1i).fn x=A5j f_s_l1Byte x.1 x.2.1:=by intro x;kernel_rfl
theorem B1j:B4 Tryz.prog 96 C1d:=sm MO B0 (tc Tryz.call115 A71 A8) Tryz.func96 (by kernel_rfl) (by decide) (C1e U2)
def C1f:Nat->Option Jn:=B7 [(15,⟨[.t 4 false [.int .i64],.b 1000 [.ro 5 (.int .u8),.int .i64,.int .i64]],lt 17 19 [],true⟩),(31,⟨[.t 4 false [.int .i64],.b 1000 [.ro 5 (.int .u8),.int .i64,.int .i64]],lt 36 4 [],true⟩),(63,⟨[.b 3 [.int .i64,.int .i64,.int .i64,.nil],.b 1000 [.ro 5 (.int .u8),.int .i64,.int .i64]],lt 40 12 [.r 49],true⟩),(491,⟨[.t 21 false [.bool]],[.t 22,.t 23],true⟩),(1967,⟨[.t 24 false [.bool]],[.t 25,.t 26],true⟩)]
abbrev B1k:List PK:= [.ptr (.pair (.rs 5 (.int .u8)) E9)]
abbrev B1l:List RK:= [.val true K9]
def B1m(f:A0d):Nat×Fn:=(166,⟨B1k,B1l,fun x=>f x.1⟩)
def C1g:Fn:=(B1m T8).2
theorem C1h(f_s_l1In:J3)(f_s_l1Bytes_r0_0:P7)(f_s_l1Int:A2h)(f_s_l1Below:G7)(f_s_l1Once:A21):∀ x,(C8 cfg [A28 f_s_l1In,A5p f_s_l1Bytes_r0_0,A5G f_s_l1Int,N5 f_s_l1Below,A3u f_s_l1Once] C1f 57 [.cell 2 82] (Tryz.f166.body.getD .skip) B1k B1l).fn x=A5k f_s_l1In f_s_l1Bytes_r0_0 f_s_l1Int f_s_l1Below f_s_l1Once x.1:=by intro x;kernel_rfl
theorem C1i:B4 Tryz.prog 166 C1g:=sm MO B0 (tc Tryz.call53 A3h (tc Tryz.call96 B1j (tc Tryz.call97 A8T (tc Tryz.call98 P8 (tc Tryz.call114 A72 A8))))) Tryz.func166 (by kernel_rfl) (by decide) (C1h I7 N0 V5 F3 A0v)
abbrev B5E:List PK:= [.ptr (.pair (.rs 5 (.int .u8)) E9),.val false (.rs 9 .str) false]
abbrev B5F:List RK:= [.val false .str]
def B5G(f:B5e):Nat×Fn:=(151,⟨B5E,B5F,fun x=>f x.1 x.2.1⟩)
def C7U:Fn:=(B5G B0g).2
theorem C7V(f_s_l1Below:G7):∀ x,(C8 cfg [N5 f_s_l1Below] (B7 []) 12 [.tmp 4] (Tryz.f151.body.getD .skip) B5E B5F).fn x=C0O f_s_l1Below x.1 x.2.1:=by intro x;kernel_rfl
theorem C7W:B4 Tryz.prog 151 C7U:=sm MO B0 (tc Tryz.call98 P8 A8) Tryz.func151 (by kernel_rfl) (by decide) (C7V F3)
abbrev B3l:List PK:= [.ptr (.pair (.rs 5 (.int .u8)) E9)]
abbrev B3m:List RK:= [.val true A6i]
def B3n(f:A86):Nat×Fn:=(94,⟨B3l,B3m,fun x=>f x.1⟩)
def C3l:Fn:=(B3n A5i).2
theorem C3m(f_s_l1Int:A2h)(f_s_l1Below:G7)(f_s_l1Once:A21)(f_s_l11Most:A4O)(f_s_l1Str:B5e):∀ x,(C8 cfg [A5G f_s_l1Int,N5 f_s_l1Below,A3u f_s_l1Once,B5B f_s_l11Most,B5G f_s_l1Str] (B7 []) 28 [.cell 2 36] (Tryz.f94.body.getD .skip) B3l B3m).fn x=B7l f_s_l1Int f_s_l1Below f_s_l1Once f_s_l11Most f_s_l1Str x.1:=by intro x;kernel_rfl
theorem C3n:B4 Tryz.prog 94 C3l:=sm MO B0 (tc Tryz.call97 A8T (tc Tryz.call98 P8 (tc Tryz.call114 A72 (tc Tryz.call128 C2n (tc Tryz.call151 C7W A8))))) Tryz.func94 (by kernel_rfl) (by decide) (C3m V5 F3 A0v A0h B0g)
def C1j:Nat->Option Jn:=B7 [(250,⟨[.t 5 false [.own 100000000],.t 7 false [.int .i64],.t 8 false [.int .i64],.b 6 [.int .i64,.ro 150 A6],.b 1000 [.ro 5 (.int .u8),.int .i64,.int .i64],.r 100000000 5 (.int .u8)],lt 16 52 [.b 10,.r 29,.r 33,.r 40,.r 50,.r 55,.r 58,.r 62,.r 67,.r 49152,.r 131072,.r 147456,.r 200707,.r 204800,.r 266240,.r 274432,.t 9,.t 10],false⟩)]
abbrev B1n:List PK:= [.ptr (.pair (.rs 5 (.int .u8)) E9),.val false (.int .i64) false]
abbrev B1o:List RK:= [.val false (.sl 5 (.int .u8))]
def B1p(f:A2i):Nat×Fn:=(113,⟨B1n,B1o,fun x=>f x.1 x.2.1⟩)
def C1k:Fn:=(B1p A0e).2
theorem C1l(f_s_AskWith_r99_0:W9)(f_s_PutFrame:J8)(f_s_l11Req:A86)(f_s_l1Bytes_r0_0:P7)(f_s_l1Int:A2h)(f_s_l1Below:G7)(f_s_Preface:A9B)(f_s_l6Frame_r0_0:A0d):∀ x,(C8 cfg [A9W f_s_AskWith_r99_0,A5F f_s_PutFrame,B3n f_s_l11Req,A5p f_s_l1Bytes_r0_0,A5G f_s_l1Int,N5 f_s_l1Below,C35 f_s_Preface,B1m f_s_l6Frame_r0_0] C1j 69 [.tmp 4] (Tryz.f113.body.getD .skip) B1n B1o).fn x=A5l f_s_AskWith_r99_0 f_s_PutFrame f_s_l11Req f_s_l1Bytes_r0_0 f_s_l1Int f_s_l1Below f_s_Preface f_s_l6Frame_r0_0 x.1 x.2.1:=by intro x;kernel_rfl
theorem C1m:B4 Tryz.prog 113 C1k:=sm MO B0 (tc Tryz.call11 C03 (tc Tryz.call59 A7W (tc Tryz.call94 C3n (tc Tryz.call96 B1j (tc Tryz.call97 A8T (tc Tryz.call98 P8 (tc Tryz.call165 D4d (tc Tryz.call166 C1i A8)))))))) Tryz.func113 (by kernel_rfl) (by decide) (C1l Q9 G3 A5i N0 V5 F3 A6a T8)
def B8D:Nat->Option Jn:=B7 [(15,⟨[.t 5 false [.own 40960],.b 32768 [.ro 5 (.int .u8),.int .i64,.int .i64],.r 40960 5 (.int .u8)],lt 10 11 [.x 20],true⟩)]
abbrev A8U:List PK:= [.val false (.rs 5 (.int .u8)) false]
abbrev A8V:List RK:= [.val false (.sl 5 (.int .u8)),.val false (.int .i64)]
def A8W(f:A0w):Nat×Fn:=(41,⟨A8U,A8V,fun x=>f x.1⟩)
def B8E:Fn:=(A8W U4).2
theorem B8F(f_s_l1New:B5c)(f_s_l1Below:G7)(f_s_l16Talk_r0_0:A2i)(f_s_l1Once:A21)(f_s_l1Byte:A0r):∀ x,(C8 cfg [B3g f_s_l1New,N5 f_s_l1Below,B1p f_s_l16Talk_r0_0,A3u f_s_l1Once,A3t f_s_l1Byte] B8D 27 [.tmp 2,.tmp 3] (Tryz.f41.body.getD .skip) A8U A8V).fn x=A48 f_s_l1New f_s_l1Below f_s_l16Talk_r0_0 f_s_l1Once f_s_l1Byte x.1:=by intro x;kernel_rfl
theorem B8G:B4 Tryz.prog 41 B8E:=sm MO B0 (tc Tryz.call93 C3g (tc Tryz.call98 P8 (tc Tryz.call113 C1m (tc Tryz.call114 A72 (tc Tryz.call115 A71 A8))))) Tryz.func41 (by kernel_rfl) (by decide) (B8F B0T F3 A0e A0v U2)
abbrev A5H:List PK:= [.val false (.rs 5 (.int .u8)) false]
abbrev C04:List RK:= [.val false .bool]
def D1k(f:B8l):Nat×Fn:=(6,⟨A5H,C04,fun x=>f x.1⟩)
def F_w_FnSpoken:Fn:=(D1k B2g).2
theorem D1l(f_w_big:C47)(f_i_HearBytes:A63)(f_i_ConnNew:A92)(f_w_sameBytes:A0A)(f_s_DrawTalk_r99_0:A0w)(f_w_sameCalls:A6A)(f_i_ConnOk:A5S):∀ x,(C8 cfg [D8a f_w_big,B6q f_i_HearBytes,C2h f_i_ConnNew,B09 f_w_sameBytes,A8W f_s_DrawTalk_r99_0,B7E f_w_sameCalls,B80 f_i_ConnOk] (B7 []) 97 [.tmp 2] (Tryz.f6.body.getD .skip) A5H C04).fn x=B2f f_w_big f_i_HearBytes f_i_ConnNew f_w_sameBytes f_s_DrawTalk_r99_0 f_w_sameCalls f_i_ConnOk x.1:=by intro x;kernel_rfl
theorem D1m:B4 Tryz.prog 6 F_w_FnSpoken:=sm MO B0 (tc Tryz.call30 E4k (tc Tryz.call33 C8N (tc Tryz.call34 D45 (tc Tryz.call36 B6t (tc Tryz.call41 B8G (tc Tryz.call42 C8o (tc Tryz.call43 C6V A8))))))) Tryz.func6 (by kernel_rfl) (by decide) (D1l C48 A3M A93 T3 U4 A3Q A40)
end
end Go.Proofs.YthnfghmjipikhaaGreatDoor.Ev
