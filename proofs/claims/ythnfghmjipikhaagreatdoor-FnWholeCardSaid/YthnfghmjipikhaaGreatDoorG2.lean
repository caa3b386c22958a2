/- Each function of the program does what its plain function says. -/
import Derived.Test.YthnfghmjipikhaaGreatDoorG1
set_option linter.unusedVariables false
set_option maxRecDepth 100000
namespace Go.Proofs.YthnfghmjipikhaaGreatDoor.Ev
noncomputable section
def D4N:Nat->Option Jn:=B7 [(7,⟨[],lt 8 8 [],false⟩)]
abbrev C4d:List PK:= [.val true (.pair (.int .i64) (.rs 150 A7)) false,.val false (.int .i64) false]
abbrev C4e:List RK:= [.val true A1q]
def C4f(f:B1k):Nat×Fn:=(196,⟨C4d,C4e,fun x=>f x.1 x.2.1⟩)
def D4O:Fn:=(C4f A7l).2
theorem D4P(f_i_inRange:B9)(f_i_TableOk:P6)(f_i_copyTable:K4)(f_i_Table_trim:A0a):∀ x,(D4 cfg [G3 f_i_inRange,A4K f_i_TableOk,A1U f_i_copyTable,A83 f_i_Table_trim] D4N 21 [.cell 4 32] (Tryz.f196.body.getD .skip) C4d C4e).fn x=B6d f_i_inRange f_i_TableOk f_i_copyTable f_i_Table_trim x.1 x.2.1:=by intro x;kernel_rfl
theorem D4Q:B6 Tryz.prog 196 D4O:=sm MO B3 (tc Tryz.call61 H0 (tc Tryz.call63 A6G (tc Tryz.call64 A3f (tc Tryz.call195 B43 A8)))) Tryz.func196 (by kernel_rfl) (by decide) (D4P C0 N4 I7 O6)
abbrev A2u:List PK:= [.ptr (.pair (.rs 5 (.int .u8)) (.pair (.int .i64) (.pair (.int .i64) (.pair A1q (.sl 150 A7))))),.val false (.int .i64) false]
abbrev A2v:List RK:= []
def H9(f:D5):Nat×Fn:=(163,⟨A2u,A2v,fun x=>f x.1 x.2.1⟩)
def A8M:Fn:=(H9 C1).2
theorem A8N:∀ x,(D4 cfg [] (B7 []) 13 [] (Tryz.f163.body.getD .skip) A2u A2v).fn x=J9 x.1 x.2.1:=by intro x;kernel_rfl
theorem L5:B6 Tryz.prog 163 A8M:=sm MO B3 A8 Tryz.func163 (by kernel_rfl) (by decide) (A8N)
abbrev A1h:List PK:= [.ptr (.pair (.rs 5 (.int .u8)) (.pair (.int .i64) (.pair (.int .i64) (.pair A1q (.sl 150 A7))))),.val false (.int .i64) false]
abbrev A1i:List RK:= [.val false (.int .i64)]
def O2(f:G0):Nat×Fn:=(159,⟨A1h,A1i,fun x=>f x.1 x.2.1⟩)
def A7A:Fn:=(O2 E4).2
theorem A7B(f_i_blockReader_fail:D5)(f_i_GetPrefix:A1R):∀ x,(D4 cfg [H9 f_i_blockReader_fail,A9o f_i_GetPrefix] (B7 []) 31 [.tmp 4] (Tryz.f159.body.getD .skip) A1h A1i).fn x=A0w f_i_blockReader_fail f_i_GetPrefix x.1 x.2.1:=by intro x;kernel_rfl
theorem U7:B6 Tryz.prog 159 A7A:=sm MO B3 (tc Tryz.call163 L5 (tc Tryz.call192 B5p A8)) Tryz.func159 (by kernel_rfl) (by decide) (A7B C1 A0F)
abbrev A2B:List PK:= [.ptr (.pair (.rs 5 (.int .u8)) (.pair (.int .i64) (.pair (.int .i64) (.pair A1q (.sl 150 A7))))),.val false (.int .i64) false]
abbrev A2C:List RK:= [.val true A7]
def V6(f:M0):Nat×Fn:=(158,⟨A2B,A2C,fun x=>f x.1 x.2.1⟩)
def A86:Fn:=(V6 E9).2
theorem A87(f_i_blockReader_fail:D5)(f_i_FieldAt:A8q):∀ x,(D4 cfg [H9 f_i_blockReader_fail,C0i f_i_FieldAt] (B7 []) 21 [.cell 4 150] (Tryz.f158.body.getD .skip) A2B A2C).fn x=A1a f_i_blockReader_fail f_i_FieldAt x.1 x.2.1:=by intro x;kernel_rfl
theorem A2D:B6 Tryz.prog 158 A86:=sm MO B3 (tc Tryz.call163 L5 (tc Tryz.call191 D1t A8)) Tryz.func158 (by kernel_rfl) (by decide) (A87 C1 A67)
abbrev A2w:List PK:= [.ptr (.pair (.rs 5 (.int .u8)) (.pair (.int .i64) (.pair (.int .i64) (.pair A1q (.sl 150 A7)))))]
abbrev A30:List RK:= [.val false .str]
def A31(f:W9):Nat×Fn:=(193,⟨A2w,A30,fun x=>f x.1⟩)
def A8O:Fn:=(A31 K0).2
theorem A8P(f_i_blockReader_fail:D5)(f_i_GetString:A5j):∀ x,(D4 cfg [H9 f_i_blockReader_fail,B5v f_i_GetString] (B7 []) 35 [.tmp 2] (Tryz.f193.body.getD .skip) A2w A30).fn x=A00 f_i_blockReader_fail f_i_GetString x.1:=by intro x;kernel_rfl
theorem A8Q:B6 Tryz.prog 193 A8O:=sm MO B3 (tc Tryz.call163 L5 (tc Tryz.call218 C6D A8)) Tryz.func193 (by kernel_rfl) (by decide) (A8P C1 A3R)
def A6V:Nat->Option Jn:=B7 [(15,⟨[.b 6 [.str,.str],.b 1000 [.ro 5 (.int .u8),.int .i64,.int .i64,.int .i64,.own 100000000,.own 100000001],.r 100000000 150 A7,.r 100000001 150 A7],lt 22 6 (lt 10 11 [.r 43012,.r 43013,.r 55300,.r 55301,.r 112644,.r 112645]),false⟩)]
abbrev A1C:List PK:= [.ptr (.pair (.rs 5 (.int .u8)) (.pair (.int .i64) (.pair (.int .i64) (.pair A1q (.sl 150 A7))))),.val false (.int .i64) false]
abbrev A1D:List RK:= [.val true A7]
def A1E(f:M6):Nat×Fn:=(160,⟨A1C,A1D,fun x=>f x.1 x.2.1⟩)
def A6W:Fn:=(A1E I3).2
theorem A6a(f_i_blockReader_field:M0)(f_i_blockReader_number:G0)(f_i_blockReader_text:W9):∀ x,(D4 cfg [V6 f_i_blockReader_field,O2 f_i_blockReader_number,A31 f_i_blockReader_text] A6V 32 [.cell 4 150] (Tryz.f160.body.getD .skip) A1C A1D).fn x=T4 f_i_blockReader_field f_i_blockReader_number f_i_blockReader_text x.1 x.2.1:=by intro x;kernel_rfl
theorem A6b:B6 Tryz.prog 160 A6W:=sm MO B3 (tc Tryz.call158 A2D (tc Tryz.call159 U7 (tc Tryz.call193 A8Q A8))) Tryz.func160 (by kernel_rfl) (by decide) (A6a E9 E4 K0)
def A7C:Nat->Option Jn:=B7 [(3,⟨[.b 1000 [.ro 5 (.int .u8),.int .i64,.int .i64,.int .i64,.own 100000000,.own 100000001],.r 100000000 150 A7,.r 100000001 150 A7],lt 7 13 [.r 30724,.r 30725,.r 83972,.r 83973],true⟩)]
abbrev A1j:List PK:= [.ptr (.pair (.rs 5 (.int .u8)) (.pair (.int .i64) (.pair (.int .i64) (.pair A1q (.sl 150 A7))))),.val false (.int .i64) false]
abbrev A1k:List RK:= []
def A1l(f:N7):Nat×Fn:=(162,⟨A1j,A1k,fun x=>f x.1 x.2.1⟩)
def A7D:Fn:=(A1l N8).2
theorem A7E(f_i_blockReader_number:G0)(f_i_blockReader_fail:D5)(f_i_Resize:B1k):∀ x,(D4 cfg [O2 f_i_blockReader_number,H9 f_i_blockReader_fail,C4f f_i_Resize] A7C 34 [] (Tryz.f162.body.getD .skip) A1j A1k).fn x=U4 f_i_blockReader_number f_i_blockReader_fail f_i_Resize x.1 x.2.1:=by intro x;kernel_rfl
theorem A7F:B6 Tryz.prog 162 A7D:=sm MO B3 (tc Tryz.call159 U7 (tc Tryz.call163 L5 (tc Tryz.call196 D4Q A8))) Tryz.func162 (by kernel_rfl) (by decide) (A7E E4 C1 A7l)
def A8R:Nat->Option Jn:=B7 [(7,⟨[.b 5 [.str,.str],.b 1000 [.ro 5 (.int .u8),.int .i64,.int .i64,.int .i64,.own 100000000,.own 100000001],.r 100000000 150 A7,.r 100000001 150 A7],lt 16 27 [.r 1004,.r 1005,.r 75780,.r 75781,.r 100356,.r 100357,.r 104452,.r 104453,.r 124932,.r 124933,.r 165889],false⟩)]
abbrev A32:List PK:= [.ptr (.pair (.rs 5 (.int .u8)) (.pair (.int .i64) (.pair (.int .i64) (.pair A1q (.sl 150 A7))))),.val false (.int .i64) false]
abbrev A33:List RK:= []
def A34(f:L2):Nat×Fn:=(110,⟨A32,A33,fun x=>f x.1 x.2.1⟩)
def A8S:Fn:=(A34 F6).2
theorem A8T(f_i_blockReader_field:M0)(f_i_blockReader_number:G0)(f_i_blockReader_literal_r0_0:M6)(f_i_Table_add:A1K)(f_i_blockReader_resize_r0_0:N7)(f_i_blockReader_fail:D5):∀ x,(D4 cfg [V6 f_i_blockReader_field,O2 f_i_blockReader_number,A1E f_i_blockReader_literal_r0_0,A9h f_i_Table_add,A1l f_i_blockReader_resize_r0_0,H9 f_i_blockReader_fail] A8R 64 [] (Tryz.f110.body.getD .skip) A32 A33).fn x=V8 f_i_blockReader_field f_i_blockReader_number f_i_blockReader_literal_r0_0 f_i_Table_add f_i_blockReader_resize_r0_0 f_i_blockReader_fail x.1 x.2.1:=by intro x;kernel_rfl
theorem A8U:B6 Tryz.prog 110 A8S:=sm MO B3 (tc Tryz.call158 A2D (tc Tryz.call159 U7 (tc Tryz.call160 A6b (tc Tryz.call161 B5M (tc Tryz.call162 A7F (tc Tryz.call163 L5 A8)))))) Tryz.func110 (by kernel_rfl) (by decide) (A8T E9 E4 I3 Q8 N8 C1)
def C6E:Nat->Option Jn:=B7 [(3,⟨[],lt 10 8 [],false⟩),(6,⟨[.t 17 false [.bool]],lt 10 7 [],true⟩),(15,⟨[.b 9 [.ro 5 (.int .u8),.int .i64,.int .i64,.int .i64,.own 100002000,.own 100002001],.r 100002000 150 A7,.r 100002001 150 A7],lt 24 12 [.r 94209,.r 149508,.r 149509],true⟩),(60,⟨[.b 9 [.ro 5 (.int .u8),.int .i64,.int .i64,.int .i64,.own 100002000,.own 100002001],.r 100002000 150 A7,.r 100002001 150 A7],lt 24 12 [.r 94209,.r 149508,.r 149509],false⟩)]
abbrev B5w:List PK:= [.val true (.pair (.int .i64) (.rs 150 A7)) false,.val false (.int .i64) false,.val false (.rs 5 (.int .u8)) false]
abbrev B60:List RK:= [.val false (.sl 150 A7),.val true A1q,.val false (.int .i64)]
def A9p(f:A1S):Nat×Fn:=(39,⟨B5w,B60,fun x=>f x.1 x.2.1 x.2.2.1⟩)
def C6F:Fn:=(A9p V0).2
theorem C6G(f_i_inRange:B9)(f_i_TableOk:P6)(f_i_copyTable:K4)(f_i_blockReader_next_r0_0:L2):∀ x,(D4 cfg [G3 f_i_inRange,A4K f_i_TableOk,A1U f_i_copyTable,A34 f_i_blockReader_next_r0_0] C6E 47 [.tmp 6,.cell 7 32,.tmp 8] (Tryz.f39.body.getD .skip) B5w B60).fn x=A9a f_i_inRange f_i_TableOk f_i_copyTable f_i_blockReader_next_r0_0 x.1 x.2.1 x.2.2.1:=by intro x;kernel_rfl
theorem B61:B6 Tryz.prog 39 C6F:=sm MO B3 (tc Tryz.call61 H0 (tc Tryz.call63 A6G (tc Tryz.call64 A3f (tc Tryz.call110 A8U A8)))) Tryz.func39 (by kernel_rfl) (by decide) (C6G C0 N4 I7 F6)
def C94:Nat->Option Jn:=B7 [(26,⟨[.t 5 false [.bool]],[.t 6,.t 7],true⟩)]
abbrev B8C:List PK:= [.val false (.int .i64) false]
abbrev B8D:List RK:= [.val false (.int .i64),.val false (.int .i64)]
def B8E(f:A74):Nat×Fn:=(261,⟨B8C,B8D,fun x=>f x.1⟩)
def C95:Fn:=(B8E A4e).2
theorem C96:∀ x,(D4 cfg [] C94 12 [.tmp 2,.tmp 3] (Tryz.f261.body.getD .skip) B8C B8D).fn x=B1l x.1:=by intro x;kernel_rfl
theorem C97:B6 Tryz.prog 261 C95:=sm MO B3 A8 Tryz.func261 (by kernel_rfl) (by decide) (C96)
def C98:Nat->Option Jn:=B7 [(26,⟨[.t 5 false [.bool]],[.t 6,.t 7],true⟩),(107,⟨[.t 8 false [.bool]],[.t 9,.t 10],true⟩),(431,⟨[.t 11 false [.bool]],[.t 12,.t 13],true⟩)]
abbrev B8F:List PK:= [.val false (.int .i64) false]
abbrev B8G:List RK:= [.val false (.int .i64),.val false (.int .i64)]
def B8H(f:A75):Nat×Fn:=(262,⟨B8F,B8G,fun x=>f x.1⟩)
def C99:Fn:=(B8H A4f).2
theorem C9A:∀ x,(D4 cfg [] C98 16 [.tmp 2,.tmp 3] (Tryz.f262.body.getD .skip) B8F B8G).fn x=B1m x.1:=by intro x;kernel_rfl
theorem C9B:B6 Tryz.prog 262 C99:=sm MO B3 A8 Tryz.func262 (by kernel_rfl) (by decide) (C9A)
def B8I:Nat->Option Jn:=B7 [(26,⟨[.t 5 false [.bool]],lt 6 4 [],true⟩)]
abbrev A92:List PK:= [.val false (.int .i64) false]
abbrev A93:List RK:= [.val false (.int .i64),.val false (.int .i64)]
def A94(f:A1d):Nat×Fn:=(263,⟨A92,A93,fun x=>f x.1⟩)
def B8J:Fn:=(A94 A01).2
theorem B8K:∀ x,(D4 cfg [] B8I 13 [.tmp 2,.tmp 3] (Tryz.f263.body.getD .skip) A92 A93).fn x=A4g x.1:=by intro x;kernel_rfl
theorem B8L:B6 Tryz.prog 263 B8J:=sm MO B3 A8 Tryz.func263 (by kernel_rfl) (by decide) (B8K)
def B9K:Nat->Option Jn:=B7 [(26,⟨[.t 5 false [.bool]],lt 6 4 [],true⟩)]
abbrev B0h:List PK:= [.val false (.int .i64) false]
abbrev B0i:List RK:= [.val false (.int .i64),.val false (.int .i64)]
def B0j(f:A2L):Nat×Fn:=(264,⟨B0h,B0i,fun x=>f x.1⟩)
def B9L:Fn:=(B0j A0d).2
theorem B9M:∀ x,(D4 cfg [] B9K 14 [.tmp 2,.tmp 3] (Tryz.f264.body.getD .skip) B0h B0i).fn x=A5M x.1:=by intro x;kernel_rfl
theorem B9N:B6 Tryz.prog 264 B9L:=sm MO B3 A8 Tryz.func264 (by kernel_rfl) (by decide) (B9M)
abbrev B4H:List PK:= [.val false (.int .i64) false,.val false (.int .i64) false]
abbrev B4I:List RK:= [.val false (.int .i64),.val false (.int .i64)]
def A88(f:A0e):Nat×Fn:=(240,⟨B4H,B4I,fun x=>f x.1 x.2.1⟩)
def C4g:Fn:=(A88 K1).2
theorem C4h(f_i_inRange:B9)(f_i_stepIdle:A74)(f_i_stepOpen:A75)(f_i_stepHalfThere:A1d)(f_i_stepHalfHere:A2L):∀ x,(D4 cfg [G3 f_i_inRange,B8E f_i_stepIdle,B8H f_i_stepOpen,A94 f_i_stepHalfThere,B0j f_i_stepHalfHere] (B7 []) 40 [.tmp 4,.tmp 5] (Tryz.f240.body.getD .skip) B4H B4I).fn x=A7m f_i_inRange f_i_stepIdle f_i_stepOpen f_i_stepHalfThere f_i_stepHalfHere x.1 x.2.1:=by intro x;kernel_rfl
theorem B4J:B6 Tryz.prog 240 C4g:=sm MO B3 (tc Tryz.call61 H0 (tc Tryz.call261 C97 (tc Tryz.call262 C9B (tc Tryz.call263 B8L (tc Tryz.call264 B9N A8))))) Tryz.func240 (by kernel_rfl) (by decide) (C4h C0 A4e A4f A01 A0d)
abbrev B0k:List PK:= [.ptr A0S,.val true (.pair (.int .i64) (.pair (.int .i64) (.pair A61 (.rs 5 (.int .u8))))) false]
abbrev B0l:List RK:= []
def B0m(f:A2M):Nat×Fn:=(241,⟨B0k,B0l,fun x=>f x.1 x.2.1⟩)
def B9O:Fn:=(B0m A0f).2
theorem B9P(f_slices_Clone_byte_byte:B2):∀ x,(D4 cfg [D8 f_slices_Clone_byte_byte] (B7 []) 24 [] (Tryz.f241.body.getD .skip) B0k B0l).fn x=A5N f_slices_Clone_byte_byte x.1 x.2.1:=by intro x;kernel_rfl
theorem B9Q:B6 Tryz.prog 241 B9O:=sm MO B3 (tc Tryz.call144 E6 A8) Tryz.func241 (by kernel_rfl) (by decide) (B9P A9)
abbrev B2F:List PK:= [.ptr A0S,.val true (.pair (.int .i64) (.pair (.int .i64) A61)) false,.val false (.int .i64) false]
abbrev A4r:List RK:= []
def A4s(f:U5):Nat×Fn:=(241,⟨B2F,A4r,fun x=>f x.1 x.2.1 x.2.2.1⟩)
def B2G:Fn:=(A4s O9).2
theorem B2H(f_slices_Clone_byte_byte:B2):∀ x,E2T cfg [D8 f_slices_Clone_byte_byte] (B7 []) 24 [] (Tryz.f241.body.getD .skip) A0S (.pair (.int .i64) (.pair (.int .i64) A61)) (kr:=F5) 9 5 (fun x0=>x0.1.2.2.2.2.2.1) A4r x=A10 f_slices_Clone_byte_byte x.1 x.2.1 x.2.2.1:=by intro x;kernel_rfl
theorem B2I:B6O Tryz.prog ⟨241,B2G,9,6,5⟩:=E3s MO B3 (tc Tryz.call144 E6 A8) Tryz.func241 (by kernel_rfl) (lq:=9) (off:=5) (by decide) (by decide) (fun x0=>rfl) (fun x0=>rfl) (fun x1=>rfl) (B2H A9)
abbrev A89:List PK:= [.ptr A0S,.val false (.int .i64) false,.val false (.int .i64) false]
abbrev A8A:List RK:= [.val false (.int .i64)]
def A44(f:Q5):Nat×Fn:=(216,⟨A89,A8A,fun x=>f x.1 x.2.1 x.2.2.1⟩)
def B71:Fn:=(A44 N0).2
theorem B72(f_i_StreamStep:A0e)(f_i_hearer_ended_r88_0:U5):∀ x,(D9R cfg [A88 f_i_StreamStep] ⟨241,(A4s f_i_hearer_ended_r88_0).2,9,6,5⟩ (B7 []) 40 [.tmp 6] (Tryz.f216.body.getD .skip) A89 A8A).fn x=A40 f_i_StreamStep f_i_hearer_ended_r88_0 x.1 x.2.1 x.2.2.1:=by intro x;kernel_rfl
theorem A8B:B6 Tryz.prog 216 B71:=smA MO B3 (tc Tryz.call240 B4J A8) B2I Tryz.call241 Tryz.func216 (by kernel_rfl) (by decide) (B72 K1 O9)
abbrev C4i:List PK:= [.val false .bool false]
abbrev C4j:List RK:= [.val false (.int .i64)]
def C4k(f:B1n):Nat×Fn:=(238,⟨C4i,C4j,fun x=>f x.1⟩)
def D4R:Fn:=(C4k A7n).2
theorem D4S:∀ x,(D4 cfg [] (B7 []) 4 [.tmp 2] (Tryz.f238.body.getD .skip) C4i C4j).fn x=C2v x.1:=by intro x;kernel_rfl
theorem D4T:B6 Tryz.prog 238 D4R:=sm MO B3 A8 Tryz.func238 (by kernel_rfl) (by decide) (D4S)
def C9C:Nat->Option Jn:=B7 [(15,⟨[.t 6 false [.int .i64]],lt 12 24 [.t 7],false⟩),(122,⟨[.t 6 false [.int .i64],.t 7 false [.int .i64]],lt 12 24 [],false⟩),(1956,⟨[],lt 18 10 [],false⟩)]
abbrev B8M:List PK:= [.val false .str false,.val false (.int .i64) false]
abbrev B8N:List RK:= [.val false (.int .i64),.val false .bool]
def B2J(f:A2N):Nat×Fn:=(164,⟨B8M,B8N,fun x=>f x.1 x.2.1⟩)
def C9D:Fn:=(B2J A11).2
theorem C9E(f_i_inRange:B9)(f_strconv_Itoa:R3):∀ x,(D4 cfg [G3 f_i_inRange,A4p f_strconv_Itoa] C9C 46 [.tmp 4,.tmp 5] (Tryz.f164.body.getD .skip) B8M B8N).fn x=B1o f_i_inRange f_strconv_Itoa x.1 x.2.1:=by intro x;kernel_rfl
theorem B8O:B6 Tryz.prog 164 C9D:=sm MO B3 (tc Tryz.call61 H0 (tc Tryz.call142 A82 A8)) Tryz.func164 (by kernel_rfl) (by decide) (C9E C0 O5)
def D1u:Nat->Option Jn:=B7 [(7,⟨[.t 6 false [.str],.t 7 false [.int .i64]],lt 9 18 [.b 9],true⟩),(58,⟨[.t 6 false [.str],.t 7 false [.int .i64],.t 12 false [.int .i64]],lt 13 14 [.b 9,.t 9],false⟩)]
abbrev C0j:List PK:= [.val false (.rs 150 A7) false,.val false .str false]
abbrev C0k:List RK:= [.val false .str,.val false (.int .i64)]
def B4K(f:A0m):Nat×Fn:=(258,⟨C0j,C0k,fun x=>f x.1 x.2.1⟩)
def D1v:Fn:=(B4K G9).2
theorem D1w:∀ x,(D4 cfg [] D1u 29 [.tmp 4,.tmp 5] (Tryz.f258.body.getD .skip) C0j C0k).fn x=B3U x.1 x.2.1:=by intro x;kernel_rfl
theorem C0l:B6 Tryz.prog 258 D1v:=sm MO B3 A8 Tryz.func258 (by kernel_rfl) (by decide) (D1w)
def D4U:Nat->Option Jn:=B7 [(3,⟨[],lt 3 17 [],false⟩),(26,⟨[.t 3 false [.int .i64]],lt 4 16 [],false⟩)]
abbrev C4l:List PK:= [.val false .str false]
abbrev C4m:List RK:= [.val false .bool]
def C4n(f:A7o):Nat×Fn:=(285,⟨C4l,C4m,fun x=>f x.1⟩)
def D4V:Fn:=(C4n A23).2
theorem D4W:∀ x,(D4 cfg [] D4U 22 [.tmp 2] (Tryz.f285.body.getD .skip) C4l C4m).fn x=B6e x.1:=by intro x;kernel_rfl
theorem D4a:B6 Tryz.prog 285 D4V:=sm MO B3 A8 Tryz.func285 (by kernel_rfl) (by decide) (D4W)
def A6c:Nat->Option Jn:=B7 [(26,⟨[.t 8 false [.int .i64]],lt 9 8 [.t 5,.t 18],false⟩)]
abbrev A1F:List PK:= [.val false (.rs 9 .str) false,.val false .str false]
abbrev A1G:List RK:= [.val false (.int .i64)]
def A1H(f:M7):Nat×Fn:=(306,⟨A1F,A1G,fun x=>f x.1 x.2.1⟩)
def A6d:Fn:=(A1H M8).2
theorem A6e:∀ x,(D4 cfg [] A6c 19 [.tmp 4] (Tryz.f306.body.getD .skip) A1F A1G).fn x=T5 x.1 x.2.1:=by intro x;kernel_rfl
theorem A6f:B6 Tryz.prog 306 A6d:=sm MO B3 A8 Tryz.func306 (by kernel_rfl) (by decide) (A6e)
abbrev A0M:List PK:= [.val false (.rs 9 .str) false,.val false .str false]
abbrev A0N:List RK:= [.val false .bool]
def A0O(f:G8):Nat×Fn:=(286,⟨A0M,A0N,fun x=>f x.1 x.2.1⟩)
def A56:Fn:=(A0O D0).2
theorem A57(f_slices_Index_string_string:M7):∀ x,(D4 cfg [A1H f_slices_Index_string_string] (B7 []) 9 [.tmp 4] (Tryz.f286.body.getD .skip) A0M A0N).fn x=Q0 f_slices_Index_string_string x.1 x.2.1:=by intro x;kernel_rfl
theorem A58:B6 Tryz.prog 286 A56:=sm MO B3 (tc Tryz.call306 A6f A8) Tryz.func286 (by kernel_rfl) (by decide) (A57 M8)
def D4b:Nat->Option Jn:=B7 [(7,⟨[],lt 13 35 (lt 5 4 [.b 5,.r 27,.t 3]),false⟩),(58,⟨[.t 3 false [.bool],.t 15 false [.int .i64]],lt 16 32 (lt 5 4 [.b 5,.r 27]),false⟩),(122,⟨[.t 49 false [.int .i64]],lt 50 11 (lt 10 3 []),false⟩)]
abbrev C4o:List PK:= [.val false (.rs 150 A7) false]
abbrev C4p:List RK:= [.val false .bool]
def C4q(f:B1q):Nat×Fn:=(257,⟨C4o,C4p,fun x=>f x.1⟩)
def D4c:Fn:=(C4q A7p).2
theorem D4d(f_i_valueOf:A0m)(f_i_nameOk:A7o)(f_slices_Contains_string_string:G8):∀ x,(D4 (cfg.withAr [(292,3,9)]) [B4K f_i_valueOf,C4n f_i_nameOk,A0O f_slices_Contains_string_string] D4b 61 [.tmp 2] (Tryz.f257.body.getD .skip) C4o C4p).fn x=B6f f_i_valueOf f_i_nameOk f_slices_Contains_string_string x.1:=by intro x;kernel_rfl
theorem D4e:B6 Tryz.prog 257 D4c:=sm MO (A5F (l:= [(292,3,9)]) B3 ⟨B1N (f:=Tryz.t292) (ti:=⟨false,.str,16,[]⟩) Tryz.underlying292 (by kernel_rfl) (by kernel_rfl) (by kernel_rfl),trivial⟩) (tc Tryz.call258 C0l (tc Tryz.call285 D4a (tc Tryz.call286 A58 A8))) Tryz.func257 (by kernel_rfl) (by decide) (D4d G9 A23 D0)
def E0q:Nat->Option Jn:=B7 [(26,⟨[.t 3 false [.int .i64]],lt 4 8 [],false⟩)]
abbrev D20:List PK:= [.val false .str false]
abbrev D21:List RK:= [.val false (.int .i64)]
def D22(f:B7P):Nat×Fn:=(259,⟨D20,D21,fun x=>f x.1⟩)
def E0r:Fn:=(D22 B3V).2
theorem E0s(f_i_methodOf:A0s):∀ x,(D4 cfg [B29 f_i_methodOf] E0q 13 [.tmp 2] (Tryz.f259.body.getD .skip) D20 D21).fn x=C2w f_i_methodOf x.1:=by intro x;kernel_rfl
theorem E0t:B6 Tryz.prog 259 E0r:=sm MO B3 (tc Tryz.call141 B7t A8) Tryz.func259 (by kernel_rfl) (by decide) (E0s J0)
abbrev A06:List PK:= [.val false .str false,.val false .str false]
abbrev A07:List RK:= [.val false .bool]
def A08(f:J2):Nat×Fn:=(307,⟨A06,A07,fun x=>f x.1 x.2.1⟩)
def A4t:Fn:=(A08 J3).2
theorem A4u:∀ x,(D4 cfg [] (B7 []) 18 [.tmp 4] (Tryz.f307.body.getD .skip) A06 A07).fn x=P0 x.1 x.2.1:=by intro x;kernel_rfl
theorem A4v:B6 Tryz.prog 307 A4t:=sm MO B3 A8 Tryz.func307 (by kernel_rfl) (by decide) (A4u)
abbrev A09:List PK:= [.val false .str false,.val false .str false]
abbrev A0A:List RK:= [.val false .str,.val false .bool]
def A0B(f:J4):Nat×Fn:=(287,⟨A09,A0A,fun x=>f x.1 x.2.1⟩)
def A4w:Fn:=(A0B J5).2
theorem A50(f_internal_stringslite_HasPrefix:J2):∀ x,(D4 cfg [A08 f_internal_stringslite_HasPrefix] (B7 []) 15 [.tmp 4,.tmp 5] (Tryz.f287.body.getD .skip) A09 A0A).fn x=P1 f_internal_stringslite_HasPrefix x.1 x.2.1:=by intro x;kernel_rfl
theorem A51:B6 Tryz.prog 287 A4w:=sm MO B3 (tc Tryz.call307 A4v A8) Tryz.func287 (by kernel_rfl) (by decide) (A50 J3)
abbrev A6k:List PK:= [.val false .str false,.val false .str false]
abbrev A6l:List RK:= [.val false .str,.val false .bool]
def A6m(f:A0T):Nat×Fn:=(260,⟨A6k,A6l,fun x=>f x.1 x.2.1⟩)
def B50:Fn:=(A6m P2).2
theorem B51(f_internal_stringslite_CutPrefix:J4):∀ x,(D4 cfg [A0B f_internal_stringslite_CutPrefix] (B7 []) 11 [.tmp 4,.tmp 5] (Tryz.f260.body.getD .skip) A6k A6l).fn x=A38 f_internal_stringslite_CutPrefix x.1 x.2.1:=by intro x;kernel_rfl
theorem B52:B6 Tryz.prog 260 B50:=sm MO B3 (tc Tryz.call287 A51 A8) Tryz.func260 (by kernel_rfl) (by decide) (B51 J5)
def D7k:Nat->Option Jn:=B7 [(255,⟨[],lt 42 7 [],false⟩)]
abbrev C7T:List PK:= [.val false (.rs 150 A7) false]
abbrev C7U:List RK:= [.val true A61,.val false (.int .i64)]
def C7V(f:B4q):Nat×Fn:=(239,⟨C7T,C7U,fun x=>f x.1⟩)
def D7l:Fn:=(C7V B0D).2
theorem D7m(f_i_numberField:P5)(f_i_idOk:B08)(f_i_numberOf:A2N)(f_i_formOk:B1q)(f_i_valueOf:A0m)(f_i_opOf:B7P)(f_strings_CutPrefix:A0T):∀ x,(D4 cfg [A3r f_i_numberField,C3l f_i_idOk,B2J f_i_numberOf,C4q f_i_formOk,B4K f_i_valueOf,D22 f_i_opOf,A6m f_strings_CutPrefix] D7k 83 [.cell 2 36,.tmp 3] (Tryz.f239.body.getD .skip) C7T C7U).fn x=B91 f_i_numberField f_i_idOk f_i_numberOf f_i_formOk f_i_valueOf f_i_opOf f_strings_CutPrefix x.1:=by intro x;kernel_rfl
theorem D7n:B6 Tryz.prog 239 D7l:=sm MO B3 (tc Tryz.call136 A6T (tc Tryz.call137 D1L (tc Tryz.call164 B8O (tc Tryz.call257 D4e (tc Tryz.call258 C0l (tc Tryz.call259 E0t (tc Tryz.call260 B52 A8))))))) Tryz.func239 (by kernel_rfl) (by decide) (D7m K3 A7U A11 A7p G9 B3V P2)
def B9R:Nat->Option Jn:=B7 [(63,⟨[],lt 51 21 [.t 44,.t 45],false⟩),(1011,⟨[.t 51 false [.bool]],lt 52 12 [],true⟩)]
abbrev B0n:List PK:= [.ptr A0S,.val false (.int .i64) false,.val false .bool false,.val false (.rs 5 (.int .u8)) false]
abbrev B0o:List RK:= [.val false (.int .i64)]
def B0p(f:A2Q):Nat×Fn:=(214,⟨B0n,B0o,fun x=>f x.1 x.2.1 x.2.2.1 x.2.2.2.1⟩)
def B9S:Fn:=(B0p A0g).2
theorem B9T(f_i_GetFields:A1S)(f_i_Conn_str:O8)(f_i_hearer_stepped:Q5)(f_i_headOf:B1n)(f_i_ReqOf:B4q)(f_i_StreamStep:A0e)(f_i_hearer_ended:A2M):∀ x,(D4 cfg [A9p f_i_GetFields,A79 f_i_Conn_str,A44 f_i_hearer_stepped,C4k f_i_headOf,C7V f_i_ReqOf,A88 f_i_StreamStep,B0m f_i_hearer_ended] B9R 121 [.tmp 8] (Tryz.f214.body.getD .skip) B0n B0o).fn x=A5O f_i_GetFields f_i_Conn_str f_i_hearer_stepped f_i_headOf f_i_ReqOf f_i_StreamStep f_i_hearer_ended x.1 x.2.1 x.2.2.1 x.2.2.2.1:=by intro x;kernel_rfl
theorem B9U:B6 Tryz.prog 214 B9S:=sm MO B3 (tc Tryz.call39 B61 (tc Tryz.call83 B2D (tc Tryz.call216 A8B (tc Tryz.call238 D4T (tc Tryz.call239 D7n (tc Tryz.call240 B4J (tc Tryz.call241 B9Q A8))))))) Tryz.func214 (by kernel_rfl) (by decide) (B9T V0 K8 N0 A7n B0D K1 A0f)
def C1B:Nat->Option Jn:=B7 [(7,⟨[.t 5 false [.int .i64],.t 6 false [.bool]],lt 22 6 [],true⟩),(506,⟨[.t 45 false [.bool]],[.t 46,.t 47],true⟩)]
abbrev B2d:List PK:= [.ptr A0S,.val true (.pair (.int .i64) (.pair (.int .i64) (.pair (.int .i64) (.rs 5 (.int .u8))))) false]
abbrev B2e:List RK:= [.val false (.int .i64)]
def B2f(f:A3l):Nat×Fn:=(186,⟨B2d,B2e,fun x=>f x.1 x.2.1⟩)
def C1C:Fn:=(B2f A19).2
theorem C1D(f_i_Feed:B0C)(f_i_Frame_has:H6)(f_i_hearer_block:A2Q):∀ x,(D4 cfg [C4S f_i_Feed,A0L f_i_Frame_has,B0p f_i_hearer_block] C1B 57 [.tmp 4] (Tryz.f186.body.getD .skip) B2d B2e).fn x=A6M f_i_Feed f_i_Frame_has f_i_hearer_block x.1 x.2.1:=by intro x;kernel_rfl
theorem C1E:B6 Tryz.prog 186 C1C:=sm MO B3 (tc Tryz.call38 D1q (tc Tryz.call109 A1V (tc Tryz.call214 B9U A8))) Tryz.func186 (by kernel_rfl) (by decide) (C1D A7h H7 A0g)
abbrev A95:List PK:= [.ptr A0S,.val true (.pair (.int .i64) (.pair (.int .i64) (.pair (.int .i64) (.rs 5 (.int .u8))))) false,.val false (.rs 5 (.int .u8)) false]
abbrev A96:List RK:= []
def A97(f:A1e):Nat×Fn:=(187,⟨A95,A96,fun x=>f x.1 x.2.1 x.2.2.1⟩)
def B8P:Fn:=(A97 A02).2
theorem B8Q(f_i_putFrame:J1)(f_i_Frame_has:H6):∀ x,(D4 cfg [A2i f_i_putFrame,A0L f_i_Frame_has] (B7 []) 21 [] (Tryz.f187.body.getD .skip) A95 A96).fn x=A4h f_i_putFrame f_i_Frame_has x.1 x.2.1 x.2.2.1:=by intro x;kernel_rfl
theorem B8R:B6 Tryz.prog 187 B8P:=sm MO B3 (tc Tryz.call69 A4q (tc Tryz.call109 A1V A8)) Tryz.func187 (by kernel_rfl) (by decide) (B8Q E3 H7)
abbrev B8S:List PK:= [.val false (.rs 5 (.int .u8)) false]
abbrev B8T:List RK:= [.val false (.int .i64),.val false .bool]
def B8U(f:A76):Nat×Fn:=(188,⟨B8S,B8T,fun x=>f x.1⟩)
def C9F:Fn:=(B8U A4i).2
theorem C9G(f_i_GetBig:A5I):∀ x,(D4 cfg [B6v f_i_GetBig] (B7 []) 25 [.tmp 2,.tmp 3] (Tryz.f188.body.getD .skip) B8S B8T).fn x=B1r f_i_GetBig x.1:=by intro x;kernel_rfl
theorem C9H:B6 Tryz.prog 188 C9F:=sm MO B3 (tc Tryz.call155 C48 A8) Tryz.func188 (by kernel_rfl) (by decide) (C9G A1v)
abbrev A8C:List PK:= [.ptr A0S,.val true (.pair (.int .i64) (.pair (.int .i64) (.pair (.int .i64) (.rs 5 (.int .u8))))) false]
abbrev A8D:List RK:= [.val false (.int .i64)]
def A45(f:Q6):Nat×Fn:=(215,⟨A8C,A8D,fun x=>f x.1 x.2.1⟩)
def B73:Fn:=(A45 N1).2
theorem B74:∀ x,(D4 cfg [] (B7 []) 13 [.tmp 4] (Tryz.f215.body.getD .skip) A8C A8D).fn x=A41 x.1 x.2.1:=by intro x;kernel_rfl
theorem A8E:B6 Tryz.prog 215 B73:=sm MO B3 A8 Tryz.func215 (by kernel_rfl) (by decide) (B74)
abbrev B2g:List PK:= [.ptr A0S,.val true (.pair (.int .i64) (.pair (.int .i64) (.pair (.int .i64) (.rs 5 (.int .u8))))) false]
abbrev B2h:List RK:= [.val false (.int .i64)]
def B2i(f:A3m):Nat×Fn:=(189,⟨B2g,B2h,fun x=>f x.1 x.2.1⟩)
def C1F:Fn:=(B2i A1A).2
theorem C1G(f_i_Conn_str:O8)(f_i_Unpad:A7J)(f_i_Frame_has:H6)(f_i_hearer_unknown:Q6)(f_i_hearer_stepped:Q5):∀ x,(D4 cfg [A79 f_i_Conn_str,B9J f_i_Unpad,A0L f_i_Frame_has,A45 f_i_hearer_unknown,A44 f_i_hearer_stepped] (B7 []) 65 [.tmp 4] (Tryz.f189.body.getD .skip) B2g B2h).fn x=A6N f_i_Conn_str f_i_Unpad f_i_Frame_has f_i_hearer_unknown f_i_hearer_stepped x.1 x.2.1:=by intro x;kernel_rfl
theorem C1H:B6 Tryz.prog 189 C1F:=sm MO B3 (tc Tryz.call83 B2D (tc Tryz.call108 C7S (tc Tryz.call109 A1V (tc Tryz.call215 A8E (tc Tryz.call216 A8B A8))))) Tryz.func189 (by kernel_rfl) (by decide) (C1G K8 A5L H7 N1 N0)
abbrev B0q:List PK:= [.ptr A0S,.val true (.pair (.int .i64) (.pair (.int .i64) (.pair (.int .i64) (.rs 5 (.int .u8))))) false]
abbrev B0r:List RK:= [.val false (.int .i64)]
def B0s(f:A2R):Nat×Fn:=(190,⟨B0q,B0r,fun x=>f x.1 x.2.1⟩)
def B9V:Fn:=(B0s A0h).2
theorem B9W(f_i_Conn_str:O8)(f_slices_Delete_impl_Str_impl_Str:E0)(f_i_hearer_unknown:Q6):∀ x,(D4 cfg [A79 f_i_Conn_str,O3 f_slices_Delete_impl_Str_impl_Str,A45 f_i_hearer_unknown] (B7 []) 34 [.tmp 4] (Tryz.f190.body.getD .skip) B0q B0r).fn x=A5P f_i_Conn_str f_slices_Delete_impl_Str_impl_Str f_i_hearer_unknown x.1 x.2.1:=by intro x;kernel_rfl
theorem B9a:B6 Tryz.prog 190 B9V:=sm MO B3 (tc Tryz.call83 B2D (tc Tryz.call86 V7 (tc Tryz.call215 A8E A8))) Tryz.func190 (by kernel_rfl) (by decide) (B9W K8 C4 N1)
def B9b:Nat->Option Jn:=B7 [(122,⟨[.t 25 false [.bool]],[.t 26,.t 27],true⟩)]
abbrev B0t:List PK:= [.ptr A0S,.val true (.pair (.int .i64) (.pair (.int .i64) (.pair (.int .i64) (.rs 5 (.int .u8))))) false]
abbrev B0u:List RK:= [.val false (.int .i64)]
def B0v(f:A0i):Nat×Fn:=(152,⟨B0t,B0u,fun x=>f x.1 x.2.1⟩)
def B9c:Fn:=(B0v Q7).2
theorem B9d(f_i_FrameCode:A1Q)(f_i_hearer_feed:A3l)(f_i_hearer_answer:A1e)(f_i_WindowOf:A76)(f_i_hearer_data:A3m)(f_i_hearer_reset:A2R):∀ x,(D4 cfg [A9n f_i_FrameCode,B2f f_i_hearer_feed,A97 f_i_hearer_answer,B8U f_i_WindowOf,B2i f_i_hearer_data,B0s f_i_hearer_reset] B9b 65 [.tmp 4] (Tryz.f152.body.getD .skip) B0t B0u).fn x=A5Q f_i_FrameCode f_i_hearer_feed f_i_hearer_answer f_i_WindowOf f_i_hearer_data f_i_hearer_reset x.1 x.2.1:=by intro x;kernel_rfl
theorem B9e:B6 Tryz.prog 152 B9c:=sm MO B3 (tc Tryz.call105 B5j (tc Tryz.call186 C1E (tc Tryz.call187 B8R (tc Tryz.call188 C9H (tc Tryz.call189 C1H (tc Tryz.call190 B9a A8)))))) Tryz.func152 (by kernel_rfl) (by decide) (B9d F0 A19 A02 A4i A1A A0h)
def B8V:Nat->Option Jn:=B7 [(14,⟨[.t 5 false [.int .i64],.b 1000 [.int .i64,.own 100000000,.int .i64,.bool,.own 100000001,.int .i64,.own 100000002,.int .i64,.own 100000003,.own 100000004,.int .i64,.int .i64,.own 100000005,.own 100000006],.r 100000000 5 (.int .u8),.r 100000001 5 (.int .u8),.r 100000002 150 A7,.r 100000003 150 A7,.r 100000004 113 F5,.r 100000005 75 A62,.r 100000006 5 (.int .u8)],lt 28 7 (lt 6 14 [.b 6,.r 1001,.r 1004,.r 1006,.r 1008,.r 1009,.r 1012,.r 1013,.r 57347,.r 137217,.r 137220,.r 137222,.r 137224,.r 137225,.r 137228,.r 137229,.t 36]),false⟩)]
abbrev A98:List PK:= [.ptr A0S,.val false (.rs 5 (.int .u8)) false]
abbrev A99:List RK:= [.val false (.int .i64)]
def A9A(f:A1f):Nat×Fn:=(100,⟨A98,A99,fun x=>f x.1 x.2.1⟩)
def B8W:Fn:=(A9A A1g).2
theorem B8a(f_i_GetFrame:R1)(f_slices_Clone_byte_byte:B2)(f_i_hearer_frame:A0i):∀ x,(D4 cfg [A78 f_i_GetFrame,D8 f_slices_Clone_byte_byte,B0v f_i_hearer_frame] B8V 37 [.tmp 4] (Tryz.f100.body.getD .skip) A98 A99).fn x=A4j f_i_GetFrame f_slices_Clone_byte_byte f_i_hearer_frame x.1 x.2.1:=by intro x;kernel_rfl
theorem B8b:B6 Tryz.prog 100 B8W:=sm MO B3 (tc Tryz.call103 B2A (tc Tryz.call144 E6 (tc Tryz.call152 B9e A8))) Tryz.func100 (by kernel_rfl) (by decide) (B8a O7 A9 Q7)
def A8V:Nat->Option Jn:=B7 [(7,⟨[.t 3 false [.int .i64]],lt 9 12 [.t 5,.t 22],true⟩),(58,⟨[.t 3 false [.int .i64],.t 11 false [.int .i64]],lt 12 9 [.t 5,.t 22],false⟩),(250,⟨[.t 6 false [.own 100002000],.t 27 false [.int .i64],.r 100002000 5 (.int .u8)],lt 28 7 [.r 33,.r 102400,.t 8],false⟩)]
abbrev A35:List PK:= [.val false (.rs 27 (.sl 5 (.int .u8))) false]
abbrev A36:List RK:= [.val false (.sl 5 (.int .u8))]
def A37(f:Q3):Nat×Fn:=(101,⟨A35,A36,fun x=>f x.1⟩)
def A8W:Fn:=(A37 L3).2
theorem A8a(f_slices_Grow_byte_byte:R6):∀ x,(D4 cfg [A4J f_slices_Grow_byte_byte] A8V 36 [.tmp 2] (Tryz.f101.body.getD .skip) A35 A36).fn x=V9 f_slices_Grow_byte_byte x.1:=by intro x;kernel_rfl
theorem A8b:B6 Tryz.prog 101 A8W:=sm MO B3 (tc Tryz.call153 B0g A8) Tryz.func101 (by kernel_rfl) (by decide) (A8a R7)
abbrev B62:List PK:= [.val false (.int .i64) false,.val false (.int .i64) false]
abbrev B63:List RK:= [.val false (.sl 5 (.int .u8))]
def B64(f:A5k):Nat×Fn:=(154,⟨B62,B63,fun x=>f x.1 x.2.1⟩)
def C6H:Fn:=(B64 A5l).2
theorem C6I(f_i_putBig:A5H):∀ x,(D4 cfg [B6u f_i_putBig] (B7 []) 9 [.tmp 4] (Tryz.f154.body.getD .skip) B62 B63).fn x=A9b f_i_putBig x.1 x.2.1:=by intro x;kernel_rfl
theorem C6J:B6 Tryz.prog 154 C6H:=sm MO B3 (tc Tryz.call145 C44 A8) Tryz.func154 (by kernel_rfl) (by decide) (C6I A3t)
abbrev B4L:List PK:= [.ptr A0S,.val false (.int .i64) false]
abbrev B4M:List RK:= []
def B4N(f:A4k):Nat×Fn:=(102,⟨B4L,B4M,fun x=>f x.1 x.2.1⟩)
def C4r:Fn:=(B4N A25).2
theorem C4s(f_i_putFrame:J1)(f_i_PutGoAway:A5k):∀ x,(D4 cfg [A2i f_i_putFrame,B64 f_i_PutGoAway] (B7 []) 38 [] (Tryz.f102.body.getD .skip) B4L B4M).fn x=A7q f_i_putFrame f_i_PutGoAway x.1 x.2.1:=by intro x;kernel_rfl
theorem C4t:B6 Tryz.prog 102 C4r:=sm MO B3 (tc Tryz.call69 A4q (tc Tryz.call154 C6J A8)) Tryz.func102 (by kernel_rfl) (by decide) (C4s E3 A5l)
def B2K:Nat->Option Jn:=B7 [(3,⟨[.t 1 false [.ro 5 (.int .u8)],.b 1000 [.int .i64,.own 1001,.int .i64,.bool,.own 1004,.int .i64,.own 1006,.int .i64,.own 1008,.own 1009,.int .i64,.int .i64,.own 1012,.own 1013],.r 1001 5 (.int .u8),.r 1004 5 (.int .u8),.r 1006 150 A7,.r 1008 150 A7,.r 1009 113 F5,.r 1012 75 A62,.r 1013 5 (.int .u8)],lt 6 32 [],false⟩),(12,⟨[.t 1 false [.ro 5 (.int .u8)],.b 1000 [.int .i64,.own 1001,.int .i64,.bool,.own 1004,.int .i64,.own 1006,.int .i64,.own 1008,.own 1009,.int .i64,.int .i64,.own 1012,.own 1013],.r 1001 5 (.int .u8),.r 1004 5 (.int .u8),.r 1006 150 A7,.r 1008 150 A7,.r 1009 113 F5,.r 1012 75 A62,.r 1013 5 (.int .u8)],lt 6 32 [],false⟩),(24,⟨[],lt 6 11 [],false⟩)]
abbrev A52:List PK:= [.ptr A0S,.val false (.rs 5 (.int .u8)) false]
abbrev A53:List RK:= [.val false (.rs 5 (.int .u8)),.val false (.int .i64)]
def A54(f:U6):Nat×Fn:=(99,⟨A52,A53,fun x=>f x.1 x.2.1⟩)
def B2L:Fn:=(A54 G1).2
theorem B2M:∀ x,(D4 cfg [] B2K 39 [.tmp 4,.tmp 5] (Tryz.f99.body.getD .skip) A52 A53).fn x=K9 x.1 x.2.1:=by intro x;kernel_rfl
theorem B2N:B6 Tryz.prog 99 B2L:=sm MO B3 A8 Tryz.func99 (by kernel_rfl) (by decide) (B2M)
def C6K:Nat->Option Jn:=B7 [(7,⟨[],lt 13 8 [],false⟩),(31,⟨[.t 9 false [.int .i64],.b 7 [.int .i64,.own 100001000,.int .i64,.bool,.own 100001001,.int .i64,.own 100001002,.int .i64,.own 100001003,.own 100001004,.int .i64,.int .i64,.own 100001005,.own 100001006],.r 100001000 5 (.int .u8),.r 100001001 5 (.int .u8),.r 100001002 150 A7,.r 100001003 150 A7,.r 100001004 113 F5,.r 100001005 75 A62,.r 100001006 5 (.int .u8)],lt 28 8 [.r 33,.r 108545,.r 108548,.r 108550,.r 108552,.r 108553,.r 108556,.r 108557,.r 143360,.r 149505,.r 149508,.r 149510,.r 149512,.r 149513,.r 149516,.r 149517],true⟩),(63,⟨[.b 7 [.int .i64,.own 100002007,.int .i64,.bool,.own 100002008,.int .i64,.own 100002009,.int .i64,.own 100002010,.own 100002011,.int .i64,.int .i64,.own 100002012,.own 100002013],.r 100002007 5 (.int .u8),.r 100002008 5 (.int .u8),.r 100002009 150 A7,.r 100002010 150 A7,.r 100002011 113 F5,.r 100002012 75 A62,.r 100002013 5 (.int .u8)],lt 36 4 [.r 165889,.r 165892,.r 165894,.r 165896,.r 165897,.r 165900,.r 165901,.r 100001000,.r 100001001,.r 100001002,.r 100001003,.r 100001004,.r 100001005,.r 100001006],true⟩)]
abbrev B65:List PK:= [.val true (.pair (.int .i64) (.pair (.rs 5 (.int .u8)) (.pair (.pair (.int .i64) (.pair .bool (.rs 5 (.int .u8)))) (.pair (.pair (.int .i64) (.rs 150 A7)) (.pair (.pair (.int .i64) (.rs 150 A7)) (.pair (.rs 113 F5) D9)))))) false,.val false (.rs 5 (.int .u8)) false]
abbrev B66:List RK:= [.val true C2n,.val false (.sl 75 A62),.val false (.sl 5 (.int .u8))]
def B67(f:A5m):Nat×Fn:=(33,⟨B65,B66,fun x=>f x.1 x.2.1⟩)
def C6L:Fn:=(B67 A1T).2
theorem C6M(f_i_ConnOk:A5J)(f_i_copyConn:A2J)(f_i_hearer_start_r99_0:U6)(f_i_hearer_frames:A1f)(f_slices_Concat_byte_byte:Q3)(f_i_hearer_end:A4k):∀ x,(D4 cfg [B6w f_i_ConnOk,B2C f_i_copyConn,A54 f_i_hearer_start_r99_0,A9A f_i_hearer_frames,A37 f_slices_Concat_byte_byte,B4N f_i_hearer_end] C6K 46 [.cell 4 55,.tmp 5,.tmp 6] (Tryz.f33.body.getD .skip) B65 B66).fn x=A9c f_i_ConnOk f_i_copyConn f_i_hearer_start_r99_0 f_i_hearer_frames f_slices_Concat_byte_byte f_i_hearer_end x.1 x.2.1:=by intro x;kernel_rfl
theorem C6N:B6 Tryz.prog 33 C6L:=sm MO B3 (tc Tryz.call43 C4E (tc Tryz.call82 B89 (tc Tryz.call99 B2N (tc Tryz.call100 B8b (tc Tryz.call101 A8b (tc Tryz.call102 C4t A8)))))) Tryz.func33 (by kernel_rfl) (by decide) (C6M A3u A0u G1 A1g L3 A25)
abbrev C0m:List PK:= []
abbrev C0n:List RK:= [.val true C2n]
def C0o(f:A8r):Nat×Fn:=(34,⟨C0m,C0n,fun x=>f⟩)
def D23:Fn:=(C0o A8s).2
theorem D24:∀ x,(D4 cfg [] (B7 []) 4 [.cell 0 55] (Tryz.f34.body.getD .skip) C0m C0n).fn x=C04:=by intro x;kernel_rfl
theorem D25:B6 Tryz.prog 34 D23:=sm MO B3 A8 Tryz.func34 (by kernel_rfl) (by decide) (D24)
abbrev C0p:List PK:= []
abbrev C0q:List RK:= [.val false (.sl 5 (.int .u8))]
def C0r(f:A8t):Nat×Fn:=(35,⟨C0p,C0q,fun x=>f⟩)
def D26:Fn:=(C0r A68).2
theorem D27(f_i_putFrame:J1):∀ x,(D4 cfg [A2i f_i_putFrame] (B7 []) 5 [.tmp 0] (Tryz.f35.body.getD .skip) C0p C0q).fn x=B3W f_i_putFrame:=by intro x;kernel_rfl
theorem D28:B6 Tryz.prog 35 D26:=sm MO B3 (tc Tryz.call69 A4q A8) Tryz.func35 (by kernel_rfl) (by decide) (D27 E3)
def C6O:Nat->Option Jn:=B7 [(58,⟨[.t 5 false [.int .i64]],lt 11 15 [],false⟩)]
abbrev B68:List PK:= [.val false (.rs 5 (.int .u8)) false,.val false (.rs 5 (.int .u8)) false]
abbrev B69:List RK:= [.val false .bool]
def B6A(f:A5n):Nat×Fn:=(36,⟨B68,B69,fun x=>f x.1 x.2.1⟩)
def C6P:Fn:=(B6A A3T).2
theorem C6Q:∀ x,(D4 cfg [] C6O 26 [.tmp 4] (Tryz.f36.body.getD .skip) B68 B69).fn x=A9d x.1 x.2.1:=by intro x;kernel_rfl
theorem C6R:B6 Tryz.prog 36 C6P:=sm MO B3 A8 Tryz.func36 (by kernel_rfl) (by decide) (C6Q)
def C4u:Nat->Option Jn:=B7 [(30,⟨[.t 5 false [.own 100000000],.t 6 false [.int .i64],.r 100000000 82 K6],lt 22 5 (lt 7 12 [.b 7,.r 24,.r 25,.r 57347]),false⟩)]
abbrev B4O:List PK:= [.val false (.rs 5 (.int .u8)) false]
abbrev B4P:List RK:= [.val false (.sl 82 K6),.val false (.int .i64),.val false (.int .i64)]
def B4Q(f:A4l):Nat×Fn:=(37,⟨B4O,B4P,fun x=>f x.1⟩)
def C4v:Fn:=(B4Q A26).2
theorem C4w(f_i_GetFrame:R1):∀ x,(D4 cfg [A78 f_i_GetFrame] C4u 27 [.tmp 2,.tmp 3,.tmp 4] (Tryz.f37.body.getD .skip) B4O B4P).fn x=A7r f_i_GetFrame x.1:=by intro x;kernel_rfl
theorem C50:B6 Tryz.prog 37 C4v:=sm MO B3 (tc Tryz.call103 B2A A8) Tryz.func37 (by kernel_rfl) (by decide) (C4w O7)
abbrev C51:List PK:= [.val false .str false]
abbrev C52:List RK:= [.val false (.int .i64),.val false .bool]
def C53(f:B1s):Nat×Fn:=(111,⟨C51,C52,fun x=>f x.1⟩)
def D4f:Fn:=(C53 A27).2
theorem D4g(f_i_numberOf:A2N):∀ x,(D4 cfg [B2J f_i_numberOf] (B7 []) 8 [.tmp 2,.tmp 3] (Tryz.f111.body.getD .skip) C51 C52).fn x=B6g f_i_numberOf x.1:=by intro x;kernel_rfl
theorem D4h:B6 Tryz.prog 111 D4f:=sm MO B3 (tc Tryz.call164 B8O A8) Tryz.func111 (by kernel_rfl) (by decide) (D4g A11)
def A3E:Nat->Option Jn:=B7 [(58,⟨[.t 13 false [.int .i64]],lt 14 12 [.t 5],false⟩)]
abbrev U1:List PK:= [.val false (.rs 150 A7) false,.val false (.rs 150 A7) false]
abbrev U2:List RK:= [.val false .bool]
def U3(f:H1):Nat×Fn:=(112,⟨U1,U2,fun x=>f x.1 x.2.1⟩)
def A3F:Fn:=(U3 E2).2
theorem A3G:∀ x,(D4 (cfg.withEq [(150,1002)]) [] A3E 26 [.tmp 4] (Tryz.f112.body.getD .skip) U1 U2).fn x=L7 x.1 x.2.1:=by intro x;kernel_rfl
theorem A3H:B6 Tryz.prog 112 A3F:=sm MO (B8s (l:= [(150,1002)]) B3 ⟨E2h,trivial⟩) A8 Tryz.func112 (by kernel_rfl) (by decide) (A3G)
def D4i:Nat->Option Jn:=B7 [(31,⟨[.b 4 [.int .i64,.int .i64]],lt 20 12 [],true⟩)]
abbrev C54:List PK:= [.val false (.rs 150 A7) false]
abbrev C55:List RK:= [.val true D9,.val false .bool]
def C56(f:B1t):Nat×Fn:=(40,⟨C54,C55,fun x=>f x.1⟩)
def D4j:Fn:=(C56 A7s).2
theorem D4k(f_i_inRange:B9)(f_i_RespOk:A1w)(f_i_RespFields:A0c)(f_i_Number:B1s)(f_slices_Equal_impl_Field_impl_Field:H1):∀ x,(D4 cfg [G3 f_i_inRange,B2E f_i_RespOk,A85 f_i_RespFields,C53 f_i_Number,U3 f_slices_Equal_impl_Field_impl_Field] D4i 44 [.cell 2 59,.tmp 3] (Tryz.f40.body.getD .skip) C54 C55).fn x=B6h f_i_inRange f_i_RespOk f_i_RespFields f_i_Number f_slices_Equal_impl_Field_impl_Field x.1:=by intro x;kernel_rfl
theorem D4l:B6 Tryz.prog 40 D4j:=sm MO B3 (tc Tryz.call61 H0 (tc Tryz.call84 B70 (tc Tryz.call85 B4A (tc Tryz.call111 D4h (tc Tryz.call112 A3H A8))))) Tryz.func40 (by kernel_rfl) (by decide) (D4k C0 A0v V4 A27 E2)
def C1I:Nat->Option Jn:=B7 [(7,⟨[.t 3 false [.int .i64]],lt 8 20 [.t 4],true⟩),(58,⟨[.t 3 false [.int .i64],.t 4 false [.int .i64]],lt 8 20 [],false⟩),(116,⟨[],lt 8 8 [],false⟩)]
abbrev B2j:List PK:= [.val false (.rs 5 (.int .u8)) false]
abbrev B2k:List RK:= [.new (.pair (.rs 5 (.int .u8)) D9)]
def A6g(f:A7I):Nat×Fn:=(93,⟨B2j,B2k,fun x=>f x.1⟩)
def C1J:Fn:=(A6g A5K).2
theorem C1K:∀ x,(D4 cfg [] C1I 32 [.tmp 2] (Tryz.f93.body.getD .skip) B2j B2k).fn x=B8u x.1:=by intro x;kernel_rfl
theorem B2l:B6 Tryz.prog 93 C1J:=sm MO B3 A8 Tryz.func93 (by kernel_rfl) (by decide) (C1K)
end
end Go.Proofs.YthnfghmjipikhaaGreatDoor.Ev
