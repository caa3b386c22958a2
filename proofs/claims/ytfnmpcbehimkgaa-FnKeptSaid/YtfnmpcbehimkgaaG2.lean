/- Each function of the program does what its plain function says. -/
import Derived.Test.YtfnmpcbehimkgaaG1
set_option linter.unusedVariables false
set_option maxRecDepth 100000
namespace Go.Proofs.Ytfnmpcbehimkgaa.Ev
noncomputable section
def A4N:Nat→Option Jn:=B6 [(122,⟨[.t 3 false [.own 100000000],.t 4 false [.int .i64],.t 5 false [.int .i64],.r 100000000 66 (.pair (.int .i64) (.pair (.int .i64) (.pair (.int .i64) (.pair .str (.pair (.int .i64) (.rs 5 (.int .u8)))))))],lt 40 6 (lt 9 30 [.b 6,.r 8,.r 42,.r 43,.r 94213,.t 6,.t 7]),false⟩)]
abbrev Z8:List PK:= [.val true (.pair (.rs 9 .str) (.rs 9 .str)) false]
abbrev Z9:List RK:= [.val false (.sl 66 (.pair (.int .i64) (.pair (.int .i64) (.pair (.int .i64) (.pair .str (.pair (.int .i64) (.rs 5 (.int .u8))))))))]
def A00(f:S6):Nat×Fn:=(63,⟨Z8,Z9,fun x=>f x.1⟩)
def A4O:Fn:=(A00 M9).2
theorem A4P(f_s_GetRec:M4):∀ x,(D4 A85 [A3N f_s_GetRec] A4N 47 [.tmp 2] (Try.f63.body.getD .skip) Z8 Z9).fn x=A5i f_s_GetRec x.1:=by intro x;kernel_rfl
theorem A4Q:B3 Try.prog 63 A4O:=sm MO T0 (tc Try.call66 A5x A8) Try.func63 (by kernel_rfl) (by decide) (A4P F8)
def A8D:Nat→Option Jn:=B6 [(63,⟨[],lt 22 6 [],false⟩)]
abbrev A2T:List PK:= [.val true (.pair (.rs 9 .str) (.rs 9 .str)) false]
abbrev A2U:List RK:= [.val true (.pair Y9 (.pair (.int .i64) (.pair (.int .i64) (.sl 36 (.pair .str (.pair (.int .i64) (.pair (.rs 5 (.int .u8)) .bool))))))),.val false .bool]
def A2V(f:Q1):Nat×Fn:=(92,⟨A2T,A2U,fun x=>f x.1⟩)
def A8E:Fn:=(A2V J5).2
theorem A8F(f_s_l12Copy:R7)(f_s_DiskOk:W6)(f_s_ScanRecs:S6)(f_s_FoldRecs_r98_0:L2)(f_s_TopEpoch:A2i):∀ x,(D4 A85 [A45 f_s_l12Copy,A5w f_s_DiskOk,A00 f_s_ScanRecs,A0J f_s_FoldRecs_r98_0,B0E f_s_TopEpoch] A8D 36 [.cell 2 29,.tmp 3] (Try.f92.body.getD .skip) A2T A2U).fn x=Y6 f_s_l12Copy f_s_DiskOk f_s_ScanRecs f_s_FoldRecs_r98_0 f_s_TopEpoch x.1:=by intro x;kernel_rfl
theorem A8G:B3 Try.prog 92 A8E:=sm MO T0 (tc Try.call60 A7I (tc Try.call62 A9F (tc Try.call63 A4Q (tc Try.call64 A3T (tc Try.call100 B6y A8))))) Try.func92 (by kernel_rfl) (by decide) (A8F O9 M3 M9 I1 A0l)
abbrev B4M:List PK:= [.val false (.rs 5 (.int .u8)) false,.val false (.int .i64) false]
abbrev B4N:List RK:= [.val false (.int .i64)]
def B4O(f:A5l):Nat×Fn:=(21,⟨B4M,B4N,fun x=>f x.1 x.2.1⟩)
def C0Z:Fn:=(B4O A3F).2
theorem C0a:∀ x,(D4 cfg [] (B6 []) 15 [.tmp 4] (Try.f21.body.getD .skip) B4M B4N).fn x=A91 x.1 x.2.1:=by intro x;kernel_rfl
theorem C0b:B3 Try.prog 21 C0Z:=sm MO B4 A8 Try.func21 (by kernel_rfl) (by decide) (C0a)
abbrev T8:List PK:= [.val false (.rs 9 .str) false]
abbrev T9:List RK:= [.val false (.sl 9 .str)]
def U0(f:H8):Nat×Fn:=(75,⟨T8,T9,fun x=>f x.1⟩)
def A29:Fn:=(U0 F0).2
theorem A2A:∀ x,(D4 cfg [] (B6 []) 8 [.tmp 2] (Try.f75.body.getD .skip) T8 T9).fn x=M5 x.1:=by intro x;kernel_rfl
theorem A2B:B3 Try.prog 75 A29:=sm MO B4 A8 Try.func75 (by kernel_rfl) (by decide) (A2A)
abbrev B0I:List PK:= [.val true (.pair (.rs 9 .str) (.rs 9 .str)) false]
abbrev B0J:List RK:= [.val true Y9]
def B0K(f:A2k):Nat×Fn:=(54,⟨B0I,B0J,fun x=>f x.1⟩)
def B73:Fn:=(B0K A0n).2
theorem B74(f_slices_Clone_string_string:H8):∀ x,(D4 cfg [U0 f_slices_Clone_string_string] (B6 []) 10 [.cell 2 26] (Try.f54.body.getD .skip) B0I B0J).fn x=A5m f_slices_Clone_string_string x.1:=by intro x;kernel_rfl
theorem B75:B3 Try.prog 54 B73:=sm MO B4 (tc Try.call75 A2B A8) Try.func54 (by kernel_rfl) (by decide) (B74 F0)
def B4z:Nat→Option Jn:=B6 [(58,⟨[.t 17 false [.int .i64],.b 3 [.own 36864,.own 36865,.int .i64,.int .i64,.own 100000000],.r 36864 9 .str,.r 36865 9 .str,.r 100000000 36 kUp],lt 18 11 [.b 5,.r 25,.r 26,.r 102402,.t 5],false⟩)]
abbrev A8d:List PK:= [.val true (.pair (.pair (.rs 9 .str) (.rs 9 .str)) (.pair (.int .i64) (.pair (.int .i64) (.rs 36 kUp)))) false]
abbrev A8e:List RK:= [.val true A5U]
def A4R(f:U8):Nat×Fn:=(28,⟨A8d,A8e,fun x=>f x.1⟩)
def B50:Fn:=(A4R P4).2
theorem B51(f_i_copyUp:V8)(f_i_copyDisk:A2k):∀ x,(D4 cfg [A9C f_i_copyUp,B0K f_i_copyDisk] B4z 30 [.cell 2 29] (Try.f28.body.getD .skip) A8d A8e).fn x=A4G f_i_copyUp f_i_copyDisk x.1:=by intro x;kernel_rfl
theorem A8f:B3 Try.prog 28 B50:=sm MO B4 (tc Try.call37 B3f (tc Try.call54 B75 A8)) Try.func28 (by kernel_rfl) (by decide) (B51 M2 A0n)
abbrev A7P:List PK:= [.ptr A5U]
abbrev A7Q:List RK:= [.val false (.int .i64)]
def A3Z(f:Q8):Nat×Fn:=(58,⟨A7P,A7Q,fun x=>f x.1⟩)
def B4P:Fn:=(A3Z N7).2
theorem B4Q:∀ x,(D4 cfg [] (B6 []) 14 [.tmp 2] (Try.f58.body.getD .skip) A7P A7Q).fn x=A3G x.1:=by intro x;kernel_rfl
theorem A7R:B3 Try.prog 58 B4P:=sm MO B4 A8 Try.func58 (by kernel_rfl) (by decide) (B4Q)
abbrev A18:List PK:= [.ptr A5U,.val false (.int .i64) false,.val false .str false,.val false (.int .i64) false,.val false (.rs 5 (.int .u8)) false]
abbrev A19:List RK:= []
def V1(f:F9):Nat×Fn:=(59,⟨A18,A19,fun x=>f x.1 x.2.1 x.2.2.1 x.2.2.2.1 x.2.2.2.2.1⟩)
def A6U:Fn:=(V1 C7).2
theorem A6V(f_i_fold:A3A)(f_i_PutRec:A1J):∀ x,(D4 cfg [B3w f_i_fold,A9D f_i_PutRec] (B6 []) 59 [] (Try.f59.body.getD .skip) A18 A19).fn x=U9 f_i_fold f_i_PutRec x.1 x.2.1 x.2.2.1 x.2.2.2.1 x.2.2.2.2.1:=by intro x;kernel_rfl
theorem A1A:B3 Try.prog 59 A6U:=sm MO B4 (tc Try.call71 B8X (tc Try.call77 B3p A8)) Try.func59 (by kernel_rfl) (by decide) (A6V A1u A0A)
end
end Go.Proofs.Ytfnmpcbehimkgaa.Ev
