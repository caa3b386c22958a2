/- Each function of the program does what its plain function says. -/
import Derived.Test.YtpdcljonclhhpaaGreatG2
set_option linter.unusedVariables false
set_option maxRecDepth 100000
namespace Go.Proofs.YtpdcljonclhhpaaGreat.Ev
noncomputable section
def C6X:Nat→Option Jn:=B5 [(3,⟨[],lt 8 26 [.x 23],false⟩)]
abbrev B4c:List PK:= [.ptr S9,.val false (.int .i64) false]
abbrev B4d:List RK:= [.val false .bool]
def B4e(f:A4J):Nat×Fn:=(200,⟨B4c,B4d,fun x=>f x.1 x.2.1⟩)
def C6Y:Fn:=(B4e A1c).2
theorem C6Z(f_i_inRange:C0)(f_i_NextReq:A8p):∀ x,(C4 cfg [H3 f_i_inRange,C2L f_i_NextReq] C6X 67 [.tmp 4] (Tryz.f200.body.getD .skip) B4c B4d).fn x=A7k f_i_inRange f_i_NextReq x.1 x.2.1:=by intro x;kernel_rfl
theorem C6a:B3 Tryz.prog 200 C6Y:=sm MO B0 (tc Tryz.call80 I3 (tc Tryz.call259 D3w A6)) Tryz.func200 (by kernel_rfl) (by decide) (C6Z C2 A62)
abbrev B4f:List PK:= [.ptr A7Q]
abbrev B4g:List RK:= [.val false (.int .i64)]
def A1r(f:M1):Nat×Fn:=(277,⟨B4f,B4g,fun x=>f x.1⟩)
def C6b:Fn:=(A1r K6).2
theorem C6c:∀ x,(C4 cfg [] (B5 []) 14 [.tmp 2] (Tryz.f277.body.getD .skip) B4f B4g).fn x=A7l x.1:=by intro x;kernel_rfl
theorem A4c:B3 Tryz.prog 277 C6b:=sm MO B0 A6 Tryz.func277 (by kernel_rfl) (by decide) (C6c)
abbrev A4u:List PK:= [.ptr A7Q,.val false (.int .i64) false,.val false .str false,.val false (.int .i64) false,.val false (.rs 5 (.int .u8)) false]
abbrev A4v:List RK:= []
def Q2(f:E8):Nat×Fn:=(278,⟨A4u,A4v,fun x=>f x.1 x.2.1 x.2.2.1 x.2.2.2.1 x.2.2.2.2.1⟩)
def B36:Fn:=(Q2 C6).2
theorem B37(f_i_fold:A7e)(f_i_PutRec:A5B):∀ x,(C4 cfg [C6L f_i_fold,B7e f_i_PutRec] (B5 []) 59 [] (Tryz.f278.body.getD .skip) A4u A4v).fn x=A0y f_i_fold f_i_PutRec x.1 x.2.1 x.2.2.1 x.2.2.2.1 x.2.2.2.2.1:=by intro x;kernel_rfl
theorem W6:B3 Tryz.prog 278 B36:=sm MO B0 (tc Tryz.call239 D3b (tc Tryz.call288 C6H A6)) Tryz.func278 (by kernel_rfl) (by decide) (B37 A60 A3M)
end
end Go.Proofs.YtpdcljonclhhpaaGreat.Ev
