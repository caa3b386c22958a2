/- Each function of the program does what its plain function says. -/
import Derived.Test.YtpdcljonclhhpaaGreatG2
set_option linter.unusedVariables false
set_option maxRecDepth 100000
namespace Go.Proofs.YtpdcljonclhhpaaGreat.Ev
abbrev A5F:List PK:= [.ptr A7w,.val false (.int .i64) false,.val false .str false,.val false (.int .i64) false,.val false (.rs 5 (.int .u8)) false]
abbrev A5G:List RK:= []
noncomputable def R0(f:F2):Nat×Fn:=(278,⟨A5F,A5G,fun x=>f x.1 x.2.1 x.2.2.1 x.2.2.2.1 x.2.2.2.2.1⟩)
noncomputable def B3i:Fn:=(R0 C8).2
theorem B3j(f_i_fold:A8A)(f_i_PutRec:A5W):∀ x,(C7 cfg [C6r f_i_fold,B87 f_i_PutRec] (B5 []) 59 [] (Tryz.f278.body.getD .skip) A5F A5G).fn x=A1H f_i_fold f_i_PutRec x.1 x.2.1 x.2.2.1 x.2.2.2.1 x.2.2.2.2.1:=by intro x;kernel_rfl
theorem X8:B4 Tryz.prog 278 B3i:=sm MO B1 (tc Tryz.call239 D47 (tc Tryz.call288 C6n A8)) Tryz.func278 (by kernel_rfl) (by decide) (B3j A6T A3e)
end Go.Proofs.YtpdcljonclhhpaaGreat.Ev
