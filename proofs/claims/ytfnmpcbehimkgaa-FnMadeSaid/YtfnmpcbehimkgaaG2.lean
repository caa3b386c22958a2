/- Each function of the program does what its plain function says. -/
import Derived.Test.YtfnmpcbehimkgaaG1
set_option linter.unusedVariables false
set_option maxRecDepth 100000
namespace Go.Proofs.Ytfnmpcbehimkgaa.Ev
noncomputable section
def B8b:Nat→Option Jn:=B6 [(3,⟨[],lt 6 10 [],false⟩),(31,⟨[],lt 24 16 [],false⟩),(63,⟨[],lt 40 15 [.x 50],false⟩)]
abbrev B1o:List PK:= [.val true (.pair (.pair (.rs 9 .str) (.rs 9 .str)) (.pair (.int .i64) (.pair (.int .i64) (.rs 36 kUp)))) false]
abbrev B1p:List RK:= [.val false .bool]
def A48(f:R5):Nat×Fn:=(12,⟨B1o,B1p,fun x=>f x.1⟩)
def B8c:Fn:=(A48 K2).2
theorem B8d(f_i_isEpoch:A0U)(f_i_DiskOk:A5e)(f_i_ScanRecs:A2l)(f_i_FoldRecs:A2m)(f_slices_EqualFunc_impl_Up_impl_Up_impl_Up_impl_Up_r1002_44:B5)(f_i_topFrom:A3v):∀ x,(D5 cfg [A7Q f_i_isEpoch,B42 f_i_DiskOk,B0B f_i_ScanRecs,B0E f_i_FoldRecs,E5 f_slices_EqualFunc_impl_Up_impl_Up_impl_Up_impl_Up_r1002_44,B1n f_i_topFrom] B8b 65 [.tmp 2] (Try.f12.body.getD .skip) B1o B1p).fn x=A71 f_i_isEpoch f_i_DiskOk f_i_ScanRecs f_i_FoldRecs f_slices_EqualFunc_impl_Up_impl_Up_impl_Up_impl_Up_r1002_44 f_i_topFrom x.1:=by intro x;kernel_rfl
theorem A7R:B3 Try.prog 12 B8c:=sm MO B4 (tc Try.call39 B1k (tc Try.call40 C0D (tc Try.call41 B6s (tc Try.call42 B6w (tc Try.call43 L1 (tc Try.call45 B8a A8)))))) Try.func12 (by kernel_rfl) (by decide) (B8d W0 A5f A0r A0t B1 A24)
abbrev B4K:List PK:= [.val true (.pair .str (.pair (.int .i64) (.pair (.rs 5 (.int .u8)) .bool))) false]
abbrev B4L:List RK:= [.val true kUp]
def A9K(f:W5):Nat×Fn:=(37,⟨B4K,B4L,fun x=>f x.1⟩)
def C0T:Fn:=(A9K M4).2
theorem C0U(f_slices_Clone_byte_byte:F7):∀ x,(D5 cfg [P5 f_slices_Clone_byte_byte] (B6 []) 8 [.cell 2 36] (Try.f37.body.getD .skip) B4K B4L).fn x=A5m f_slices_Clone_byte_byte x.1:=by intro x;kernel_rfl
theorem B4M:B3 Try.prog 37 C0T:=sm MO B4 (tc Try.call69 A06 A8) Try.func37 (by kernel_rfl) (by decide) (C0U E1)
abbrev T7:List PK:= [.val false (.rs 9 .str) false]
abbrev T8:List RK:= [.val false (.sl 9 .str)]
def T9(f:H9):Nat×Fn:=(75,⟨T7,T8,fun x=>f x.1⟩)
def A2I:Fn:=(T9 F3).2
theorem A2J:∀ x,(D5 cfg [] (B6 []) 8 [.tmp 2] (Try.f75.body.getD .skip) T7 T8).fn x=M5 x.1:=by intro x;kernel_rfl
theorem A2K:B3 Try.prog 75 A2I:=sm MO B4 A8 Try.func75 (by kernel_rfl) (by decide) (A2J)
abbrev B0F:List PK:= [.val true (.pair (.rs 9 .str) (.rs 9 .str)) false]
abbrev B0G:List RK:= [.val true Z4]
def B0H(f:A2n):Nat×Fn:=(54,⟨B0F,B0G,fun x=>f x.1⟩)
def B6x:Fn:=(B0H A0u).2
theorem B6y(f_slices_Clone_string_string:H9):∀ x,(D5 cfg [T9 f_slices_Clone_string_string] (B6 []) 10 [.cell 2 26] (Try.f54.body.getD .skip) B0F B0G).fn x=A5n f_slices_Clone_string_string x.1:=by intro x;kernel_rfl
theorem B6z:B3 Try.prog 54 B6x:=sm MO B4 (tc Try.call75 A2K A8) Try.func54 (by kernel_rfl) (by decide) (B6y F3)
def B4w:Nat→Option Jn:=B6 [(58,⟨[.t 17 false [.int .i64],.b 3 [.own 36864,.own 36865,.int .i64,.int .i64,.own 100000000],.r 36864 9 .str,.r 36865 9 .str,.r 100000000 36 kUp],lt 18 11 [.b 5,.r 25,.r 26,.r 102402,.t 5],false⟩)]
abbrev A8a:List PK:= [.val true (.pair (.pair (.rs 9 .str) (.rs 9 .str)) (.pair (.int .i64) (.pair (.int .i64) (.rs 36 kUp)))) false]
abbrev A8b:List RK:= [.val true A5W]
def A4S(f:U7):Nat×Fn:=(28,⟨A8a,A8b,fun x=>f x.1⟩)
def B4x:Fn:=(A4S P3).2
theorem B4y(f_i_copyUp:W5)(f_i_copyDisk:A2n):∀ x,(D5 cfg [A9K f_i_copyUp,B0H f_i_copyDisk] B4w 30 [.cell 2 29] (Try.f28.body.getD .skip) A8a A8b).fn x=A4H f_i_copyUp f_i_copyDisk x.1:=by intro x;kernel_rfl
theorem A8c:B3 Try.prog 28 B4x:=sm MO B4 (tc Try.call37 B4M (tc Try.call54 B6z A8)) Try.func28 (by kernel_rfl) (by decide) (B4y M4 A0u)
abbrev A7S:List PK:= [.ptr A5W]
abbrev A7T:List RK:= [.val false (.int .i64)]
def A3c(f:Q5):Nat×Fn:=(58,⟨A7S,A7T,fun x=>f x.1⟩)
def B4N:Fn:=(A3c N7).2
theorem B4O:∀ x,(D5 cfg [] (B6 []) 14 [.tmp 2] (Try.f58.body.getD .skip) A7S A7T).fn x=A3I x.1:=by intro x;kernel_rfl
theorem A7U:B3 Try.prog 58 B4N:=sm MO B4 A8 Try.func58 (by kernel_rfl) (by decide) (B4O)
abbrev A1G:List PK:= [.ptr A5W,.val false (.int .i64) false,.val false .str false,.val false (.int .i64) false,.val false (.rs 5 (.int .u8)) false]
abbrev A1H:List RK:= []
def V1(f:H6):Nat×Fn:=(59,⟨A1G,A1H,fun x=>f x.1 x.2.1 x.2.2.1 x.2.2.2.1 x.2.2.2.2.1⟩)
def A6U:Fn:=(V1 E2).2
theorem A6V(f_i_fold:A3F)(f_i_PutRec:A1X):∀ x,(D5 cfg [B4G f_i_fold,A9I f_i_PutRec] (B6 []) 59 [] (Try.f59.body.getD .skip) A1G A1H).fn x=U9 f_i_fold f_i_PutRec x.1 x.2.1 x.2.2.1 x.2.2.2.1 x.2.2.2.2.1:=by intro x;kernel_rfl
theorem A1I:B3 Try.prog 59 A6U:=sm MO B4 (tc Try.call71 B8W (tc Try.call77 B49 A8)) Try.func59 (by kernel_rfl) (by decide) (A6V A23 A0K)
end
end Go.Proofs.Ytfnmpcbehimkgaa.Ev
