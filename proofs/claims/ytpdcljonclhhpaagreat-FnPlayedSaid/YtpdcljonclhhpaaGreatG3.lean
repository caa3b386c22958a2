/- Each function of the program does what its plain function says. -/
import Derived.Test.YtpdcljonclhhpaaGreatG2
set_option linter.unusedVariables false
set_option maxRecDepth 100000
namespace Go.Proofs.YtpdcljonclhhpaaGreat.Ev
noncomputable section
abbrev B4x:List PK:= [.val true (.pair .str (.pair (.rs 5 (.int .u8)) E5)) false]
abbrev B4y:List RK:= [.val true B2]
def A4s(f:O9):Nat×Fn:=(190,⟨B4x,B4y,fun x=>f x.1⟩)
def C6H:Fn:=(A4s L2).2
theorem C6I(f_slices_Clone_byte_byte:C9):∀ x,(C5 cfg [J5 f_slices_Clone_byte_byte] (B5 []) 8 [.cell 2 79] (Tryz.f190.body.getD .skip) B4x B4y).fn x=A83 f_slices_Clone_byte_byte x.1:=by intro x;kernel_rfl
theorem A8P:B3 Tryz.prog 190 C6H:=sm MO B1 (tc Tryz.call191 M9 A6) Tryz.func190 (by kernel_rfl) (by decide) (C6I C4)
def C7T:Nat→Option Jn:=B5 [(7,⟨[.b 3 [.own 45056,.own 45057,.int .i64,.int .i64,.own 45060,.own 45061,.own 100000000,.own 57344,.nil,.own 69632,.own 81920],.r 45056 9 .str,.r 45057 9 .str,.r 45060 109 kUp,.r 45061 130 A9,.r 57344 4 .bool,.r 69632 130 A9,.r 81920 3 (.int .i64),.r 100000000 79 B2],lt 21 15 [.b 5,.r 32,.r 33,.r 131073,.t 5],true⟩),(58,⟨[.t 24 false [.int .i64],.b 3 [.own 45056,.own 45057,.int .i64,.int .i64,.own 45060,.own 45061,.own 100000000,.own 57344,.nil,.own 69632,.own 81920],.r 45056 9 .str,.r 45057 9 .str,.r 45060 109 kUp,.r 45061 130 A9,.r 57344 4 .bool,.r 69632 130 A9,.r 81920 3 (.int .i64),.r 100000000 79 B2],lt 25 11 [.b 5,.r 32,.r 33,.r 131073,.t 5],false⟩),(122,⟨[.t 39 false [.int .i64],.b 3 [.own 45056,.own 45057,.int .i64,.int .i64,.own 45060,.own 45061,.own 100000000,.own 57344,.own 100002001,.own 69632,.own 81920],.r 45056 9 .str,.r 45057 9 .str,.r 45060 109 kUp,.r 45061 130 A9,.r 57344 4 .bool,.r 69632 130 A9,.r 81920 3 (.int .i64),.r 100000000 79 B2,.r 100002001 113 F0],lt 40 14 [.b 7,.r 50,.r 51,.r 188416,.t 7],false⟩)]
abbrev B6k:List PK:= [.val true (.pair (.pair (.pair (.pair (.rs 9 .str) (.rs 9 .str)) (.pair (.int .i64) (.pair (.int .i64) (.rs 109 kUp)))) (.rs 130 A9)) (.pair (.rs 79 B2) (.pair (.rs 4 .bool) (.pair (.rs 113 F0) (.pair (.rs 130 A9) (.rs 3 (.int .i64))))))) false]
abbrev B6l:List RK:= [.val true A0b]
def B0F(f:A1B):Nat×Fn:=(107,⟨B6k,B6l,fun x=>f x.1⟩)
def C7U:Fn:=(B0F Z8).2
theorem C7V(f_i_copyServer:A4Y)(f_slices_Clone_impl_Held_impl_Held:F4)(f_slices_Clone_bool_bool:R8)(f_slices_Clone_int_int:U6)(f_i_copyClient:O9)(f_slices_Clone_byte_byte:C9):∀ x,(C5 cfg [B4w f_i_copyServer,N7 f_slices_Clone_impl_Held_impl_Held,A39 f_slices_Clone_bool_bool,A4r f_slices_Clone_int_int,A4s f_i_copyClient,J5 f_slices_Clone_byte_byte] C7T 55 [.cell 2 38] (Tryz.f107.body.getD .skip) B6k B6l).fn x=A9v f_i_copyServer f_slices_Clone_impl_Held_impl_Held f_slices_Clone_bool_bool f_slices_Clone_int_int f_i_copyClient f_slices_Clone_byte_byte x.1:=by intro x;kernel_rfl
theorem B6m:B3 Tryz.prog 107 C7U:=sm MO B1 (tc Tryz.call87 C6G (tc Tryz.call155 X2 (tc Tryz.call188 B0E (tc Tryz.call189 B2f (tc Tryz.call190 A8P (tc Tryz.call191 M9 A6)))))) Tryz.func107 (by kernel_rfl) (by decide) (C7V A1q D8 M6 O8 L2 C4)
abbrev A4t:List PK:= [.ptr (.pair .str (.pair (.rs 5 (.int .u8)) E5))]
abbrev A4u:List RK:= [.val false .bool]
def U8(f:M1):Nat×Fn:=(295,⟨A4t,A4u,fun x=>f x.1⟩)
def B2g:Fn:=(U8 J9).2
theorem B2h:∀ x,(C5 cfg [] (B5 []) 15 [.tmp 2] (Tryz.f295.body.getD .skip) A4t A4u).fn x=A4Z x.1:=by intro x;kernel_rfl
theorem A0r:B3 Tryz.prog 295 B2g:=sm MO B1 A6 Tryz.func295 (by kernel_rfl) (by decide) (B2h)
def D38:Nat→Option Jn:=B5 [(3,⟨[.b 1 [.str,.ro 5 (.int .u8),.int .i64,.int .i64]],lt 6 6 [],false⟩)]
abbrev C2P:List PK:= [.val true (.pair .str (.pair (.rs 5 (.int .u8)) E5)) false]
abbrev C2Q:List RK:= [.val true U1,.val false (.sl 5 (.int .u8)),.val false .bool]
def C2R(f:A99):Nat×Fn:=(259,⟨C2P,C2Q,fun x=>f x.1⟩)
def D39:Fn:=(C2R A6Q).2
theorem D3A(f_i_ClientOk:O6)(f_slices_Clone_byte_byte:C9)(f_i_Crc:A8n)(f_i_Client_isOver:M1):∀ x,(C5 cfg [A4n f_i_ClientOk,J5 f_slices_Clone_byte_byte,C3T f_i_Crc,U8 f_i_Client_isOver] D38 55 [.cell 2 43,.tmp 3,.tmp 4] (Tryz.f259.body.getD .skip) C2P C2Q).fn x=B4A f_i_ClientOk f_slices_Clone_byte_byte f_i_Crc f_i_Client_isOver x.1:=by intro x;kernel_rfl
theorem D3B:B3 Tryz.prog 259 D39:=sm MO B1 (tc Tryz.call145 A7Q (tc Tryz.call191 M9 (tc Tryz.call280 C9Y (tc Tryz.call295 A0r A6)))) Tryz.func259 (by kernel_rfl) (by decide) (D3A L5 C4 A78 J9)
def C6J:Nat→Option Jn:=B5 [(3,⟨[],lt 8 26 [.x 23],false⟩)]
abbrev B4z:List PK:= [.ptr A0b,.val false (.int .i64) false]
abbrev B50:List RK:= [.val false .bool]
def B51(f:A4a):Nat×Fn:=(200,⟨B4z,B50,fun x=>f x.1 x.2.1⟩)
def C6K:Fn:=(B51 A1r).2
theorem C6L(f_i_inRange:C2)(f_i_NextReq:A99):∀ x,(C5 cfg [I9 f_i_inRange,C2R f_i_NextReq] C6J 67 [.tmp 4] (Tryz.f200.body.getD .skip) B4z B50).fn x=A84 f_i_inRange f_i_NextReq x.1 x.2.1:=by intro x;kernel_rfl
theorem C6M:B3 Tryz.prog 200 C6K:=sm MO B1 (tc Tryz.call80 J7 (tc Tryz.call259 D3B A6)) Tryz.func200 (by kernel_rfl) (by decide) (C6L C6 A6Q)
abbrev B52:List PK:= [.ptr A7k]
abbrev B53:List RK:= [.val false (.int .i64)]
def A25(f:M7):Nat×Fn:=(277,⟨B52,B53,fun x=>f x.1⟩)
def C6N:Fn:=(A25 L3).2
theorem C6O:∀ x,(C5 cfg [] (B5 []) 14 [.tmp 2] (Tryz.f277.body.getD .skip) B52 B53).fn x=A85 x.1:=by intro x;kernel_rfl
theorem A4v:B3 Tryz.prog 277 C6N:=sm MO B1 A6 Tryz.func277 (by kernel_rfl) (by decide) (C6O)
abbrev A5C:List PK:= [.ptr A7k,.val false (.int .i64) false,.val false .str false,.val false (.int .i64) false,.val false (.rs 5 (.int .u8)) false]
abbrev A5D:List RK:= []
def Q9(f:F2):Nat×Fn:=(278,⟨A5C,A5D,fun x=>f x.1 x.2.1 x.2.2.1 x.2.2.2.1 x.2.2.2.2.1⟩)
def B3V:Fn:=(Q9 C8).2
theorem B3W(f_i_fold:A7q)(f_i_PutRec:A5J):∀ x,(C5 cfg [C5L f_i_fold,B7i f_i_PutRec] (B5 []) 59 [] (Tryz.f278.body.getD .skip) A5C A5D).fn x=A1E f_i_fold f_i_PutRec x.1 x.2.1 x.2.2.1 x.2.2.2.1 x.2.2.2.2.1:=by intro x;kernel_rfl
theorem X4:B3 Tryz.prog 278 B3V:=sm MO B1 (tc Tryz.call239 D2E (tc Tryz.call288 C5H A6)) Tryz.func278 (by kernel_rfl) (by decide) (B3W A6I A3W)
end
end Go.Proofs.YtpdcljonclhhpaaGreat.Ev
