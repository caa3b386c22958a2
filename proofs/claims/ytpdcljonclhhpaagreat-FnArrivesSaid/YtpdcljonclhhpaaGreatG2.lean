/- Each function of the program does what its plain function says. -/
import Derived.Test.YtpdcljonclhhpaaGreatG1
set_option linter.unusedVariables false
set_option maxRecDepth 100000
namespace Go.Proofs.YtpdcljonclhhpaaGreat.Ev
noncomputable section
abbrev B6i:List PK:= [.ptr (.pair (.pair (.pair (.pair (.rs 9 .str) (.rs 9 .str)) (.pair (.int .i64) (.pair (.int .i64) (.rs 109 (.pair .str (.pair (.int .i64) (.pair (.rs 5 (.int .u8)) .bool))))))) (.sl 130 B2)) (.pair (.sl 79 (.pair .str (.pair (.rs 5 (.int .u8)) F8))) (.pair (.sl 4 .bool) (.pair (.sl 113 (.pair (.int .i64) (.pair Y1 (.rs 5 (.int .u8))))) (.pair (.sl 130 B2) (.sl 3 (.int .i64)))))))]
abbrev B6j:List RK:= [.val false .bool]
def B6k(f:A96):Nat×Fn:=(196,⟨B6i,B6j,fun x=>f x.1⟩)
def C7x:Fn:=(B6k A1i).2
theorem C7y(f_s_FlushDisk:A5s):∀ x,(C7 C0u [B6Y f_s_FlushDisk] (B5 []) 46 [.tmp 2] (Tryz.f196.body.getD .skip) B6i B6j).fn x=A97 f_s_FlushDisk x.1:=by intro x;kernel_rfl
theorem C7z:B4 Tryz.prog 196 C7x:=sm MO A3X (tc Tryz.call252 C7l A8) Tryz.func196 (by kernel_rfl) (by decide) (C7y A2f)
def C80:Nat→Option Jn:=B5 [(501,⟨[.b 1000 [.ro 9 .str,.ro 9 .str,.int .i64,.int .i64,.ro 109 (.pair .str (.pair (.int .i64) (.pair (.rs 5 (.int .u8)) .bool))),.own 1005,.own 1006,.own 1007,.own 1008,.own 38,.own 1010],.r 38 130 B2,.r 1005 130 B2,.r 1006 79 (.pair .str (.pair (.rs 5 (.int .u8)) F8)),.r 1007 4 .bool,.r 1008 113 (.pair (.int .i64) (.pair Y1 (.rs 5 (.int .u8)))),.r 1010 3 (.int .i64)],lt 56 28 [.x 62,.x 78,.x 83],true⟩)]
abbrev B6l:List PK:= [.ptr (.pair (.pair (.pair (.pair (.rs 9 .str) (.rs 9 .str)) (.pair (.int .i64) (.pair (.int .i64) (.rs 109 (.pair .str (.pair (.int .i64) (.pair (.rs 5 (.int .u8)) .bool))))))) (.sl 130 B2)) (.pair (.sl 79 (.pair .str (.pair (.rs 5 (.int .u8)) F8))) (.pair (.sl 4 .bool) (.pair (.sl 113 (.pair (.int .i64) (.pair Y1 (.rs 5 (.int .u8))))) (.pair (.sl 130 B2) (.sl 3 (.int .i64))))))),.val false (.int .i64) false]
abbrev B6m:List RK:= [.val false .bool]
def B6n(f:A5x):Nat×Fn:=(197,⟨B6l,B6m,fun x=>f x.1 x.2.1⟩)
def C81:Fn:=(B6n A02).2
theorem C82(f_s_l1In:E6)(f_s_l17Over:A3r)(f_s_l17Hear:A99):∀ x,(C7 C0u [Q9 f_s_l1In,B4m f_s_l17Over,A9g f_s_l17Hear] C80 106 [.tmp 4] (Tryz.f197.body.getD .skip) B6l B6m).fn x=A5y f_s_l1In f_s_l17Over f_s_l17Hear x.1 x.2.1:=by intro x;kernel_rfl
theorem C83:B4 Tryz.prog 197 C81:=sm MO A3X (tc Tryz.call120 S8 (tc Tryz.call253 C2H (tc Tryz.call254 B9L A8))) Tryz.func197 (by kernel_rfl) (by decide) (C82 E4 A1j A6P)
def D0z:Nat→Option Jn:=B5 [(15,⟨[.t 5 false [.own 100000000],.r 100000000 113 (.pair (.int .i64) (.pair Y1 (.rs 5 (.int .u8))))],lt 17 29 [.r 16,.r 44,.r 45,.t 6,.x 31,.x 42],true⟩),(122,⟨[.t 5 false [.own 100000000],.t 6 false [.int .i64],.r 100000000 113 (.pair (.int .i64) (.pair Y1 (.rs 5 (.int .u8))))],lt 17 29 [.r 16,.r 44,.r 45,.x 31,.x 42],false⟩)]
abbrev B9Z:List PK:= [.ptr (.pair (.pair (.pair (.pair (.rs 9 .str) (.rs 9 .str)) (.pair (.int .i64) (.pair (.int .i64) (.rs 109 (.pair .str (.pair (.int .i64) (.pair (.rs 5 (.int .u8)) .bool))))))) (.sl 130 B2)) (.pair (.sl 79 (.pair .str (.pair (.rs 5 (.int .u8)) F8))) (.pair (.sl 4 .bool) (.pair (.sl 113 (.pair (.int .i64) (.pair Y1 (.rs 5 (.int .u8))))) (.pair (.sl 130 B2) (.sl 3 (.int .i64))))))),.val false (.int .i64) false]
abbrev B9a:List RK:= [.val false .bool]
def B9b(f:A7T):Nat×Fn:=(198,⟨B9Z,B9a,fun x=>f x.1 x.2.1⟩)
def D10:Fn:=(B9b A0l).2
theorem D11(f_s_l1In:E6)(f_s_l18Others:A5t)(f_s_CutOff:A3d):∀ x,(C7 C0u [Q9 f_s_l1In,B6b f_s_l18Others,B82 f_s_CutOff] D0z 90 [.tmp 4] (Tryz.f198.body.getD .skip) B9Z B9a).fn x=A7U f_s_l1In f_s_l18Others f_s_CutOff x.1 x.2.1:=by intro x;kernel_rfl
theorem D12:B4 Tryz.prog 198 D10:=sm MO A3X (tc Tryz.call120 S8 (tc Tryz.call255 C7p (tc Tryz.call256 C69 A8))) Tryz.func198 (by kernel_rfl) (by decide) (D11 E4 A2g A0i)
def C6O:Nat→Option Jn:=B5 [(1018,⟨[.t 7 false [.int .i64],.b 1000 [.own 73728,.own 73729,.int .i64,.int .i64,.ro 109 kUp,.nil,.own 1006,.own 1007,.own 28,.own 32,.own 1010],.r 28 113 (.pair (.int .i64) (.pair Y1 (.rs 5 (.int .u8)))),.r 32 130 B2,.r 1006 79 (.pair .str (.pair (.rs 5 (.int .u8)) F8)),.r 1007 4 .bool,.r 1010 3 (.int .i64),.r 73728 9 .str,.r 73729 9 .str],lt 35 29 [.r 233473,.x 54,.x 57,.x 63],false⟩)]
abbrev B4u:List PK:= [.ptr (.pair (.pair (.pair (.pair (.rs 9 .str) (.rs 9 .str)) (.pair (.int .i64) (.pair (.int .i64) (.rs 109 (.pair .str (.pair (.int .i64) (.pair (.rs 5 (.int .u8)) .bool))))))) (.sl 130 B2)) (.pair (.sl 79 (.pair .str (.pair (.rs 5 (.int .u8)) F8))) (.pair (.sl 4 .bool) (.pair (.sl 113 (.pair (.int .i64) (.pair Y1 (.rs 5 (.int .u8))))) (.pair (.sl 130 B2) (.sl 3 (.int .i64))))))),.val false (.rs 4 .bool) false]
abbrev B4v:List RK:= [.val false .bool]
def B4w(f:A4R):Nat×Fn:=(199,⟨B4u,B4v,fun x=>f x.1 x.2.1⟩)
def C6P:Fn:=(B4w W7).2
theorem C6Q(f_s_CutOff:A3d)(f_s_OpenStore_r99_0:A0C)(f_s_FallDisk:A7M):∀ x,(C7 C0u [B82 f_s_CutOff,A77 f_s_OpenStore_r99_0,B9R f_s_FallDisk] C6O 64 [.tmp 4] (Tryz.f199.body.getD .skip) B4u B4v).fn x=A4S f_s_CutOff f_s_OpenStore_r99_0 f_s_FallDisk x.1 x.2.1:=by intro x;kernel_rfl
theorem C6R:B4 Tryz.prog 199 C6P:=sm MO A3X (tc Tryz.call256 C69 (tc Tryz.call257 B66 (tc Tryz.call258 D0u A8))) Tryz.func199 (by kernel_rfl) (by decide) (C6Q A0i E1 A0j)
abbrev C2X:List PK:= [.ptr (.pair (.pair (.pair (.pair (.rs 9 .str) (.rs 9 .str)) (.pair (.int .i64) (.pair (.int .i64) (.rs 109 (.pair .str (.pair (.int .i64) (.pair (.rs 5 (.int .u8)) .bool))))))) (.sl 130 B2)) (.pair (.sl 79 (.pair .str (.pair (.rs 5 (.int .u8)) F8))) (.pair (.sl 4 .bool) (.pair (.sl 113 (.pair (.int .i64) (.pair Y1 (.rs 5 (.int .u8))))) (.pair (.sl 130 B2) (.sl 3 (.int .i64))))))),.val true (.pair (.int .i64) (.pair (.int .i64) (.rs 4 .bool))) false]
abbrev C2Y:List RK:= [.val false .bool]
def C2Z(f:A6R):Nat×Fn:=(111,⟨C2X,C2Y,fun x=>f x.1 x.2.1⟩)
def D3j:Fn:=(C2Z A0Y).2
theorem D3k(f_s_l18Send_W:A5u)(f_s_l18Serve_W:A4P)(f_s_l18Sync:A96)(f_s_l18Tell_W:A5x)(f_s_l18Cut_W:A7T)(f_s_l18Crash_W:A4R):∀ x,(C7 C0u [B6e f_s_l18Send_W,B4t f_s_l18Serve_W,B6k f_s_l18Sync,B6n f_s_l18Tell_W,B9b f_s_l18Cut_W,B4w f_s_l18Crash_W] (B5 []) 41 [.tmp 4] (Tryz.f111.body.getD .skip) C2X C2Y).fn x=A9F f_s_l18Send_W f_s_l18Serve_W f_s_l18Sync f_s_l18Tell_W f_s_l18Cut_W f_s_l18Crash_W x.1 x.2.1:=by intro x;kernel_rfl
theorem D3l:B4 Tryz.prog 111 D3j:=sm MO A3X (tc Tryz.call194 C7t (tc Tryz.call195 C6N (tc Tryz.call196 C7z (tc Tryz.call197 C83 (tc Tryz.call198 D12 (tc Tryz.call199 C6R A8)))))) Tryz.func111 (by kernel_rfl) (by decide) (D3k Z9 W6 A1i A02 A0l W7)
abbrev C6S:List PK:= [.val false (.rs 5 (.int .u8)) false,.val false (.int .i64) false]
abbrev C6T:List RK:= [.val false (.int .i64)]
def C6U(f:B22):Nat×Fn:=(69,⟨C6S,C6T,fun x=>f x.1 x.2.1⟩)
def D6G:Fn:=(C6U A84).2
theorem D6H:∀ x,(C7 cfg [] (B5 []) 15 [.tmp 4] (Tryz.f69.body.getD .skip) C6S C6T).fn x=B7Z x.1 x.2.1:=by intro x;kernel_rfl
theorem D6I:B4 Tryz.prog 69 D6G:=sm MO B1 A8 Tryz.func69 (by kernel_rfl) (by decide) (D6H)
abbrev A3A:List PK:= [.val false (.rs 5 (.int .u8)) false]
abbrev A3B:List RK:= [.val false (.sl 5 (.int .u8))]
def J5(f:C9):Nat×Fn:=(191,⟨A3A,A3B,fun x=>f x.1⟩)
def B0L:Fn:=(J5 C6).2
theorem B0M:∀ x,(C7 cfg [] (B5 []) 8 [.tmp 2] (Tryz.f191.body.getD .skip) A3A A3B).fn x=A03 x.1:=by intro x;kernel_rfl
theorem M8:B4 Tryz.prog 191 B0L:=sm MO B1 A8 Tryz.func191 (by kernel_rfl) (by decide) (B0M)
abbrev C6V:List PK:= [.val true (.pair .str (.pair (.int .i64) (.pair (.rs 5 (.int .u8)) .bool))) false]
abbrev C6W:List RK:= [.val true kUp]
def B84(f:A1n):Nat×Fn:=(144,⟨C6V,C6W,fun x=>f x.1⟩)
def D6J:Fn:=(B84 T8).2
theorem D6K(f_slices_Clone_byte_byte:C9):∀ x,(C7 cfg [J5 f_slices_Clone_byte_byte] (B5 []) 8 [.cell 2 109] (Tryz.f144.body.getD .skip) C6V C6W).fn x=B23 f_slices_Clone_byte_byte x.1:=by intro x;kernel_rfl
theorem C6X:B4 Tryz.prog 144 D6J:=sm MO B1 (tc Tryz.call191 M8 A8) Tryz.func144 (by kernel_rfl) (by decide) (D6K C6)
def E1Q:Nat→Option Jn:=B5 [(3,⟨[],lt 7 12 [.b 7,.t 21],false⟩),(26,⟨[.t 11 false [.int .i64]],lt 12 7 [.b 7,.t 7,.t 21],false⟩)]
abbrev D3m:List PK:= [.val true (.pair (.pair (.rs 9 .str) (.rs 9 .str)) (.pair (.int .i64) (.pair (.int .i64) (.rs 109 kUp)))) false,.val false .str false]
abbrev D3n:List RK:= [.val true kUp,.val false .bool]
def B4x(f:Z1):Nat×Fn:=(75,⟨D3m,D3n,fun x=>f x.1 x.2.1⟩)
def E1R:Fn:=(B4x W8).2
theorem E1S(f_i_copyUp:A1n):∀ x,(C7 cfg [B84 f_i_copyUp] E1Q 23 [.cell 4 109,.tmp 5] (Tryz.f75.body.getD .skip) D3m D3n).fn x=C4o f_i_copyUp x.1 x.2.1:=by intro x;kernel_rfl
theorem B9c:B4 Tryz.prog 75 E1R:=sm MO B1 (tc Tryz.call144 C6X A8) Tryz.func75 (by kernel_rfl) (by decide) (E1S T8)
abbrev B6o:List PK:= [.val false (.rs 5 (.int .u8)) false,.val false (.rs 5 (.int .u8)) false]
abbrev B6p:List RK:= [.val false .bool]
def A6G(f:R9):Nat×Fn:=(77,⟨B6o,B6p,fun x=>f x.1 x.2.1⟩)
def C84:Fn:=(A6G M5).2
theorem C85:∀ x,(C7 cfg [] (B5 []) 10 [.tmp 4] (Tryz.f77.body.getD .skip) B6o B6p).fn x=A2k x.1 x.2.1:=by intro x;kernel_rfl
theorem B0N:B4 Tryz.prog 77 C84:=sm MO B1 A8 Tryz.func77 (by kernel_rfl) (by decide) (C85)
abbrev A9k:List PK:= [.val false (.rs 5 (.int .u8)) false,.val false (.rs 5 (.int .u8)) false]
abbrev A9l:List RK:= [.val false .bool]
def A9m(f:Z2):Nat×Fn:=(76,⟨A9k,A9l,fun x=>f x.1 x.2.1⟩)
def B9d:Fn:=(A9m T2).2
theorem B9e(f_bytes_Equal:R9):∀ x,(C7 cfg [A6G f_bytes_Equal] (B5 []) 18 [.tmp 4] (Tryz.f76.body.getD .skip) A9k A9l).fn x=A4T f_bytes_Equal x.1 x.2.1:=by intro x;kernel_rfl
theorem B9f:B4 Tryz.prog 76 B9d:=sm MO B1 (tc Tryz.call77 B0N A8) Tryz.func76 (by kernel_rfl) (by decide) (B9e M5)
def D6L:Nat→Option Jn:=B5 [(26,⟨[.t 10 false [.int .i64]],lt 11 30 (lt 4 3 [.b 4,.b 5,.r 86018]),false⟩)]
abbrev C6Y:List PK:= [.val true (.pair (.pair (.pair (.pair (.rs 9 .str) (.rs 9 .str)) (.pair (.int .i64) (.pair (.int .i64) (.rs 109 kUp)))) (.rs 130 B2)) (.pair (.rs 79 B3) (.pair (.rs 4 .bool) (.pair (.rs 113 G0) (.pair (.rs 130 B2) (.rs 3 (.int .i64))))))) false]
abbrev C6Z:List RK:= [.val false .bool]
def C6a(f:B24):Nat×Fn:=(19,⟨C6Y,C6Z,fun x=>f x.1⟩)
def D6M:Fn:=(C6a A86).2
theorem D6N(f_i_UpAt:Z1)(f_bytes_HasPrefix:Z2):∀ x,(C7 cfg [B4x f_i_UpAt,A9m f_bytes_HasPrefix] D6L 41 [.tmp 2] (Tryz.f19.body.getD .skip) C6Y C6Z).fn x=C4p f_i_UpAt f_bytes_HasPrefix x.1:=by intro x;kernel_rfl
theorem D6O:B4 Tryz.prog 19 D6M:=sm MO B1 (tc Tryz.call75 B9c (tc Tryz.call76 B9f A8)) Tryz.func19 (by kernel_rfl) (by decide) (D6N W8 T2)
def D3o:Nat→Option Jn:=B5 [(26,⟨[.t 10 false [.int .i64]],lt 11 40 (lt 3 4 [.b 4,.b 5,.r 143362]),false⟩),(1689,⟨[],lt 15 13 [],false⟩)]
abbrev C2a:List PK:= [.val true (.pair (.pair (.pair (.pair (.rs 9 .str) (.rs 9 .str)) (.pair (.int .i64) (.pair (.int .i64) (.rs 109 kUp)))) (.rs 130 B2)) (.pair (.rs 79 B3) (.pair (.rs 4 .bool) (.pair (.rs 113 G0) (.pair (.rs 130 B2) (.rs 3 (.int .i64))))))) false]
abbrev C2b:List RK:= [.val false .bool]
def C2c(f:A9G):Nat×Fn:=(20,⟨C2a,C2b,fun x=>f x.1⟩)
def D3p:Fn:=(C2c A6S).2
theorem D3q(f_i_UpAt:Z1):∀ x,(C7 cfg [B4x f_i_UpAt] D3o 51 [.tmp 2] (Tryz.f20.body.getD .skip) C2a C2b).fn x=C1s f_i_UpAt x.1:=by intro x;kernel_rfl
theorem D3r:B4 Tryz.prog 20 D3p:=sm MO B1 (tc Tryz.call75 B9c A8) Tryz.func20 (by kernel_rfl) (by decide) (D3q W8)
def E1T:Nat→Option Jn:=B5 [(26,⟨[.t 10 false [.int .i64]],lt 11 33 (lt 4 3 [.b 4,.b 5,.r 86018]),false⟩)]
abbrev D3s:List PK:= [.val true (.pair (.pair (.pair (.pair (.rs 9 .str) (.rs 9 .str)) (.pair (.int .i64) (.pair (.int .i64) (.rs 109 kUp)))) (.rs 130 B2)) (.pair (.rs 79 B3) (.pair (.rs 4 .bool) (.pair (.rs 113 G0) (.pair (.rs 130 B2) (.rs 3 (.int .i64))))))) false]
abbrev D3t:List RK:= [.val false .bool]
def D3u(f:B8a):Nat×Fn:=(21,⟨D3s,D3t,fun x=>f x.1⟩)
def E1U:Fn:=(D3u B4F).2
theorem E1V(f_i_UpAt:Z1)(f_bytes_Equal:R9):∀ x,(C7 cfg [B4x f_i_UpAt,A6G f_bytes_Equal] E1T 44 [.tmp 2] (Tryz.f21.body.getD .skip) D3s D3t).fn x=D1y f_i_UpAt f_bytes_Equal x.1:=by intro x;kernel_rfl
theorem E1W:B4 Tryz.prog 21 E1U:=sm MO B1 (tc Tryz.call75 B9c (tc Tryz.call77 B0N A8)) Tryz.func21 (by kernel_rfl) (by decide) (E1V W8 M5)
def C86:Nat→Option Jn:=B5 [(26,⟨[.t 8 false [.int .i64]],lt 9 7 [.b 4,.t 4],false⟩)]
abbrev B6q:List PK:= [.val true (.pair (.pair (.pair (.pair (.rs 9 .str) (.rs 9 .str)) (.pair (.int .i64) (.pair (.int .i64) (.rs 109 kUp)))) (.rs 130 B2)) (.pair (.rs 79 B3) (.pair (.rs 4 .bool) (.pair (.rs 113 G0) (.pair (.rs 130 B2) (.rs 3 (.int .i64))))))) false]
abbrev B6r:List RK:= [.val false .bool]
def B6s(f:A60):Nat×Fn:=(22,⟨B6q,B6r,fun x=>f x.1⟩)
def C87:Fn:=(B6s A2l).2
theorem C88:∀ x,(C7 cfg [] C86 16 [.tmp 2] (Tryz.f22.body.getD .skip) B6q B6r).fn x=B02 x.1:=by intro x;kernel_rfl
theorem C89:B4 Tryz.prog 22 C87:=sm MO B1 A8 Tryz.func22 (by kernel_rfl) (by decide) (C88)
abbrev C2d:List PK:= [.val false (.int .i64) false,.val false (.int .i64) false,.val false (.int .i64) false]
abbrev C2e:List RK:= [.val false .bool]
def I1(f:C0):Nat×Fn:=(80,⟨C2d,C2e,fun x=>f x.1 x.2.1 x.2.2.1⟩)
def D3v:Fn:=(I1 C2).2
theorem D3w:∀ x,(C7 cfg [] (B5 []) 15 [.tmp 6] (Tryz.f80.body.getD .skip) C2d C2e).fn x=C1t x.1 x.2.1 x.2.2.1:=by intro x;kernel_rfl
theorem I8:B4 Tryz.prog 80 D3v:=sm MO B1 A8 Tryz.func80 (by kernel_rfl) (by decide) (D3w)
abbrev C6b:List PK:= [.val true F8 false]
abbrev C6c:List RK:= [.val false .bool]
def B2h(f:A04):Nat×Fn:=(93,⟨C6b,C6c,fun x=>f x.1⟩)
def D6P:Fn:=(B2h W9).2
theorem D6Q(f_i_inRange:C0):∀ x,(C7 cfg [I1 f_i_inRange] (B5 []) 11 [.tmp 2] (Tryz.f93.body.getD .skip) C6b C6c).fn x=B7a f_i_inRange x.1:=by intro x;kernel_rfl
theorem B85:B4 Tryz.prog 93 D6P:=sm MO B1 (tc Tryz.call80 I8 A8) Tryz.func93 (by kernel_rfl) (by decide) (D6Q C2)
abbrev C2f:List PK:= [.val false (.int .i64) false]
abbrev C2g:List RK:= [.val false .bool]
def B4y(f:A3s):Nat×Fn:=(168,⟨C2f,C2g,fun x=>f x.1⟩)
def D3x:Fn:=(B4y A1o).2
theorem D3y(f_i_inRange:C0):∀ x,(C7 cfg [I1 f_i_inRange] (B5 []) 5 [.tmp 2] (Tryz.f168.body.getD .skip) C2f C2g).fn x=A9H f_i_inRange x.1:=by intro x;kernel_rfl
theorem C2h:B4 Tryz.prog 168 D3x:=sm MO B1 (tc Tryz.call80 I8 A8) Tryz.func168 (by kernel_rfl) (by decide) (D3y C2)
def D6R:Nat→Option Jn:=B5 [(3,⟨[],lt 4 13 [],false⟩),(58,⟨[.t 20 false [.int .i64]],lt 21 19 [.t 3],false⟩)]
abbrev C6d:List PK:= [.val true (.pair (.rs 9 .str) (.rs 9 .str)) false]
abbrev C6e:List RK:= [.val false .bool]
def B2i(f:A1p):Nat×Fn:=(169,⟨C6d,C6e,fun x=>f x.1⟩)
def D6S:Fn:=(B2i A1q).2
theorem D6T:∀ x,(C7 cfg [] D6R 40 [.tmp 2] (Tryz.f169.body.getD .skip) C6d C6e).fn x=C4q x.1:=by intro x;kernel_rfl
theorem B86:B4 Tryz.prog 169 D6S:=sm MO B1 A8 Tryz.func169 (by kernel_rfl) (by decide) (D6T)
def D6U:Nat→Option Jn:=B5 [(3,⟨[],lt 11 15 [],false⟩),(15,⟨[.t 8 false [.int .i64]],lt 26 17 [.t 10],true⟩),(122,⟨[.t 8 false [.int .i64],.t 33 false [.int .i64]],lt 34 9 [.t 10],false⟩)]
abbrev C6f:List PK:= [.val false (.rs 5 (.int .u8)) false,.val false (.int .i64) false,.val false (.int .i64) false]
abbrev C6g:List RK:= [.val false (.int .i64),.val false .bool]
def C6h(f:B26):Nat×Fn:=(307,⟨C6f,C6g,fun x=>f x.1 x.2.1 x.2.2.1⟩)
def D6V:Fn:=(C6h A87).2
theorem D6W(f_i_inRange:C0):∀ x,(C7 cfg [I1 f_i_inRange] D6U 44 [.tmp 6,.tmp 7] (Tryz.f307.body.getD .skip) C6f C6g).fn x=B7b f_i_inRange x.1 x.2.1 x.2.2.1:=by intro x;kernel_rfl
theorem D6X:B4 Tryz.prog 307 D6V:=sm MO B1 (tc Tryz.call80 I8 A8) Tryz.func307 (by kernel_rfl) (by decide) (D6W C2)
def B3e:Nat→Option Jn:=B5 [(7,⟨[],lt 20 8 [],false⟩)]
abbrev A5C:List PK:= [.ptr A8z,.val false (.int .i64) false]
abbrev A5D:List RK:= [.val false (.int .i64)]
def A5E(f:X7):Nat×Fn:=(285,⟨A5C,A5D,fun x=>f x.1 x.2.1⟩)
def B3f:Fn:=(A5E D7).2
theorem B3g(f_i_GetBig:B26):∀ x,(C7 cfg [C6h f_i_GetBig] B3e 40 [.tmp 4] (Tryz.f285.body.getD .skip) A5C A5D).fn x=Q7 f_i_GetBig x.1 x.2.1:=by intro x;kernel_rfl
theorem B3h:B4 Tryz.prog 285 B3f:=sm MO B1 (tc Tryz.call307 D6X A8) Tryz.func285 (by kernel_rfl) (by decide) (B3g A87)
def B67:Nat→Option Jn:=B5 [(3,⟨[],lt 5 18 [],false⟩)]
abbrev A78:List PK:= [.ptr A8z,.val false (.int .i64) false]
abbrev A79:List RK:= [.val false (.sl 5 (.int .u8))]
def A7A(f:A0D):Nat×Fn:=(286,⟨A78,A79,fun x=>f x.1 x.2.1⟩)
def B68:Fn:=(A7A I2).2
theorem B69(f_slices_Clone_byte_byte:C9):∀ x,(C7 cfg [J5 f_slices_Clone_byte_byte] B67 50 [.tmp 4] (Tryz.f286.body.getD .skip) A78 A79).fn x=U1 f_slices_Clone_byte_byte x.1 x.2.1:=by intro x;kernel_rfl
theorem B6A:B4 Tryz.prog 286 B68:=sm MO B1 (tc Tryz.call191 M8 A8) Tryz.func286 (by kernel_rfl) (by decide) (B69 C6)
def E1X:Nat→Option Jn:=B5 [(3,⟨[],lt 3 30 [],false⟩),(26,⟨[.t 3 false [.int .i64]],lt 4 29 [],false⟩)]
abbrev D3z:List PK:= [.val false .str false]
abbrev D40:List RK:= [.val false .bool]
def A6l(f:U2):Nat×Fn:=(147,⟨D3z,D40,fun x=>f x.1⟩)
def E1Y:Fn:=(A6l S6).2
theorem E1Z(f_i_inRange:C0):∀ x,(C7 cfg [I1 f_i_inRange] E1X 36 [.tmp 2] (Tryz.f147.body.getD .skip) D3z D40).fn x=C4r f_i_inRange x.1:=by intro x;kernel_rfl
theorem A8d:B4 Tryz.prog 147 E1Y:=sm MO B1 (tc Tryz.call80 I8 A8) Tryz.func147 (by kernel_rfl) (by decide) (E1Z C2)
def D9O:Nat→Option Jn:=B5 [(3,⟨[],lt 3 22 [],false⟩)]
abbrev C9b:List PK:= [.val true (.pair (.int .i64) (.pair (.int .i64) (.pair (.int .i64) (.pair .str (.pair (.int .i64) (.rs 5 (.int .u8))))))) false]
abbrev C9c:List RK:= [.val false .bool]
def C1H(f:A7h):Nat×Fn:=(287,⟨C9b,C9c,fun x=>f x.1⟩)
def D9P:Fn:=(C1H A5V).2
theorem D9Q(f_i_inRange:C0)(f_i_idOk:U2)(f_i_isEpoch:A3s):∀ x,(C7 cfg [I1 f_i_inRange,A6l f_i_idOk,B4y f_i_isEpoch] D9O 58 [.tmp 2] (Tryz.f287.body.getD .skip) C9b C9c).fn x=C0T f_i_inRange f_i_idOk f_i_isEpoch x.1:=by intro x;kernel_rfl
theorem C9d:B4 Tryz.prog 287 D9P:=sm MO B1 (tc Tryz.call80 I8 (tc Tryz.call147 A8d (tc Tryz.call168 C2h A8))) Tryz.func287 (by kernel_rfl) (by decide) (D9Q C2 S6 A1o)
def E2z:Nat→Option Jn:=B5 [(7,⟨[.t 3 false [.int .u32]],lt 5 24 [],true⟩),(58,⟨[.t 3 false [.int .u32],.t 9 false [.int .i64]],lt 10 19 [.t 5,.t 6],false⟩),(29902,⟨[.t 3 false [.int .u32],.t 17 false [.int .i64]],lt 18 10 [.t 6],false⟩)]
abbrev D7r:List PK:= [.val false (.rs 5 (.int .u8)) false]
abbrev D7s:List RK:= [.val false (.int .i64)]
def C47(f:A9I):Nat×Fn:=(280,⟨D7r,D7s,fun x=>f x.1⟩)
def E30:Fn:=(C47 A7W).2
theorem E31:∀ x,(C7 cfg [] E2z 32 [.tmp 2] (Tryz.f280.body.getD .skip) D7r D7s).fn x=D05 x.1:=by intro x;kernel_rfl
theorem D13:B4 Tryz.prog 280 E30:=sm MO B1 A8 Tryz.func280 (by kernel_rfl) (by decide) (E31)
def D6Y:Nat→Option Jn:=B5 [(58,⟨[.t 0 false [.own 100000000],.t 7 false [.int .i64],.r 100000000 5 (.int .u8)],lt 12 13 [.r 23,.r 24,.r 1000],false⟩)]
abbrev C6i:List PK:= [.val false (.sl 5 (.int .u8)) false,.val false (.int .i64) false,.val false (.int .i64) false]
abbrev C6j:List RK:= [.val false (.sl 5 (.int .u8))]
def C6k(f:B29):Nat×Fn:=(308,⟨C6i,C6j,fun x=>f x.1 x.2.1 x.2.2.1⟩)
def D6Z:Fn:=(C6k A88).2
theorem D6a:∀ x,(C7 cfg [] D6Y 26 [.tmp 6] (Tryz.f308.body.getD .skip) C6i C6j).fn x=B7c x.1 x.2.1 x.2.2.1:=by intro x;kernel_rfl
theorem D6b:B4 Tryz.prog 308 D6Z:=sm MO B1 A8 Tryz.func308 (by kernel_rfl) (by decide) (D6a)
abbrev C6l:List PK:= [.val true (.pair (.int .i64) (.pair (.int .i64) (.pair (.int .i64) (.pair .str (.pair (.int .i64) (.rs 5 (.int .u8))))))) false]
abbrev C6m:List RK:= [.val false .str]
def B87(f:A5W):Nat×Fn:=(288,⟨C6l,C6m,fun x=>f x.1⟩)
def D6c:Fn:=(B87 A3e).2
theorem D6d(f_i_Crc:A9I)(f_i_RecOk:A7h)(f_i_putBig:B29):∀ x,(C7 cfg [C47 f_i_Crc,C1H f_i_RecOk,C6k f_i_putBig] (B5 []) 45 [.tmp 2] (Tryz.f288.body.getD .skip) C6l C6m).fn x=B7d f_i_Crc f_i_RecOk f_i_putBig x.1:=by intro x;kernel_rfl
theorem C6n:B4 Tryz.prog 288 D6c:=sm MO B1 (tc Tryz.call280 D13 (tc Tryz.call287 C9d (tc Tryz.call308 D6b A8))) Tryz.func288 (by kernel_rfl) (by decide) (D6d A7W A5V A88)
abbrev C6o:List PK:= [.val false .str false]
abbrev C6p:List RK:= [.val true A7I,.val false .bool]
def B88(f:A1r):Nat×Fn:=(238,⟨C6o,C6p,fun x=>f x.1⟩)
def D6e:Fn:=(B88 A0m).2
theorem D6f(f_i_byteReader_number:X7)(f_i_byteReader_take:A0D)(f_i_RecOk:A7h)(f_i_PutRec:A5W):∀ x,(C7 cfg [A5E f_i_byteReader_number,A7A f_i_byteReader_take,C1H f_i_RecOk,B87 f_i_PutRec] (B5 []) 42 [.cell 2 194,.tmp 3] (Tryz.f238.body.getD .skip) C6o C6p).fn x=B7e f_i_byteReader_number f_i_byteReader_take f_i_RecOk f_i_PutRec x.1:=by intro x;kernel_rfl
theorem C6q:B4 Tryz.prog 238 D6e:=sm MO B1 (tc Tryz.call285 B3h (tc Tryz.call286 B6A (tc Tryz.call287 C9d (tc Tryz.call288 C6n A8)))) Tryz.func238 (by kernel_rfl) (by decide) (D6f D7 I2 A5V A3e)
def D14:Nat→Option Jn:=B5 [(122,⟨[.t 3 false [.own 100000000],.t 4 false [.int .i64],.t 12 false [.int .i64],.r 100000000 194 A7I],lt 13 30 (lt 5 4 [.b 7,.r 38,.r 39,.r 81925]),false⟩)]
abbrev B9g:List PK:= [.val true (.pair (.rs 9 .str) (.rs 9 .str)) false]
abbrev B9h:List RK:= [.val false (.sl 194 A7I)]
def B2j(f:A2J):Nat×Fn:=(170,⟨B9g,B9h,fun x=>f x.1⟩)
def D15:Fn:=(B2j A0n).2
theorem D16(f_i_GetRec:A1r):∀ x,(C7 cfg [B88 f_i_GetRec] D14 44 [.tmp 2] (Tryz.f170.body.getD .skip) B9g B9h).fn x=B2A f_i_GetRec x.1:=by intro x;kernel_rfl
theorem B9i:B4 Tryz.prog 170 D15:=sm MO B1 (tc Tryz.call238 C6q A8) Tryz.func170 (by kernel_rfl) (by decide) (D16 A0m)
def E1a:Nat→Option Jn:=B5 [(7,⟨[.t 6 false [.int .i64]],lt 7 15 [],true⟩),(28,⟨[.t 6 false [.int .i64]],lt 7 15 [],false⟩)]
abbrev D41:List PK:= [.val false (.rs 109 kUp) false,.val false .str false]
abbrev D42:List RK:= [.val false (.int .i64),.val false .bool]
def D43(f:B8b):Nat×Fn:=(289,⟨D41,D42,fun x=>f x.1 x.2.1⟩)
def E1b:Fn:=(D43 A1s).2
theorem E1c:∀ x,(C7 cfg [] E1a 36 [.tmp 4,.tmp 5] (Tryz.f289.body.getD .skip) D41 D42).fn x=B8c x.1 x.2.1:=by intro x;kernel_rfl
theorem D44:B4 Tryz.prog 289 E1b:=sm MO B1 A8 Tryz.func289 (by kernel_rfl) (by decide) (E1c)
def E1d:Nat→Option Jn:=B5 [(58,⟨[],lt 19 6 [],false⟩),(2026,⟨[],lt 43 30 [],false⟩)]
abbrev D45:List PK:= [.val false (.sl 109 kUp) false,.val true (.pair (.int .i64) (.pair (.int .i64) (.pair (.int .i64) (.pair .str (.pair (.int .i64) (.rs 5 (.int .u8))))))) false]
abbrev D46:List RK:= [.val false (.sl 109 kUp),.val false .bool]
def C6r(f:A8A):Nat×Fn:=(239,⟨D45,D46,fun x=>f x.1 x.2.1⟩)
def E1e:Fn:=(C6r A6T).2
theorem E1f(f_i_upAt:B8b)(f_slices_Insert_impl_Up_impl_Up:K4)(f_slices_Delete_impl_Up_impl_Up:K6):∀ x,(C7 cfg [D43 f_i_upAt,A09 f_slices_Insert_impl_Up_impl_Up,A0A f_slices_Delete_impl_Up_impl_Up] E1d 113 [.tmp 4,.tmp 5] (Tryz.f239.body.getD .skip) D45 D46).fn x=C4s f_i_upAt f_slices_Insert_impl_Up_impl_Up f_slices_Delete_impl_Up_impl_Up x.1 x.2.1:=by intro x;kernel_rfl
theorem D47:B4 Tryz.prog 239 E1e:=sm MO B1 (tc Tryz.call289 D44 (tc Tryz.call290 A53 (tc Tryz.call291 A57 A8))) Tryz.func239 (by kernel_rfl) (by decide) (E1f A1s K5 K7)
def D17:Nat→Option Jn:=B5 [(7,⟨[.t 4 false [.own 100000000],.r 100000000 109 kUp],lt 6 19 [.b 6,.r 77824],false⟩),(58,⟨[.t 4 false [.own 100000000],.t 11 false [.int .i64],.r 100000000 109 kUp],lt 12 13 (lt 6 3 [.b 6,.r 77824]),false⟩)]
abbrev B9j:List PK:= [.val false (.rs 194 A7I) false]
abbrev B9k:List RK:= [.val false (.sl 109 kUp),.val false .bool]
def B2k(f:A2K):Nat×Fn:=(171,⟨B9j,B9k,fun x=>f x.1⟩)
def D18:Fn:=(B2k A0o).2
theorem D19(f_i_fold:A8A):∀ x,(C7 cfg [C6r f_i_fold] D17 26 [.tmp 2,.tmp 3] (Tryz.f171.body.getD .skip) B9j B9k).fn x=B2B f_i_fold x.1:=by intro x;kernel_rfl
theorem B9l:B4 Tryz.prog 171 D18:=sm MO B1 (tc Tryz.call239 D47 A8) Tryz.func171 (by kernel_rfl) (by decide) (D19 A6T)
def D48:Nat→Option Jn:=B5 [(58,⟨[.t 3 false [.int .i64],.t 10 false [.int .i64]],lt 11 14 (lt 5 3 [.b 6,.r 69637]),false⟩)]
abbrev C2i:List PK:= [.val false (.rs 9 .str) false]
abbrev C2j:List RK:= [.val false (.int .i64)]
def B4z(f:A3t):Nat×Fn:=(174,⟨C2i,C2j,fun x=>f x.1⟩)
def D49:Fn:=(B4z A1t).2
theorem D4A(f_i_GetRec:A1r):∀ x,(C7 cfg [B88 f_i_GetRec] D48 26 [.tmp 2] (Tryz.f174.body.getD .skip) C2i C2j).fn x=B4G f_i_GetRec x.1:=by intro x;kernel_rfl
theorem C2k:B4 Tryz.prog 174 D49:=sm MO B1 (tc Tryz.call238 C6q A8) Tryz.func174 (by kernel_rfl) (by decide) (D4A A0m)
abbrev C6s:List PK:= [.val true (.pair .str (.pair (.int .i64) (.pair (.rs 5 (.int .u8)) .bool))) false,.val true (.pair .str (.pair (.int .i64) (.pair (.rs 5 (.int .u8)) .bool))) false]
abbrev C6t:List RK:= [.val false .bool]
def C6u(f:A8B):Nat×Fn:=(173,⟨C6s,C6t,fun x=>f x.1 x.2.1⟩)
def D6g:Fn:=(C6u A8C).2
theorem D6h(f_bytes_Equal:R9):∀ x,(C7 cfg [A6G f_bytes_Equal] (B5 []) 31 [.tmp 4] (Tryz.f173.body.getD .skip) C6s C6t).fn x=B7f f_bytes_Equal x.1 x.2.1:=by intro x;kernel_rfl
theorem D6i:B4 Tryz.prog 173 D6g:=sm MO B1 (tc Tryz.call77 B0N A8) Tryz.func173 (by kernel_rfl) (by decide) (D6h M5)
def Q2:Nat→Option Jn:=B5 [(58,⟨[.t 17 false [.int .i64]],lt 18 14 (lt 7 3 [.b 8,.b 9]),false⟩)]
abbrev H8:List PK:= [.val false (.rs 109 kUp) false,.val false (.rs 109 kUp) false,.val false (.fnc 173) false]
abbrev H9:List RK:= [.val false .bool]
def I0(f:D0):Nat×Fn:=(172,⟨H8,H9,fun x=>f x.1 x.2.1 x.2.2.1⟩)
def Q3:Fn:=(I0 C1).2
theorem Q4(f_i_sameUp:A8B):∀ x,(C7 cfg [C6u f_i_sameUp] Q2 32 [.tmp 6] (Tryz.f172.body.getD .skip) H8 H9).fn x=E9 f_i_sameUp x.1 x.2.1 x.2.2.1:=by intro x;kernel_rfl
theorem Q5:B4 Tryz.prog 172 Q3:=sm MO B1 (tc Tryz.call173 D6i A8) Tryz.func172 (by kernel_rfl) (by decide) (Q4 A8C)
def D4B:Nat→Option Jn:=B5 [(3,⟨[],lt 6 10 [],false⟩),(31,⟨[],lt 24 16 [],false⟩),(63,⟨[],lt 40 15 [.x 50],false⟩)]
abbrev C2l:List PK:= [.val true (.pair (.pair (.rs 9 .str) (.rs 9 .str)) (.pair (.int .i64) (.pair (.int .i64) (.rs 109 kUp)))) false]
abbrev C2m:List RK:= [.val false .bool]
def C2n(f:A9J):Nat×Fn:=(94,⟨C2l,C2m,fun x=>f x.1⟩)
def D4C:Fn:=(C2n A1u).2
theorem D4D(f_i_isEpoch:A3s)(f_i_DiskOk:A1p)(f_i_ScanRecs:A2J)(f_i_FoldRecs:A2K)(f_slices_EqualFunc_impl_Up_impl_Up_impl_Up_impl_Up_r1002_173:D0)(f_i_topFrom:A3t):∀ x,(C7 cfg [B4y f_i_isEpoch,B2i f_i_DiskOk,B2j f_i_ScanRecs,B2k f_i_FoldRecs,I0 f_slices_EqualFunc_impl_Up_impl_Up_impl_Up_impl_Up_r1002_173,B4z f_i_topFrom] D4B 65 [.tmp 2] (Tryz.f94.body.getD .skip) C2l C2m).fn x=B4H f_i_isEpoch f_i_DiskOk f_i_ScanRecs f_i_FoldRecs f_slices_EqualFunc_impl_Up_impl_Up_impl_Up_impl_Up_r1002_173 f_i_topFrom x.1:=by intro x;kernel_rfl
theorem D4E:B4 Tryz.prog 94 D4C:=sm MO B1 (tc Tryz.call168 C2h (tc Tryz.call169 B86 (tc Tryz.call170 B9i (tc Tryz.call171 B9l (tc Tryz.call172 Q5 (tc Tryz.call174 C2k A8)))))) Tryz.func94 (by kernel_rfl) (by decide) (D4D A1o A1q A0n A0o C1 A1t)
def D1A:Nat→Option Jn:=B5 [(3,⟨[],lt 4 13 [.b 4],false⟩),(26,⟨[.t 8 false [.int .i64]],lt 9 8 [.b 4,.t 4],false⟩)]
abbrev B9m:List PK:= [.val true (.pair (.pair (.pair (.rs 9 .str) (.rs 9 .str)) (.pair (.int .i64) (.pair (.int .i64) (.rs 109 kUp)))) (.rs 130 B2)) false]
abbrev B9n:List RK:= [.val false .bool]
def B9o(f:A7X):Nat×Fn:=(28,⟨B9m,B9n,fun x=>f x.1⟩)
def D1B:Fn:=(B9o A4X).2
theorem D1C(f_i_RespOk:A04)(f_i_StoreOk:A9J):∀ x,(C7 cfg [B2h f_i_RespOk,C2n f_i_StoreOk] D1A 26 [.tmp 2] (Tryz.f28.body.getD .skip) B9m B9n).fn x=B2C f_i_RespOk f_i_StoreOk x.1:=by intro x;kernel_rfl
theorem D1D:B4 Tryz.prog 28 D1B:=sm MO B1 (tc Tryz.call93 B85 (tc Tryz.call94 D4E A8)) Tryz.func28 (by kernel_rfl) (by decide) (D1C W9 A1u)
abbrev B9p:List PK:= [.val true (.pair .str (.pair (.rs 5 (.int .u8)) F8)) false]
abbrev B9q:List RK:= [.val false .bool]
def A4p(f:O6):Nat×Fn:=(145,⟨B9p,B9q,fun x=>f x.1⟩)
def D1E:Fn:=(A4p L6).2
theorem D1F(f_i_inRange:C0)(f_i_idOk:U2):∀ x,(C7 cfg [I1 f_i_inRange,A6l f_i_idOk] (B5 []) 25 [.tmp 2] (Tryz.f145.body.getD .skip) B9p B9q).fn x=B2D f_i_inRange f_i_idOk x.1:=by intro x;kernel_rfl
theorem A7d:B4 Tryz.prog 145 D1E:=sm MO B1 (tc Tryz.call80 I8 (tc Tryz.call147 A8d A8)) Tryz.func145 (by kernel_rfl) (by decide) (D1F C2 S6)
def C8A:Nat→Option Jn:=B5 [(3,⟨[],lt 6 28 [.b 4,.b 6,.t 3,.t 4],false⟩),(26,⟨[.t 10 false [.int .i64]],lt 11 23 [.b 4,.b 6,.t 3,.t 4,.t 6],false⟩),(13518,⟨[.t 23 false [.int .i64]],lt 24 9 [.b 6,.t 6],false⟩)]
abbrev B6t:List PK:= [.val true (.pair (.pair (.pair (.pair (.rs 9 .str) (.rs 9 .str)) (.pair (.int .i64) (.pair (.int .i64) (.rs 109 kUp)))) (.rs 130 B2)) (.pair (.rs 79 B3) (.pair (.rs 4 .bool) (.pair (.rs 113 G0) (.pair (.rs 130 B2) (.rs 3 (.int .i64))))))) false]
abbrev B6u:List RK:= [.val false .bool]
def B6v(f:A62):Nat×Fn:=(78,⟨B6t,B6u,fun x=>f x.1⟩)
def C8B:Fn:=(B6v A2m).2
theorem C8C(f_i_ClientOk:O6):∀ x,(C7 cfg [A4p f_i_ClientOk] C8A 56 [.tmp 2] (Tryz.f78.body.getD .skip) B6t B6u).fn x=B03 f_i_ClientOk x.1:=by intro x;kernel_rfl
theorem C8D:B4 Tryz.prog 78 C8B:=sm MO B1 (tc Tryz.call145 A7d A8) Tryz.func78 (by kernel_rfl) (by decide) (C8C L6)
abbrev B33:List PK:= [.val false (.int .i64) false]
abbrev B34:List RK:= [.val false .str,.val false (.int .i64)]
def B35(f:A3M):Nat×Fn:=(146,⟨B33,B34,fun x=>f x.1⟩)
def C3A:Fn:=(B35 A3N).2
theorem C3B:∀ x,(C7 cfg [] (B5 []) 11 [.tmp 2,.tmp 3] (Tryz.f146.body.getD .skip) B33 B34).fn x=A6p x.1:=by intro x;kernel_rfl
theorem C3C:B4 Tryz.prog 146 C3A:=sm MO B1 A8 Tryz.func146 (by kernel_rfl) (by decide) (C3B)
abbrev C9e:List PK:= [.val true Y1 false]
abbrev C9f:List RK:= [.val false .bool]
def C1I(f:A5X):Nat×Fn:=(79,⟨C9e,C9f,fun x=>f x.1⟩)
def D9R:Fn:=(C1I A3u).2
theorem D9S(f_i_inRange:C0)(f_i_numberField:A3M)(f_i_idOk:U2):∀ x,(C7 cfg [I1 f_i_inRange,B35 f_i_numberField,A6l f_i_idOk] (B5 []) 25 [.tmp 2] (Tryz.f79.body.getD .skip) C9e C9f).fn x=C0U f_i_inRange f_i_numberField f_i_idOk x.1:=by intro x;kernel_rfl
theorem C9g:B4 Tryz.prog 79 D9R:=sm MO B1 (tc Tryz.call80 I8 (tc Tryz.call146 C3C (tc Tryz.call147 A8d A8))) Tryz.func79 (by kernel_rfl) (by decide) (D9S C2 A3N S6)
def D6j:Nat→Option Jn:=B5 [(26,⟨[.t 9 false [.int .i64]],lt 10 18 [.b 6,.t 6],false⟩)]
abbrev C6v:List PK:= [.val true (.pair (.pair (.pair (.pair (.rs 9 .str) (.rs 9 .str)) (.pair (.int .i64) (.pair (.int .i64) (.rs 109 kUp)))) (.rs 130 B2)) (.pair (.rs 79 B3) (.pair (.rs 4 .bool) (.pair (.rs 113 G0) (.pair (.rs 130 B2) (.rs 3 (.int .i64))))))) false,.val false (.rs 130 B2) false]
abbrev C6w:List RK:= [.val false .bool]
def C6x(f:B2F):Nat×Fn:=(81,⟨C6v,C6w,fun x=>f x.1 x.2.1⟩)
def D6k:Fn:=(C6x A8D).2
theorem D6l(f_i_inRange:C0)(f_i_RespOk:A04):∀ x,(C7 cfg [I1 f_i_inRange,B2h f_i_RespOk] D6j 28 [.tmp 4] (Tryz.f81.body.getD .skip) C6v C6w).fn x=B7g f_i_inRange f_i_RespOk x.1 x.2.1:=by intro x;kernel_rfl
theorem D6m:B4 Tryz.prog 81 D6k:=sm MO B1 (tc Tryz.call80 I8 (tc Tryz.call93 B85 A8)) Tryz.func81 (by kernel_rfl) (by decide) (D6l C2 W9)
def D4F:Nat→Option Jn:=B5 [(3,⟨[],lt 5 15 [],false⟩),(7,⟨[],lt 20 22 [.b 4,.t 4],false⟩),(58,⟨[.t 23 false [.int .i64]],lt 24 18 [.b 4,.t 4],false⟩)]
abbrev C2o:List PK:= [.val true (.pair (.pair (.pair (.pair (.rs 9 .str) (.rs 9 .str)) (.pair (.int .i64) (.pair (.int .i64) (.rs 109 kUp)))) (.rs 130 B2)) (.pair (.rs 79 B3) (.pair (.rs 4 .bool) (.pair (.rs 113 G0) (.pair (.rs 130 B2) (.rs 3 (.int .i64))))))) false]
abbrev C2p:List RK:= [.val false .bool]
def B50(f:A3v):Nat×Fn:=(23,⟨C2o,C2p,fun x=>f x.1⟩)
def D4G:Fn:=(B50 A0Z).2
theorem D4H(f_i_ServerOk:A7X)(f_i_clientsOk:A62)(f_i_ReqOk:A5X)(f_i_inRange:C0)(f_i_heldOk:B2F):∀ x,(C7 cfg [B9o f_i_ServerOk,B6v f_i_clientsOk,C1I f_i_ReqOk,I1 f_i_inRange,C6x f_i_heldOk] D4F 58 [.tmp 2] (Tryz.f23.body.getD .skip) C2o C2p).fn x=B4J f_i_ServerOk f_i_clientsOk f_i_ReqOk f_i_inRange f_i_heldOk x.1:=by intro x;kernel_rfl
theorem C2q:B4 Tryz.prog 23 D4G:=sm MO B1 (tc Tryz.call28 D1D (tc Tryz.call78 C8D (tc Tryz.call79 C9g (tc Tryz.call80 I8 (tc Tryz.call81 D6m A8))))) Tryz.func23 (by kernel_rfl) (by decide) (D4H A4X A2m A3u C2 A8D)
abbrev D4I:List PK:= [.val true (.pair (.pair (.pair (.pair (.rs 9 .str) (.rs 9 .str)) (.pair (.int .i64) (.pair (.int .i64) (.rs 109 kUp)))) (.rs 130 B2)) (.pair (.rs 79 B3) (.pair (.rs 4 .bool) (.pair (.rs 113 G0) (.pair (.rs 130 B2) (.rs 3 (.int .i64))))))) false]
abbrev D4J:List RK:= [.val false (.int .i64)]
def D4K(f:B8d):Nat×Fn:=(17,⟨D4I,D4J,fun x=>f x.1⟩)
def E1g:Fn:=(D4K B4K).2
theorem E1h(f_i_Begins:B24)(f_i_NotLost:A9G)(f_i_Ends:B8a)(f_i_NoneFails:A60)(f_i_WorldOk:A3v):∀ x,(C7 cfg [C6a f_i_Begins,C2c f_i_NotLost,D3u f_i_Ends,B6s f_i_NoneFails,B50 f_i_WorldOk] (B5 []) 23 [.tmp 2] (Tryz.f17.body.getD .skip) D4I D4J).fn x=C4t f_i_Begins f_i_NotLost f_i_Ends f_i_NoneFails f_i_WorldOk x.1:=by intro x;kernel_rfl
theorem E1i:B4 Tryz.prog 17 E1g:=sm MO B1 (tc Tryz.call19 D6O (tc Tryz.call20 D3r (tc Tryz.call21 E1W (tc Tryz.call22 C89 (tc Tryz.call23 C2q A8))))) Tryz.func17 (by kernel_rfl) (by decide) (E1h A86 A6S B4F A2l A0Z)
abbrev A17:List PK:= [.val false (.rs 9 .str) false]
abbrev A18:List RK:= [.val false (.sl 9 .str)]
def U0(f:H3):Nat×Fn:=(275,⟨A17,A18,fun x=>f x.1⟩)
def A6z:Fn:=(U0 F9).2
theorem A70:∀ x,(C7 cfg [] (B5 []) 8 [.tmp 2] (Tryz.f275.body.getD .skip) A17 A18).fn x=T9 x.1:=by intro x;kernel_rfl
theorem A19:B4 Tryz.prog 275 A6z:=sm MO B1 A8 Tryz.func275 (by kernel_rfl) (by decide) (A70)
abbrev B9r:List PK:= [.val true (.pair (.rs 9 .str) (.rs 9 .str)) false]
abbrev B9s:List RK:= [.val true A59]
def A7e(f:Z3):Nat×Fn:=(221,⟨B9r,B9s,fun x=>f x.1⟩)
def D1G:Fn:=(A7e U7).2
theorem D1H(f_slices_Clone_string_string:H3):∀ x,(C7 cfg [U0 f_slices_Clone_string_string] (B5 []) 10 [.cell 2 26] (Tryz.f221.body.getD .skip) B9r B9s).fn x=B2G f_slices_Clone_string_string x.1:=by intro x;kernel_rfl
theorem B2l:B4 Tryz.prog 221 D1G:=sm MO B1 (tc Tryz.call275 A19 A8) Tryz.func221 (by kernel_rfl) (by decide) (D1H F9)
def C8E:Nat→Option Jn:=B5 [(58,⟨[.t 17 false [.int .i64],.b 3 [.own 36864,.own 36865,.int .i64,.int .i64,.own 100000000],.r 36864 9 .str,.r 36865 9 .str,.r 100000000 109 kUp],lt 18 11 [.b 5,.r 25,.r 26,.r 102402,.t 5],false⟩)]
abbrev B6w:List PK:= [.val true (.pair (.pair (.rs 9 .str) (.rs 9 .str)) (.pair (.int .i64) (.pair (.int .i64) (.rs 109 kUp)))) false]
abbrev B6x:List RK:= [.val true A7w]
def B6y(f:A64):Nat×Fn:=(154,⟨B6w,B6x,fun x=>f x.1⟩)
def C8F:Fn:=(B6y A2n).2
theorem C8G(f_i_copyUp:A1n)(f_i_copyDisk:Z3):∀ x,(C7 cfg [B84 f_i_copyUp,A7e f_i_copyDisk] C8E 30 [.cell 2 29] (Tryz.f154.body.getD .skip) B6w B6x).fn x=B04 f_i_copyUp f_i_copyDisk x.1:=by intro x;kernel_rfl
theorem C8H:B4 Tryz.prog 154 C8F:=sm MO B1 (tc Tryz.call144 C6X (tc Tryz.call221 B2l A8)) Tryz.func154 (by kernel_rfl) (by decide) (C8G T8 U7)
abbrev X4:List PK:= [.val false (.rs 130 B2) false]
abbrev X5:List RK:= [.val false (.sl 130 B2)]
def N6(f:F4):Nat×Fn:=(155,⟨X4,X5,fun x=>f x.1⟩)
def A3l:Fn:=(N6 E0).2
theorem A3m:∀ x,(C7 cfg [] (B5 []) 8 [.tmp 2] (Tryz.f155.body.getD .skip) X4 X5).fn x=N5 x.1:=by intro x;kernel_rfl
theorem X6:B4 Tryz.prog 155 A3l:=sm MO B1 A8 Tryz.func155 (by kernel_rfl) (by decide) (A3m)
abbrev B51:List PK:= [.val true (.pair (.pair (.pair (.rs 9 .str) (.rs 9 .str)) (.pair (.int .i64) (.pair (.int .i64) (.rs 109 kUp)))) (.rs 130 B2)) false]
abbrev B52:List RK:= [.val true A5r]
def B53(f:A4Y):Nat×Fn:=(87,⟨B51,B52,fun x=>f x.1⟩)
def C6y:Fn:=(B53 A1v).2
theorem C6z(f_i_copyStore:A64)(f_slices_Clone_impl_Held_impl_Held:F4):∀ x,(C7 cfg [B6y f_i_copyStore,N6 f_slices_Clone_impl_Held_impl_Held] (B5 []) 10 [.cell 2 32] (Tryz.f87.body.getD .skip) B51 B52).fn x=A8E f_i_copyStore f_slices_Clone_impl_Held_impl_Held x.1:=by intro x;kernel_rfl
theorem C70:B4 Tryz.prog 87 C6y:=sm MO B1 (tc Tryz.call154 C8H (tc Tryz.call155 X6 A8)) Tryz.func87 (by kernel_rfl) (by decide) (C6z A2n E0)
abbrev A3C:List PK:= [.val false (.rs 4 .bool) false]
abbrev A3D:List RK:= [.val false (.sl 4 .bool)]
def A3E(f:S1):Nat×Fn:=(188,⟨A3C,A3D,fun x=>f x.1⟩)
def B0O:Fn:=(A3E M6).2
theorem B0P:∀ x,(C7 cfg [] (B5 []) 8 [.tmp 2] (Tryz.f188.body.getD .skip) A3C A3D).fn x=A05 x.1:=by intro x;kernel_rfl
theorem B0Q:B4 Tryz.prog 188 B0O:=sm MO B1 A8 Tryz.func188 (by kernel_rfl) (by decide) (B0P)
abbrev A4q:List PK:= [.val false (.rs 3 (.int .i64)) false]
abbrev A4r:List RK:= [.val false (.sl 3 (.int .i64))]
def A4s(f:U8):Nat×Fn:=(189,⟨A4q,A4r,fun x=>f x.1⟩)
def B2m:Fn:=(A4s O7).2
theorem B2n:∀ x,(C7 cfg [] (B5 []) 8 [.tmp 2] (Tryz.f189.body.getD .skip) A4q A4r).fn x=A0p x.1:=by intro x;kernel_rfl
theorem B2o:B4 Tryz.prog 189 B2m:=sm MO B1 A8 Tryz.func189 (by kernel_rfl) (by decide) (B2n)
abbrev B54:List PK:= [.val true (.pair .str (.pair (.rs 5 (.int .u8)) F8)) false]
abbrev B55:List RK:= [.val true B3]
def A4t(f:O8):Nat×Fn:=(190,⟨B54,B55,fun x=>f x.1⟩)
def C71:Fn:=(A4t L1).2
theorem C72(f_slices_Clone_byte_byte:C9):∀ x,(C7 cfg [J5 f_slices_Clone_byte_byte] (B5 []) 8 [.cell 2 79] (Tryz.f190.body.getD .skip) B54 B55).fn x=A8F f_slices_Clone_byte_byte x.1:=by intro x;kernel_rfl
theorem A8e:B4 Tryz.prog 190 C71:=sm MO B1 (tc Tryz.call191 M8 A8) Tryz.func190 (by kernel_rfl) (by decide) (C72 C6)
def C8I:Nat→Option Jn:=B5 [(7,⟨[.b 3 [.own 45056,.own 45057,.int .i64,.int .i64,.own 45060,.own 45061,.own 100000000,.own 57344,.nil,.own 69632,.own 81920],.r 45056 9 .str,.r 45057 9 .str,.r 45060 109 kUp,.r 45061 130 B2,.r 57344 4 .bool,.r 69632 130 B2,.r 81920 3 (.int .i64),.r 100000000 79 B3],lt 21 15 [.b 5,.r 32,.r 33,.r 131073,.t 5],true⟩),(58,⟨[.t 24 false [.int .i64],.b 3 [.own 45056,.own 45057,.int .i64,.int .i64,.own 45060,.own 45061,.own 100000000,.own 57344,.nil,.own 69632,.own 81920],.r 45056 9 .str,.r 45057 9 .str,.r 45060 109 kUp,.r 45061 130 B2,.r 57344 4 .bool,.r 69632 130 B2,.r 81920 3 (.int .i64),.r 100000000 79 B3],lt 25 11 [.b 5,.r 32,.r 33,.r 131073,.t 5],false⟩),(122,⟨[.t 39 false [.int .i64],.b 3 [.own 45056,.own 45057,.int .i64,.int .i64,.own 45060,.own 45061,.own 100000000,.own 57344,.own 100002001,.own 69632,.own 81920],.r 45056 9 .str,.r 45057 9 .str,.r 45060 109 kUp,.r 45061 130 B2,.r 57344 4 .bool,.r 69632 130 B2,.r 81920 3 (.int .i64),.r 100000000 79 B3,.r 100002001 113 G0],lt 40 14 [.b 7,.r 50,.r 51,.r 188416,.t 7],false⟩)]
abbrev B6z:List PK:= [.val true (.pair (.pair (.pair (.pair (.rs 9 .str) (.rs 9 .str)) (.pair (.int .i64) (.pair (.int .i64) (.rs 109 kUp)))) (.rs 130 B2)) (.pair (.rs 79 B3) (.pair (.rs 4 .bool) (.pair (.rs 113 G0) (.pair (.rs 130 B2) (.rs 3 (.int .i64))))))) false]
abbrev B70:List RK:= [.val true A0G]
def B71(f:A65):Nat×Fn:=(107,⟨B6z,B70,fun x=>f x.1⟩)
def C8J:Fn:=(B71 A2o).2
theorem C8K(f_i_copyServer:A4Y)(f_slices_Clone_impl_Held_impl_Held:F4)(f_slices_Clone_bool_bool:S1)(f_slices_Clone_int_int:U8)(f_i_copyClient:O8)(f_slices_Clone_byte_byte:C9):∀ x,(C7 cfg [B53 f_i_copyServer,N6 f_slices_Clone_impl_Held_impl_Held,A3E f_slices_Clone_bool_bool,A4s f_slices_Clone_int_int,A4t f_i_copyClient,J5 f_slices_Clone_byte_byte] C8I 55 [.cell 2 38] (Tryz.f107.body.getD .skip) B6z B70).fn x=B05 f_i_copyServer f_slices_Clone_impl_Held_impl_Held f_slices_Clone_bool_bool f_slices_Clone_int_int f_i_copyClient f_slices_Clone_byte_byte x.1:=by intro x;kernel_rfl
theorem C8L:B4 Tryz.prog 107 C8J:=sm MO B1 (tc Tryz.call87 C70 (tc Tryz.call155 X6 (tc Tryz.call188 B0Q (tc Tryz.call189 B2o (tc Tryz.call190 A8e (tc Tryz.call191 M8 A8)))))) Tryz.func107 (by kernel_rfl) (by decide) (C8K A1v E0 M6 O7 L1 C6)
abbrev A4u:List PK:= [.ptr (.pair .str (.pair (.rs 5 (.int .u8)) F8))]
abbrev A4v:List RK:= [.val false .bool]
def V1(f:M0):Nat×Fn:=(295,⟨A4u,A4v,fun x=>f x.1⟩)
def B2p:Fn:=(V1 J8).2
theorem B2q:∀ x,(C7 cfg [] (B5 []) 15 [.tmp 2] (Tryz.f295.body.getD .skip) A4u A4v).fn x=A4Z x.1:=by intro x;kernel_rfl
theorem A0v:B4 Tryz.prog 295 B2p:=sm MO B1 A8 Tryz.func295 (by kernel_rfl) (by decide) (B2q)
def D4L:Nat→Option Jn:=B5 [(3,⟨[.b 1 [.str,.ro 5 (.int .u8),.int .i64,.int .i64]],lt 6 6 [],false⟩)]
abbrev C2r:List PK:= [.val true (.pair .str (.pair (.rs 5 (.int .u8)) F8)) false]
abbrev C2s:List RK:= [.val true Y1,.val false (.sl 5 (.int .u8)),.val false .bool]
def C2t(f:A9K):Nat×Fn:=(259,⟨C2r,C2s,fun x=>f x.1⟩)
def D4M:Fn:=(C2t A6U).2
theorem D4N(f_i_ClientOk:O6)(f_slices_Clone_byte_byte:C9)(f_i_Crc:A9I)(f_i_Client_isOver:M0):∀ x,(C7 cfg [A4p f_i_ClientOk,J5 f_slices_Clone_byte_byte,C47 f_i_Crc,V1 f_i_Client_isOver] D4L 55 [.cell 2 43,.tmp 3,.tmp 4] (Tryz.f259.body.getD .skip) C2r C2s).fn x=B4L f_i_ClientOk f_slices_Clone_byte_byte f_i_Crc f_i_Client_isOver x.1:=by intro x;kernel_rfl
theorem D4O:B4 Tryz.prog 259 D4M:=sm MO B1 (tc Tryz.call145 A7d (tc Tryz.call191 M8 (tc Tryz.call280 D13 (tc Tryz.call295 A0v A8)))) Tryz.func259 (by kernel_rfl) (by decide) (D4N L6 C6 A7W J8)
def C73:Nat→Option Jn:=B5 [(3,⟨[],lt 8 26 [.x 23],false⟩)]
abbrev B56:List PK:= [.ptr A0G,.val false (.int .i64) false]
abbrev B57:List RK:= [.val false .bool]
def B58(f:A4a):Nat×Fn:=(200,⟨B56,B57,fun x=>f x.1 x.2.1⟩)
def C74:Fn:=(B58 A1w).2
theorem C75(f_i_inRange:C0)(f_i_NextReq:A9K):∀ x,(C7 cfg [I1 f_i_inRange,C2t f_i_NextReq] C73 67 [.tmp 4] (Tryz.f200.body.getD .skip) B56 B57).fn x=A8G f_i_inRange f_i_NextReq x.1 x.2.1:=by intro x;kernel_rfl
theorem C76:B4 Tryz.prog 200 C74:=sm MO B1 (tc Tryz.call80 I8 (tc Tryz.call259 D4O A8)) Tryz.func200 (by kernel_rfl) (by decide) (C75 C2 A6U)
abbrev B59:List PK:= [.ptr A7w]
abbrev B5A:List RK:= [.val false (.int .i64)]
def A29(f:M7):Nat×Fn:=(277,⟨B59,B5A,fun x=>f x.1⟩)
def C77:Fn:=(A29 L2).2
theorem C78:∀ x,(C7 cfg [] (B5 []) 14 [.tmp 2] (Tryz.f277.body.getD .skip) B59 B5A).fn x=A8H x.1:=by intro x;kernel_rfl
theorem A4w:B4 Tryz.prog 277 C77:=sm MO B1 A8 Tryz.func277 (by kernel_rfl) (by decide) (C78)
end
end Go.Proofs.YtpdcljonclhhpaaGreat.Ev
