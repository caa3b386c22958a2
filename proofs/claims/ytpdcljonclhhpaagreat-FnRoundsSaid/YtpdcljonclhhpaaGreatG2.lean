/- Each function of the program does what its plain function says. -/
import Derived.Test.YtpdcljonclhhpaaGreatG1
set_option linter.unusedVariables false
set_option maxRecDepth 100000
namespace Go.Proofs.YtpdcljonclhhpaaGreat.Ev
noncomputable section
abbrev B6B:List PK:= [.ptr (.pair (.pair (.pair (.pair (.rs 9 .str) (.rs 9 .str)) (.pair (.int .i64) (.pair (.int .i64) (.rs 109 (.pair .str (.pair (.int .i64) (.pair (.rs 5 (.int .u8)) .bool))))))) (.sl 130 B2)) (.pair (.sl 79 (.pair .str (.pair (.rs 5 (.int .u8)) F6))) (.pair (.sl 4 .bool) (.pair (.sl 113 (.pair (.int .i64) (.pair W8 (.rs 5 (.int .u8))))) (.pair (.sl 130 B2) (.sl 3 (.int .i64)))))))]
abbrev B6C:List RK:= [.val false .bool]
def B6D(f:A8b):Nat×Fn:=(196,⟨B6B,B6C,fun x=>f x.1⟩)
def C7V:Fn:=(B6D A1M).2
theorem C7W(f_s_FlushDisk:A5V):∀ x,(C4 C0K [B61 f_s_FlushDisk] (B5 []) 46 [.tmp 2] (Tryz.f196.body.getD .skip) B6B B6C).fn x=A8c f_s_FlushDisk x.1:=by intro x;kernel_rfl
theorem C7X:B3 Tryz.prog 196 C7V:=sm MO A3F (tc Tryz.call252 C7J A6) Tryz.func196 (by kernel_rfl) (by decide) (C7W A2N)
def C7Y:Nat→Option Jn:=B5 [(501,⟨[.b 1000 [.ro 9 .str,.ro 9 .str,.int .i64,.int .i64,.ro 109 (.pair .str (.pair (.int .i64) (.pair (.rs 5 (.int .u8)) .bool))),.own 1005,.own 1006,.own 1007,.own 1008,.own 38,.own 1010],.r 38 130 B2,.r 1005 130 B2,.r 1006 79 (.pair .str (.pair (.rs 5 (.int .u8)) F6)),.r 1007 4 .bool,.r 1008 113 (.pair (.int .i64) (.pair W8 (.rs 5 (.int .u8)))),.r 1010 3 (.int .i64)],lt 56 28 [.x 62,.x 78,.x 83],true⟩)]
abbrev B6E:List PK:= [.ptr (.pair (.pair (.pair (.pair (.rs 9 .str) (.rs 9 .str)) (.pair (.int .i64) (.pair (.int .i64) (.rs 109 (.pair .str (.pair (.int .i64) (.pair (.rs 5 (.int .u8)) .bool))))))) (.sl 130 B2)) (.pair (.sl 79 (.pair .str (.pair (.rs 5 (.int .u8)) F6))) (.pair (.sl 4 .bool) (.pair (.sl 113 (.pair (.int .i64) (.pair W8 (.rs 5 (.int .u8))))) (.pair (.sl 130 B2) (.sl 3 (.int .i64))))))),.val false (.int .i64) false]
abbrev B6F:List RK:= [.val false .bool]
def B6G(f:A5a):Nat×Fn:=(197,⟨B6E,B6F,fun x=>f x.1 x.2.1⟩)
def C7Z:Fn:=(B6G Z0).2
theorem C7a(f_s_l1In:E2)(f_s_l17Over:A3X)(f_s_l17Hear:A8e):∀ x,(C4 C0K [Q1 f_s_l1In,B4I f_s_l17Over,A9E f_s_l17Hear] C7Y 106 [.tmp 4] (Tryz.f197.body.getD .skip) B6E B6F).fn x=A5b f_s_l1In f_s_l17Over f_s_l17Hear x.1 x.2.1:=by intro x;kernel_rfl
theorem C7b:B3 Tryz.prog 197 C7Z:=sm MO A3F (tc Tryz.call120 S1 (tc Tryz.call253 C1g (tc Tryz.call254 B8q A6))) Tryz.func197 (by kernel_rfl) (by decide) (C7a E1 A1N A5w)
def D0Y:Nat→Option Jn:=B5 [(15,⟨[.t 5 false [.own 100000000],.r 100000000 113 (.pair (.int .i64) (.pair W8 (.rs 5 (.int .u8))))],lt 17 29 [.r 16,.r 44,.r 45,.t 6,.x 31,.x 42],true⟩),(122,⟨[.t 5 false [.own 100000000],.t 6 false [.int .i64],.r 100000000 113 (.pair (.int .i64) (.pair W8 (.rs 5 (.int .u8))))],lt 17 29 [.r 16,.r 44,.r 45,.x 31,.x 42],false⟩)]
abbrev B94:List PK:= [.ptr (.pair (.pair (.pair (.pair (.rs 9 .str) (.rs 9 .str)) (.pair (.int .i64) (.pair (.int .i64) (.rs 109 (.pair .str (.pair (.int .i64) (.pair (.rs 5 (.int .u8)) .bool))))))) (.sl 130 B2)) (.pair (.sl 79 (.pair .str (.pair (.rs 5 (.int .u8)) F6))) (.pair (.sl 4 .bool) (.pair (.sl 113 (.pair (.int .i64) (.pair W8 (.rs 5 (.int .u8))))) (.pair (.sl 130 B2) (.sl 3 (.int .i64))))))),.val false (.int .i64) false]
abbrev B95:List RK:= [.val false .bool]
def B96(f:A6v):Nat×Fn:=(198,⟨B94,B95,fun x=>f x.1 x.2.1⟩)
def D0Z:Fn:=(B96 A4A).2
theorem D0a(f_s_l1In:E2)(f_s_l18Others:A5W)(f_s_CutOff:A3L):∀ x,(C4 C0K [Q1 f_s_l1In,B64 f_s_l18Others,B7Z f_s_CutOff] D0Y 90 [.tmp 4] (Tryz.f198.body.getD .skip) B94 B95).fn x=B1U f_s_l1In f_s_l18Others f_s_CutOff x.1 x.2.1:=by intro x;kernel_rfl
theorem D0b:B3 Tryz.prog 198 D0Z:=sm MO A3F (tc Tryz.call120 S1 (tc Tryz.call255 C7N (tc Tryz.call256 C5d A6))) Tryz.func198 (by kernel_rfl) (by decide) (D0a E1 A2O A1P)
def C5s:Nat→Option Jn:=B5 [(1018,⟨[.t 7 false [.int .i64],.b 1000 [.own 73728,.own 73729,.int .i64,.int .i64,.ro 109 kUp,.nil,.own 1006,.own 1007,.own 28,.own 32,.own 1010],.r 28 113 (.pair (.int .i64) (.pair W8 (.rs 5 (.int .u8)))),.r 32 130 B2,.r 1006 79 (.pair .str (.pair (.rs 5 (.int .u8)) F6)),.r 1007 4 .bool,.r 1010 3 (.int .i64),.r 73728 9 .str,.r 73729 9 .str],lt 35 29 [.r 233473,.x 54,.x 57,.x 63],false⟩)]
abbrev B4Q:List PK:= [.ptr (.pair (.pair (.pair (.pair (.rs 9 .str) (.rs 9 .str)) (.pair (.int .i64) (.pair (.int .i64) (.rs 109 (.pair .str (.pair (.int .i64) (.pair (.rs 5 (.int .u8)) .bool))))))) (.sl 130 B2)) (.pair (.sl 79 (.pair .str (.pair (.rs 5 (.int .u8)) F6))) (.pair (.sl 4 .bool) (.pair (.sl 113 (.pair (.int .i64) (.pair W8 (.rs 5 (.int .u8))))) (.pair (.sl 130 B2) (.sl 3 (.int .i64))))))),.val false (.rs 4 .bool) false]
abbrev B4R:List RK:= [.val false .bool]
def B4S(f:A4B):Nat×Fn:=(199,⟨B4Q,B4R,fun x=>f x.1 x.2.1⟩)
def C5t:Fn:=(B4S A1S).2
theorem C5u(f_s_CutOff:A3L)(f_s_OpenStore_r99_0:Z8)(f_s_FallDisk:A6p):∀ x,(C4 C0K [B7Z f_s_CutOff,A6a f_s_OpenStore_r99_0,B8w f_s_FallDisk] C5s 64 [.tmp 4] (Tryz.f199.body.getD .skip) B4Q B4R).fn x=A7X f_s_CutOff f_s_OpenStore_r99_0 f_s_FallDisk x.1 x.2.1:=by intro x;kernel_rfl
theorem C5v:B3 Tryz.prog 199 C5t:=sm MO A3F (tc Tryz.call256 C5d (tc Tryz.call257 B5a (tc Tryz.call258 D0T A6))) Tryz.func199 (by kernel_rfl) (by decide) (C5u A1P O8 A43)
abbrev C1w:List PK:= [.ptr (.pair (.pair (.pair (.pair (.rs 9 .str) (.rs 9 .str)) (.pair (.int .i64) (.pair (.int .i64) (.rs 109 (.pair .str (.pair (.int .i64) (.pair (.rs 5 (.int .u8)) .bool))))))) (.sl 130 B2)) (.pair (.sl 79 (.pair .str (.pair (.rs 5 (.int .u8)) F6))) (.pair (.sl 4 .bool) (.pair (.sl 113 (.pair (.int .i64) (.pair W8 (.rs 5 (.int .u8))))) (.pair (.sl 130 B2) (.sl 3 (.int .i64))))))),.val true (.pair (.int .i64) (.pair (.int .i64) (.rs 4 .bool))) false]
abbrev C1x:List RK:= [.val false .bool]
def C1y(f:A5y):Nat×Fn:=(111,⟨C1w,C1x,fun x=>f x.1 x.2.1⟩)
def D3D:Fn:=(C1y A3Y).2
theorem D3E(f_s_l18Send_W:A5X)(f_s_l18Serve_W:A48)(f_s_l18Sync:A8b)(f_s_l18Tell_W:A5a)(f_s_l18Cut_W:A6v)(f_s_l18Crash_W:A4B):∀ x,(C4 C0K [B67 f_s_l18Send_W,B4P f_s_l18Serve_W,B6D f_s_l18Sync,B6G f_s_l18Tell_W,B96 f_s_l18Cut_W,B4S f_s_l18Crash_W] (B5 []) 41 [.tmp 4] (Tryz.f111.body.getD .skip) C1w C1x).fn x=B3d f_s_l18Send_W f_s_l18Serve_W f_s_l18Sync f_s_l18Tell_W f_s_l18Cut_W f_s_l18Crash_W x.1 x.2.1:=by intro x;kernel_rfl
theorem D3F:B3 Tryz.prog 111 D3D:=sm MO A3F (tc Tryz.call194 C7R (tc Tryz.call195 C5r (tc Tryz.call196 C7X (tc Tryz.call197 C7b (tc Tryz.call198 D0b (tc Tryz.call199 C5v A6)))))) Tryz.func111 (by kernel_rfl) (by decide) (D3E Y7 V3 A1M Z0 A4A A1S)
abbrev C5w:List PK:= [.val false (.rs 5 (.int .u8)) false,.val false (.int .i64) false]
abbrev C5x:List RK:= [.val false (.int .i64)]
def C5y(f:B1V):Nat×Fn:=(69,⟨C5w,C5x,fun x=>f x.1 x.2.1⟩)
def D5e:Fn:=(C5y A7Y).2
theorem D5f:∀ x,(C4 cfg [] (B5 []) 15 [.tmp 4] (Tryz.f69.body.getD .skip) C5w C5x).fn x=B75 x.1 x.2.1:=by intro x;kernel_rfl
theorem D5g:B3 Tryz.prog 69 D5e:=sm MO B0 A6 Tryz.func69 (by kernel_rfl) (by decide) (D5f)
abbrev A2r:List PK:= [.val false (.rs 5 (.int .u8)) false]
abbrev A2s:List RK:= [.val false (.sl 5 (.int .u8))]
def I8(f:C9):Nat×Fn:=(191,⟨A2r,A2s,fun x=>f x.1⟩)
def A9u:Fn:=(I8 C5).2
theorem A9v:∀ x,(C4 cfg [] (B5 []) 8 [.tmp 2] (Tryz.f191.body.getD .skip) A2r A2s).fn x=Z1 x.1:=by intro x;kernel_rfl
theorem M2:B3 Tryz.prog 191 A9u:=sm MO B0 A6 Tryz.func191 (by kernel_rfl) (by decide) (A9v)
abbrev C5z:List PK:= [.val true (.pair .str (.pair (.int .i64) (.pair (.rs 5 (.int .u8)) .bool))) false]
abbrev C60:List RK:= [.val true kUp]
def B7b(f:A1T):Nat×Fn:=(144,⟨C5z,C60,fun x=>f x.1⟩)
def D5h:Fn:=(B7b T1).2
theorem D5i(f_slices_Clone_byte_byte:C9):∀ x,(C4 cfg [I8 f_slices_Clone_byte_byte] (B5 []) 8 [.cell 2 109] (Tryz.f144.body.getD .skip) C5z C60).fn x=B1W f_slices_Clone_byte_byte x.1:=by intro x;kernel_rfl
theorem C61:B3 Tryz.prog 144 D5h:=sm MO B0 (tc Tryz.call191 M2 A6) Tryz.func144 (by kernel_rfl) (by decide) (D5i C5)
def E0h:Nat→Option Jn:=B5 [(3,⟨[],lt 7 12 [.b 7,.t 21],false⟩),(26,⟨[.t 11 false [.int .i64]],lt 12 7 [.b 7,.t 7,.t 21],false⟩)]
abbrev D3G:List PK:= [.val true (.pair (.pair (.rs 9 .str) (.rs 9 .str)) (.pair (.int .i64) (.pair (.int .i64) (.rs 109 kUp)))) false,.val false .str false]
abbrev D3H:List RK:= [.val true kUp,.val false .bool]
def B4T(f:X7):Nat×Fn:=(75,⟨D3G,D3H,fun x=>f x.1 x.2.1⟩)
def E0i:Fn:=(B4T P9).2
theorem E0j(f_i_copyUp:A1T):∀ x,(C4 cfg [B7b f_i_copyUp] E0h 23 [.cell 4 109,.tmp 5] (Tryz.f75.body.getD .skip) D3G D3H).fn x=C4D f_i_copyUp x.1 x.2.1:=by intro x;kernel_rfl
theorem B97:B3 Tryz.prog 75 E0i:=sm MO B0 (tc Tryz.call144 C61 A6) Tryz.func75 (by kernel_rfl) (by decide) (E0j T1)
abbrev B6H:List PK:= [.val false (.rs 5 (.int .u8)) false,.val false (.rs 5 (.int .u8)) false]
abbrev B6I:List RK:= [.val false .bool]
def A5o(f:R1):Nat×Fn:=(77,⟨B6H,B6I,fun x=>f x.1 x.2.1⟩)
def C7c:Fn:=(A5o L9).2
theorem C7d:∀ x,(C4 cfg [] (B5 []) 10 [.tmp 4] (Tryz.f77.body.getD .skip) B6H B6I).fn x=A2S x.1 x.2.1:=by intro x;kernel_rfl
theorem A9w:B3 Tryz.prog 77 C7c:=sm MO B0 A6 Tryz.func77 (by kernel_rfl) (by decide) (C7d)
abbrev A9I:List PK:= [.val false (.rs 5 (.int .u8)) false,.val false (.rs 5 (.int .u8)) false]
abbrev A9J:List RK:= [.val false .bool]
def A9K(f:X8):Nat×Fn:=(76,⟨A9I,A9J,fun x=>f x.1 x.2.1⟩)
def B98:Fn:=(A9K S5).2
theorem B99(f_bytes_Equal:R1):∀ x,(C4 cfg [A5o f_bytes_Equal] (B5 []) 18 [.tmp 4] (Tryz.f76.body.getD .skip) A9I A9J).fn x=A4C f_bytes_Equal x.1 x.2.1:=by intro x;kernel_rfl
theorem B9A:B3 Tryz.prog 76 B98:=sm MO B0 (tc Tryz.call77 A9w A6) Tryz.func76 (by kernel_rfl) (by decide) (B99 L9)
def D5j:Nat→Option Jn:=B5 [(26,⟨[.t 10 false [.int .i64]],lt 11 30 (lt 4 3 [.b 4,.b 5,.r 86018]),false⟩)]
abbrev C62:List PK:= [.val true (.pair (.pair (.pair (.pair (.rs 9 .str) (.rs 9 .str)) (.pair (.int .i64) (.pair (.int .i64) (.rs 109 kUp)))) (.rs 130 B2)) (.pair (.rs 79 A9) (.pair (.rs 4 .bool) (.pair (.rs 113 F8) (.pair (.rs 130 B2) (.rs 3 (.int .i64))))))) false]
abbrev C63:List RK:= [.val false .bool]
def C64(f:B1X):Nat×Fn:=(19,⟨C62,C63,fun x=>f x.1⟩)
def D5k:Fn:=(C64 A7a).2
theorem D5l(f_i_UpAt:X7)(f_bytes_HasPrefix:X8):∀ x,(C4 cfg [B4T f_i_UpAt,A9K f_bytes_HasPrefix] D5j 41 [.tmp 2] (Tryz.f19.body.getD .skip) C62 C63).fn x=C4E f_i_UpAt f_bytes_HasPrefix x.1:=by intro x;kernel_rfl
theorem D5m:B3 Tryz.prog 19 D5k:=sm MO B0 (tc Tryz.call75 B97 (tc Tryz.call76 B9A A6)) Tryz.func19 (by kernel_rfl) (by decide) (D5l P9 S5)
def D3I:Nat→Option Jn:=B5 [(26,⟨[.t 10 false [.int .i64]],lt 11 40 (lt 3 4 [.b 4,.b 5,.r 143362]),false⟩),(1689,⟨[],lt 15 13 [],false⟩)]
abbrev C1z:List PK:= [.val true (.pair (.pair (.pair (.pair (.rs 9 .str) (.rs 9 .str)) (.pair (.int .i64) (.pair (.int .i64) (.rs 109 kUp)))) (.rs 130 B2)) (.pair (.rs 79 A9) (.pair (.rs 4 .bool) (.pair (.rs 113 F8) (.pair (.rs 130 B2) (.rs 3 (.int .i64))))))) false]
abbrev C20:List RK:= [.val false .bool]
def C21(f:A8k):Nat×Fn:=(20,⟨C1z,C20,fun x=>f x.1⟩)
def D3J:Fn:=(C21 A5z).2
theorem D3K(f_i_UpAt:X7):∀ x,(C4 cfg [B4T f_i_UpAt] D3I 51 [.tmp 2] (Tryz.f20.body.getD .skip) C1z C20).fn x=C1H f_i_UpAt x.1:=by intro x;kernel_rfl
theorem D3L:B3 Tryz.prog 20 D3J:=sm MO B0 (tc Tryz.call75 B97 A6) Tryz.func20 (by kernel_rfl) (by decide) (D3K P9)
def E0k:Nat→Option Jn:=B5 [(26,⟨[.t 10 false [.int .i64]],lt 11 33 (lt 4 3 [.b 4,.b 5,.r 86018]),false⟩)]
abbrev D3M:List PK:= [.val true (.pair (.pair (.pair (.pair (.rs 9 .str) (.rs 9 .str)) (.pair (.int .i64) (.pair (.int .i64) (.rs 109 kUp)))) (.rs 130 B2)) (.pair (.rs 79 A9) (.pair (.rs 4 .bool) (.pair (.rs 113 F8) (.pair (.rs 130 B2) (.rs 3 (.int .i64))))))) false]
abbrev D3N:List RK:= [.val false .bool]
def D3O(f:B87):Nat×Fn:=(21,⟨D3M,D3N,fun x=>f x.1⟩)
def E0l:Fn:=(D3O B3e).2
theorem E0m(f_i_UpAt:X7)(f_bytes_Equal:R1):∀ x,(C4 cfg [B4T f_i_UpAt,A5o f_bytes_Equal] E0k 44 [.tmp 2] (Tryz.f21.body.getD .skip) D3M D3N).fn x=D1a f_i_UpAt f_bytes_Equal x.1:=by intro x;kernel_rfl
theorem E0n:B3 Tryz.prog 21 E0l:=sm MO B0 (tc Tryz.call75 B97 (tc Tryz.call77 A9w A6)) Tryz.func21 (by kernel_rfl) (by decide) (E0m P9 L9)
def C7e:Nat→Option Jn:=B5 [(26,⟨[.t 8 false [.int .i64]],lt 9 7 [.b 4,.t 4],false⟩)]
abbrev B6J:List PK:= [.val true (.pair (.pair (.pair (.pair (.rs 9 .str) (.rs 9 .str)) (.pair (.int .i64) (.pair (.int .i64) (.rs 109 kUp)))) (.rs 130 B2)) (.pair (.rs 79 A9) (.pair (.rs 4 .bool) (.pair (.rs 113 F8) (.pair (.rs 130 B2) (.rs 3 (.int .i64))))))) false]
abbrev B6K:List RK:= [.val false .bool]
def B6L(f:A5d):Nat×Fn:=(22,⟨B6J,B6K,fun x=>f x.1⟩)
def C7f:Fn:=(B6L A2T).2
theorem C7g:∀ x,(C4 cfg [] C7e 16 [.tmp 2] (Tryz.f22.body.getD .skip) B6J B6K).fn x=A9a x.1:=by intro x;kernel_rfl
theorem C7h:B3 Tryz.prog 22 C7f:=sm MO B0 A6 Tryz.func22 (by kernel_rfl) (by decide) (C7g)
abbrev C22:List PK:= [.val false (.int .i64) false,.val false (.int .i64) false,.val false (.int .i64) false]
abbrev C23:List RK:= [.val false .bool]
def H3(f:C0):Nat×Fn:=(80,⟨C22,C23,fun x=>f x.1 x.2.1 x.2.2.1⟩)
def D3P:Fn:=(H3 C2).2
theorem D3Q:∀ x,(C4 cfg [] (B5 []) 15 [.tmp 6] (Tryz.f80.body.getD .skip) C22 C23).fn x=C1I x.1 x.2.1 x.2.2.1:=by intro x;kernel_rfl
theorem I3:B3 Tryz.prog 80 D3P:=sm MO B0 A6 Tryz.func80 (by kernel_rfl) (by decide) (D3Q)
abbrev C65:List PK:= [.val true F6 false]
abbrev C66:List RK:= [.val false .bool]
def B25(f:Z2):Nat×Fn:=(93,⟨C65,C66,fun x=>f x.1⟩)
def D5n:Fn:=(B25 V4).2
theorem D5o(f_i_inRange:C0):∀ x,(C4 cfg [H3 f_i_inRange] (B5 []) 11 [.tmp 2] (Tryz.f93.body.getD .skip) C65 C66).fn x=B76 f_i_inRange x.1:=by intro x;kernel_rfl
theorem B7c:B3 Tryz.prog 93 D5n:=sm MO B0 (tc Tryz.call80 I3 A6) Tryz.func93 (by kernel_rfl) (by decide) (D5o C2)
abbrev C24:List PK:= [.val false (.int .i64) false]
abbrev C25:List RK:= [.val false .bool]
def B4U(f:A3Z):Nat×Fn:=(168,⟨C24,C25,fun x=>f x.1⟩)
def D3R:Fn:=(B4U A1U).2
theorem D3S(f_i_inRange:C0):∀ x,(C4 cfg [H3 f_i_inRange] (B5 []) 5 [.tmp 2] (Tryz.f168.body.getD .skip) C24 C25).fn x=A8l f_i_inRange x.1:=by intro x;kernel_rfl
theorem C26:B3 Tryz.prog 168 D3R:=sm MO B0 (tc Tryz.call80 I3 A6) Tryz.func168 (by kernel_rfl) (by decide) (D3S C2)
def D5p:Nat→Option Jn:=B5 [(3,⟨[],lt 4 13 [],false⟩),(58,⟨[.t 20 false [.int .i64]],lt 21 19 [.t 3],false⟩)]
abbrev C67:List PK:= [.val true (.pair (.rs 9 .str) (.rs 9 .str)) false]
abbrev C68:List RK:= [.val false .bool]
def B26(f:A1V):Nat×Fn:=(169,⟨C67,C68,fun x=>f x.1⟩)
def D5q:Fn:=(B26 A1W).2
theorem D5r:∀ x,(C4 cfg [] D5p 40 [.tmp 2] (Tryz.f169.body.getD .skip) C67 C68).fn x=C4F x.1:=by intro x;kernel_rfl
theorem B7d:B3 Tryz.prog 169 D5q:=sm MO B0 A6 Tryz.func169 (by kernel_rfl) (by decide) (D5r)
def D5s:Nat→Option Jn:=B5 [(3,⟨[],lt 11 15 [],false⟩),(15,⟨[.t 8 false [.int .i64]],lt 26 17 [.t 10],true⟩),(122,⟨[.t 8 false [.int .i64],.t 33 false [.int .i64]],lt 34 9 [.t 10],false⟩)]
abbrev C69:List PK:= [.val false (.rs 5 (.int .u8)) false,.val false (.int .i64) false,.val false (.int .i64) false]
abbrev C6A:List RK:= [.val false (.int .i64),.val false .bool]
def C6B(f:B1Z):Nat×Fn:=(307,⟨C69,C6A,fun x=>f x.1 x.2.1 x.2.2.1⟩)
def D5t:Fn:=(C6B A7b).2
theorem D5u(f_i_inRange:C0):∀ x,(C4 cfg [H3 f_i_inRange] D5s 44 [.tmp 6,.tmp 7] (Tryz.f307.body.getD .skip) C69 C6A).fn x=B77 f_i_inRange x.1 x.2.1 x.2.2.1:=by intro x;kernel_rfl
theorem D5v:B3 Tryz.prog 307 D5t:=sm MO B0 (tc Tryz.call80 I3 A6) Tryz.func307 (by kernel_rfl) (by decide) (D5u C2)
def B32:Nat→Option Jn:=B5 [(7,⟨[],lt 20 8 [],false⟩)]
abbrev A4r:List PK:= [.ptr A8U,.val false (.int .i64) false]
abbrev A4s:List RK:= [.val false (.int .i64)]
def A4t(f:W4):Nat×Fn:=(285,⟨A4r,A4s,fun x=>f x.1 x.2.1⟩)
def B33:Fn:=(A4t D4).2
theorem B34(f_i_GetBig:B1Z):∀ x,(C4 cfg [C6B f_i_GetBig] B32 40 [.tmp 4] (Tryz.f285.body.getD .skip) A4r A4s).fn x=Q0 f_i_GetBig x.1 x.2.1:=by intro x;kernel_rfl
theorem B35:B3 Tryz.prog 285 B33:=sm MO B0 (tc Tryz.call307 D5v A6) Tryz.func285 (by kernel_rfl) (by decide) (B34 A7b)
def B5b:Nat→Option Jn:=B5 [(3,⟨[],lt 5 18 [],false⟩)]
abbrev A6b:List PK:= [.ptr A8U,.val false (.int .i64) false]
abbrev A6c:List RK:= [.val false (.sl 5 (.int .u8))]
def A6d(f:Z9):Nat×Fn:=(286,⟨A6b,A6c,fun x=>f x.1 x.2.1⟩)
def B5c:Fn:=(A6d H4).2
theorem B5d(f_slices_Clone_byte_byte:C9):∀ x,(C4 cfg [I8 f_slices_Clone_byte_byte] B5b 50 [.tmp 4] (Tryz.f286.body.getD .skip) A6b A6c).fn x=T4 f_slices_Clone_byte_byte x.1 x.2.1:=by intro x;kernel_rfl
theorem B5e:B3 Tryz.prog 286 B5c:=sm MO B0 (tc Tryz.call191 M2 A6) Tryz.func286 (by kernel_rfl) (by decide) (B5d C5)
def E0o:Nat→Option Jn:=B5 [(3,⟨[],lt 3 30 [],false⟩),(26,⟨[.t 3 false [.int .i64]],lt 4 29 [],false⟩)]
abbrev D3T:List PK:= [.val false .str false]
abbrev D3U:List RK:= [.val false .bool]
def A6D(f:T5):Nat×Fn:=(147,⟨D3T,D3U,fun x=>f x.1⟩)
def E0p:Fn:=(A6D R9).2
theorem E0q(f_i_inRange:C0):∀ x,(C4 cfg [H3 f_i_inRange] E0o 36 [.tmp 2] (Tryz.f147.body.getD .skip) D3T D3U).fn x=C4G f_i_inRange x.1:=by intro x;kernel_rfl
theorem A88:B3 Tryz.prog 147 E0p:=sm MO B0 (tc Tryz.call80 I3 A6) Tryz.func147 (by kernel_rfl) (by decide) (E0q C2)
def D8h:Nat→Option Jn:=B5 [(3,⟨[],lt 3 22 [],false⟩)]
abbrev C97:List PK:= [.val true (.pair (.int .i64) (.pair (.int .i64) (.pair (.int .i64) (.pair .str (.pair (.int .i64) (.rs 5 (.int .u8))))))) false]
abbrev C98:List RK:= [.val false .bool]
def C0h(f:A7A):Nat×Fn:=(287,⟨C97,C98,fun x=>f x.1⟩)
def D8i:Fn:=(C0h A5A).2
theorem D8j(f_i_inRange:C0)(f_i_idOk:T5)(f_i_isEpoch:A3Z):∀ x,(C4 cfg [H3 f_i_inRange,A6D f_i_idOk,B4U f_i_isEpoch] D8h 58 [.tmp 2] (Tryz.f287.body.getD .skip) C97 C98).fn x=C00 f_i_inRange f_i_idOk f_i_isEpoch x.1:=by intro x;kernel_rfl
theorem C99:B3 Tryz.prog 287 D8i:=sm MO B0 (tc Tryz.call80 I3 (tc Tryz.call147 A88 (tc Tryz.call168 C26 A6))) Tryz.func287 (by kernel_rfl) (by decide) (D8j C2 R9 A1U)
def E2D:Nat→Option Jn:=B5 [(7,⟨[.t 3 false [.int .u32]],lt 5 24 [],true⟩),(58,⟨[.t 3 false [.int .u32],.t 9 false [.int .i64]],lt 10 19 [.t 5,.t 6],false⟩),(29902,⟨[.t 3 false [.int .u32],.t 17 false [.int .i64]],lt 18 10 [.t 6],false⟩)]
abbrev D7B:List PK:= [.val false (.rs 5 (.int .u8)) false]
abbrev D7C:List RK:= [.val false (.int .i64)]
def C3Y(f:A8m):Nat×Fn:=(280,⟨D7B,D7C,fun x=>f x.1⟩)
def E2E:Fn:=(C3Y A6x).2
theorem E2F:∀ x,(C4 cfg [] E2D 32 [.tmp 2] (Tryz.f280.body.getD .skip) D7B D7C).fn x=C9d x.1:=by intro x;kernel_rfl
theorem D0c:B3 Tryz.prog 280 E2E:=sm MO B0 A6 Tryz.func280 (by kernel_rfl) (by decide) (E2F)
def D5w:Nat→Option Jn:=B5 [(58,⟨[.t 0 false [.own 100000000],.t 7 false [.int .i64],.r 100000000 5 (.int .u8)],lt 12 13 [.r 23,.r 24,.r 1000],false⟩)]
abbrev C6C:List PK:= [.val false (.sl 5 (.int .u8)) false,.val false (.int .i64) false,.val false (.int .i64) false]
abbrev C6D:List RK:= [.val false (.sl 5 (.int .u8))]
def C6E(f:B1c):Nat×Fn:=(308,⟨C6C,C6D,fun x=>f x.1 x.2.1 x.2.2.1⟩)
def D5x:Fn:=(C6E A7c).2
theorem D5y:∀ x,(C4 cfg [] D5w 26 [.tmp 6] (Tryz.f308.body.getD .skip) C6C C6D).fn x=B78 x.1 x.2.1 x.2.2.1:=by intro x;kernel_rfl
theorem D5z:B3 Tryz.prog 308 D5x:=sm MO B0 A6 Tryz.func308 (by kernel_rfl) (by decide) (D5y)
abbrev C6F:List PK:= [.val true (.pair (.int .i64) (.pair (.int .i64) (.pair (.int .i64) (.pair .str (.pair (.int .i64) (.rs 5 (.int .u8))))))) false]
abbrev C6G:List RK:= [.val false .str]
def B7e(f:A5B):Nat×Fn:=(288,⟨C6F,C6G,fun x=>f x.1⟩)
def D60:Fn:=(B7e A3M).2
theorem D61(f_i_Crc:A8m)(f_i_RecOk:A7A)(f_i_putBig:B1c):∀ x,(C4 cfg [C3Y f_i_Crc,C0h f_i_RecOk,C6E f_i_putBig] (B5 []) 45 [.tmp 2] (Tryz.f288.body.getD .skip) C6F C6G).fn x=B79 f_i_Crc f_i_RecOk f_i_putBig x.1:=by intro x;kernel_rfl
theorem C6H:B3 Tryz.prog 288 D60:=sm MO B0 (tc Tryz.call280 D0c (tc Tryz.call287 C99 (tc Tryz.call308 D5z A6))) Tryz.func288 (by kernel_rfl) (by decide) (D61 A6x A5A A7c)
abbrev C6I:List PK:= [.val false .str false]
abbrev C6J:List RK:= [.val true A6l,.val false .bool]
def B7f(f:A1X):Nat×Fn:=(238,⟨C6I,C6J,fun x=>f x.1⟩)
def D62:Fn:=(B7f A0U).2
theorem D63(f_i_byteReader_number:W4)(f_i_byteReader_take:Z9)(f_i_RecOk:A7A)(f_i_PutRec:A5B):∀ x,(C4 cfg [A4t f_i_byteReader_number,A6d f_i_byteReader_take,C0h f_i_RecOk,B7e f_i_PutRec] (B5 []) 42 [.cell 2 194,.tmp 3] (Tryz.f238.body.getD .skip) C6I C6J).fn x=B7A f_i_byteReader_number f_i_byteReader_take f_i_RecOk f_i_PutRec x.1:=by intro x;kernel_rfl
theorem C6K:B3 Tryz.prog 238 D62:=sm MO B0 (tc Tryz.call285 B35 (tc Tryz.call286 B5e (tc Tryz.call287 C99 (tc Tryz.call288 C6H A6)))) Tryz.func238 (by kernel_rfl) (by decide) (D63 D4 H4 A5A A3M)
def D0d:Nat→Option Jn:=B5 [(122,⟨[.t 3 false [.own 100000000],.t 4 false [.int .i64],.t 12 false [.int .i64],.r 100000000 194 A6l],lt 13 30 (lt 5 4 [.b 7,.r 38,.r 39,.r 81925]),false⟩)]
abbrev B9B:List PK:= [.val true (.pair (.rs 9 .str) (.rs 9 .str)) false]
abbrev B9C:List RK:= [.val false (.sl 194 A6l)]
def B27(f:A23):Nat×Fn:=(170,⟨B9B,B9C,fun x=>f x.1⟩)
def D0e:Fn:=(B27 A0V).2
theorem D0f(f_i_GetRec:A1X):∀ x,(C4 cfg [B7f f_i_GetRec] D0d 44 [.tmp 2] (Tryz.f170.body.getD .skip) B9B B9C).fn x=B1d f_i_GetRec x.1:=by intro x;kernel_rfl
theorem B9D:B3 Tryz.prog 170 D0e:=sm MO B0 (tc Tryz.call238 C6K A6) Tryz.func170 (by kernel_rfl) (by decide) (D0f A0U)
def E0r:Nat→Option Jn:=B5 [(7,⟨[.t 6 false [.int .i64]],lt 7 15 [],true⟩),(28,⟨[.t 6 false [.int .i64]],lt 7 15 [],false⟩)]
abbrev D3V:List PK:= [.val false (.rs 109 kUp) false,.val false .str false]
abbrev D3W:List RK:= [.val false (.int .i64),.val false .bool]
def D3X(f:B88):Nat×Fn:=(289,⟨D3V,D3W,fun x=>f x.1 x.2.1⟩)
def E0s:Fn:=(D3X A1Y).2
theorem E0t:∀ x,(C4 cfg [] E0r 36 [.tmp 4,.tmp 5] (Tryz.f289.body.getD .skip) D3V D3W).fn x=B89 x.1 x.2.1:=by intro x;kernel_rfl
theorem D3Y:B3 Tryz.prog 289 E0s:=sm MO B0 A6 Tryz.func289 (by kernel_rfl) (by decide) (E0t)
def E0u:Nat→Option Jn:=B5 [(58,⟨[],lt 19 6 [],false⟩),(2026,⟨[],lt 43 30 [],false⟩)]
abbrev D3Z:List PK:= [.val false (.sl 109 kUp) false,.val true (.pair (.int .i64) (.pair (.int .i64) (.pair (.int .i64) (.pair .str (.pair (.int .i64) (.rs 5 (.int .u8))))))) false]
abbrev D3a:List RK:= [.val false (.sl 109 kUp),.val false .bool]
def C6L(f:A7e):Nat×Fn:=(239,⟨D3Z,D3a,fun x=>f x.1 x.2.1⟩)
def E0v:Fn:=(C6L A60).2
theorem E0w(f_i_upAt:B88)(f_slices_Insert_impl_Up_impl_Up:J7)(f_slices_Delete_impl_Up_impl_Up:J9):∀ x,(C4 cfg [D3X f_i_upAt,Z5 f_slices_Insert_impl_Up_impl_Up,Z6 f_slices_Delete_impl_Up_impl_Up] E0u 113 [.tmp 4,.tmp 5] (Tryz.f239.body.getD .skip) D3Z D3a).fn x=C4H f_i_upAt f_slices_Insert_impl_Up_impl_Up f_slices_Delete_impl_Up_impl_Up x.1 x.2.1:=by intro x;kernel_rfl
theorem D3b:B3 Tryz.prog 239 E0v:=sm MO B0 (tc Tryz.call289 D3Y (tc Tryz.call290 A4j (tc Tryz.call291 A4n A6))) Tryz.func239 (by kernel_rfl) (by decide) (E0w A1Y J8 K0)
def D0g:Nat→Option Jn:=B5 [(7,⟨[.t 4 false [.own 100000000],.r 100000000 109 kUp],lt 6 19 [.b 6,.r 77824],false⟩),(58,⟨[.t 4 false [.own 100000000],.t 11 false [.int .i64],.r 100000000 109 kUp],lt 12 13 (lt 6 3 [.b 6,.r 77824]),false⟩)]
abbrev B9E:List PK:= [.val false (.rs 194 A6l) false]
abbrev B9F:List RK:= [.val false (.sl 109 kUp),.val false .bool]
def B28(f:A24):Nat×Fn:=(171,⟨B9E,B9F,fun x=>f x.1⟩)
def D0h:Fn:=(B28 A0W).2
theorem D0i(f_i_fold:A7e):∀ x,(C4 cfg [C6L f_i_fold] D0g 26 [.tmp 2,.tmp 3] (Tryz.f171.body.getD .skip) B9E B9F).fn x=B1e f_i_fold x.1:=by intro x;kernel_rfl
theorem B9G:B3 Tryz.prog 171 D0h:=sm MO B0 (tc Tryz.call239 D3b A6) Tryz.func171 (by kernel_rfl) (by decide) (D0i A60)
def D3c:Nat→Option Jn:=B5 [(58,⟨[.t 3 false [.int .i64],.t 10 false [.int .i64]],lt 11 14 (lt 5 3 [.b 6,.r 69637]),false⟩)]
abbrev C27:List PK:= [.val false (.rs 9 .str) false]
abbrev C28:List RK:= [.val false (.int .i64)]
def B4V(f:A3a):Nat×Fn:=(174,⟨C27,C28,fun x=>f x.1⟩)
def D3d:Fn:=(B4V A1Z).2
theorem D3e(f_i_GetRec:A1X):∀ x,(C4 cfg [B7f f_i_GetRec] D3c 26 [.tmp 2] (Tryz.f174.body.getD .skip) C27 C28).fn x=B3f f_i_GetRec x.1:=by intro x;kernel_rfl
theorem C29:B3 Tryz.prog 174 D3d:=sm MO B0 (tc Tryz.call238 C6K A6) Tryz.func174 (by kernel_rfl) (by decide) (D3e A0U)
abbrev C6M:List PK:= [.val true (.pair .str (.pair (.int .i64) (.pair (.rs 5 (.int .u8)) .bool))) false,.val true (.pair .str (.pair (.int .i64) (.pair (.rs 5 (.int .u8)) .bool))) false]
abbrev C6N:List RK:= [.val false .bool]
def C6O(f:A7f):Nat×Fn:=(173,⟨C6M,C6N,fun x=>f x.1 x.2.1⟩)
def D64:Fn:=(C6O A7g).2
theorem D65(f_bytes_Equal:R1):∀ x,(C4 cfg [A5o f_bytes_Equal] (B5 []) 31 [.tmp 4] (Tryz.f173.body.getD .skip) C6M C6N).fn x=B7B f_bytes_Equal x.1 x.2.1:=by intro x;kernel_rfl
theorem D66:B3 Tryz.prog 173 D64:=sm MO B0 (tc Tryz.call77 A9w A6) Tryz.func173 (by kernel_rfl) (by decide) (D65 L9)
def P5:Nat→Option Jn:=B5 [(58,⟨[.t 17 false [.int .i64]],lt 18 14 (lt 7 3 [.b 8,.b 9]),false⟩)]
abbrev H0:List PK:= [.val false (.rs 109 kUp) false,.val false (.rs 109 kUp) false,.val false (.fnc 173) false]
abbrev H1:List RK:= [.val false .bool]
def H2(f:D0):Nat×Fn:=(172,⟨H0,H1,fun x=>f x.1 x.2.1 x.2.2.1⟩)
def P6:Fn:=(H2 C1).2
theorem P7(f_i_sameUp:A7f):∀ x,(C4 cfg [C6O f_i_sameUp] P5 32 [.tmp 6] (Tryz.f172.body.getD .skip) H0 H1).fn x=E6 f_i_sameUp x.1 x.2.1 x.2.2.1:=by intro x;kernel_rfl
theorem P8:B3 Tryz.prog 172 P6:=sm MO B0 (tc Tryz.call173 D66 A6) Tryz.func172 (by kernel_rfl) (by decide) (P7 A7g)
def D3f:Nat→Option Jn:=B5 [(3,⟨[],lt 6 10 [],false⟩),(31,⟨[],lt 24 16 [],false⟩),(63,⟨[],lt 40 15 [.x 50],false⟩)]
abbrev C2A:List PK:= [.val true (.pair (.pair (.rs 9 .str) (.rs 9 .str)) (.pair (.int .i64) (.pair (.int .i64) (.rs 109 kUp)))) false]
abbrev C2B:List RK:= [.val false .bool]
def C2C(f:A8n):Nat×Fn:=(94,⟨C2A,C2B,fun x=>f x.1⟩)
def D3g:Fn:=(C2C A1a).2
theorem D3h(f_i_isEpoch:A3Z)(f_i_DiskOk:A1V)(f_i_ScanRecs:A23)(f_i_FoldRecs:A24)(f_slices_EqualFunc_impl_Up_impl_Up_impl_Up_impl_Up_r1002_173:D0)(f_i_topFrom:A3a):∀ x,(C4 cfg [B4U f_i_isEpoch,B26 f_i_DiskOk,B27 f_i_ScanRecs,B28 f_i_FoldRecs,H2 f_slices_EqualFunc_impl_Up_impl_Up_impl_Up_impl_Up_r1002_173,B4V f_i_topFrom] D3f 65 [.tmp 2] (Tryz.f94.body.getD .skip) C2A C2B).fn x=B3g f_i_isEpoch f_i_DiskOk f_i_ScanRecs f_i_FoldRecs f_slices_EqualFunc_impl_Up_impl_Up_impl_Up_impl_Up_r1002_173 f_i_topFrom x.1:=by intro x;kernel_rfl
theorem D3i:B3 Tryz.prog 94 D3g:=sm MO B0 (tc Tryz.call168 C26 (tc Tryz.call169 B7d (tc Tryz.call170 B9D (tc Tryz.call171 B9G (tc Tryz.call172 P8 (tc Tryz.call174 C29 A6)))))) Tryz.func94 (by kernel_rfl) (by decide) (D3h A1U A1W A0V A0W C1 A1Z)
def D0j:Nat→Option Jn:=B5 [(3,⟨[],lt 4 13 [.b 4],false⟩),(26,⟨[.t 8 false [.int .i64]],lt 9 8 [.b 4,.t 4],false⟩)]
abbrev B9H:List PK:= [.val true (.pair (.pair (.pair (.rs 9 .str) (.rs 9 .str)) (.pair (.int .i64) (.pair (.int .i64) (.rs 109 kUp)))) (.rs 130 B2)) false]
abbrev B9I:List RK:= [.val false .bool]
def B9J(f:A6y):Nat×Fn:=(28,⟨B9H,B9I,fun x=>f x.1⟩)
def D0k:Fn:=(B9J A4G).2
theorem D0l(f_i_RespOk:Z2)(f_i_StoreOk:A8n):∀ x,(C4 cfg [B25 f_i_RespOk,C2C f_i_StoreOk] D0j 26 [.tmp 2] (Tryz.f28.body.getD .skip) B9H B9I).fn x=B1f f_i_RespOk f_i_StoreOk x.1:=by intro x;kernel_rfl
theorem D0m:B3 Tryz.prog 28 D0k:=sm MO B0 (tc Tryz.call93 B7c (tc Tryz.call94 D3i A6)) Tryz.func28 (by kernel_rfl) (by decide) (D0l V4 A1a)
abbrev B9K:List PK:= [.val true (.pair .str (.pair (.rs 5 (.int .u8)) F6)) false]
abbrev B9L:List RK:= [.val false .bool]
def A4V(f:O0):Nat×Fn:=(145,⟨B9K,B9L,fun x=>f x.1⟩)
def D0n:Fn:=(A4V K9).2
theorem D0o(f_i_inRange:C0)(f_i_idOk:T5):∀ x,(C4 cfg [H3 f_i_inRange,A6D f_i_idOk] (B5 []) 25 [.tmp 2] (Tryz.f145.body.getD .skip) B9K B9L).fn x=B1g f_i_inRange f_i_idOk x.1:=by intro x;kernel_rfl
theorem A75:B3 Tryz.prog 145 D0n:=sm MO B0 (tc Tryz.call80 I3 (tc Tryz.call147 A88 A6)) Tryz.func145 (by kernel_rfl) (by decide) (D0o C2 R9)
def C7i:Nat→Option Jn:=B5 [(3,⟨[],lt 6 28 [.b 4,.b 6,.t 3,.t 4],false⟩),(26,⟨[.t 10 false [.int .i64]],lt 11 23 [.b 4,.b 6,.t 3,.t 4,.t 6],false⟩),(13518,⟨[.t 23 false [.int .i64]],lt 24 9 [.b 6,.t 6],false⟩)]
abbrev B6M:List PK:= [.val true (.pair (.pair (.pair (.pair (.rs 9 .str) (.rs 9 .str)) (.pair (.int .i64) (.pair (.int .i64) (.rs 109 kUp)))) (.rs 130 B2)) (.pair (.rs 79 A9) (.pair (.rs 4 .bool) (.pair (.rs 113 F8) (.pair (.rs 130 B2) (.rs 3 (.int .i64))))))) false]
abbrev B6N:List RK:= [.val false .bool]
def B6O(f:A5f):Nat×Fn:=(78,⟨B6M,B6N,fun x=>f x.1⟩)
def C7j:Fn:=(B6O A2U).2
theorem C7k(f_i_ClientOk:O0):∀ x,(C4 cfg [A4V f_i_ClientOk] C7i 56 [.tmp 2] (Tryz.f78.body.getD .skip) B6M B6N).fn x=A9b f_i_ClientOk x.1:=by intro x;kernel_rfl
theorem C7l:B3 Tryz.prog 78 C7j:=sm MO B0 (tc Tryz.call145 A75 A6) Tryz.func78 (by kernel_rfl) (by decide) (C7k K9)
abbrev B2S:List PK:= [.val false (.int .i64) false]
abbrev B2T:List RK:= [.val false .str,.val false (.int .i64)]
def B2U(f:A33):Nat×Fn:=(146,⟨B2S,B2T,fun x=>f x.1⟩)
def C2c:Fn:=(B2U A34).2
theorem C2d:∀ x,(C4 cfg [] (B5 []) 11 [.tmp 2,.tmp 3] (Tryz.f146.body.getD .skip) B2S B2T).fn x=A6H x.1:=by intro x;kernel_rfl
theorem C2e:B3 Tryz.prog 146 C2c:=sm MO B0 A6 Tryz.func146 (by kernel_rfl) (by decide) (C2d)
abbrev C9A:List PK:= [.val true W8 false]
abbrev C9B:List RK:= [.val false .bool]
def C0i(f:A5C):Nat×Fn:=(79,⟨C9A,C9B,fun x=>f x.1⟩)
def D8k:Fn:=(C0i A3b).2
theorem D8l(f_i_inRange:C0)(f_i_numberField:A33)(f_i_idOk:T5):∀ x,(C4 cfg [H3 f_i_inRange,B2U f_i_numberField,A6D f_i_idOk] (B5 []) 25 [.tmp 2] (Tryz.f79.body.getD .skip) C9A C9B).fn x=C01 f_i_inRange f_i_numberField f_i_idOk x.1:=by intro x;kernel_rfl
theorem C9C:B3 Tryz.prog 79 D8k:=sm MO B0 (tc Tryz.call80 I3 (tc Tryz.call146 C2e (tc Tryz.call147 A88 A6))) Tryz.func79 (by kernel_rfl) (by decide) (D8l C2 A34 R9)
def D67:Nat→Option Jn:=B5 [(26,⟨[.t 9 false [.int .i64]],lt 10 18 [.b 6,.t 6],false⟩)]
abbrev C6P:List PK:= [.val true (.pair (.pair (.pair (.pair (.rs 9 .str) (.rs 9 .str)) (.pair (.int .i64) (.pair (.int .i64) (.rs 109 kUp)))) (.rs 130 B2)) (.pair (.rs 79 A9) (.pair (.rs 4 .bool) (.pair (.rs 113 F8) (.pair (.rs 130 B2) (.rs 3 (.int .i64))))))) false,.val false (.rs 130 B2) false]
abbrev C6Q:List RK:= [.val false .bool]
def C6R(f:B1i):Nat×Fn:=(81,⟨C6P,C6Q,fun x=>f x.1 x.2.1⟩)
def D68:Fn:=(C6R A7h).2
theorem D69(f_i_inRange:C0)(f_i_RespOk:Z2):∀ x,(C4 cfg [H3 f_i_inRange,B25 f_i_RespOk] D67 28 [.tmp 4] (Tryz.f81.body.getD .skip) C6P C6Q).fn x=B7C f_i_inRange f_i_RespOk x.1 x.2.1:=by intro x;kernel_rfl
theorem D6A:B3 Tryz.prog 81 D68:=sm MO B0 (tc Tryz.call80 I3 (tc Tryz.call93 B7c A6)) Tryz.func81 (by kernel_rfl) (by decide) (D69 C2 V4)
def D3j:Nat→Option Jn:=B5 [(3,⟨[],lt 5 15 [],false⟩),(7,⟨[],lt 20 22 [.b 4,.t 4],false⟩),(58,⟨[.t 23 false [.int .i64]],lt 24 18 [.b 4,.t 4],false⟩)]
abbrev C2D:List PK:= [.val true (.pair (.pair (.pair (.pair (.rs 9 .str) (.rs 9 .str)) (.pair (.int .i64) (.pair (.int .i64) (.rs 109 kUp)))) (.rs 130 B2)) (.pair (.rs 79 A9) (.pair (.rs 4 .bool) (.pair (.rs 113 F8) (.pair (.rs 130 B2) (.rs 3 (.int .i64))))))) false]
abbrev C2E:List RK:= [.val false .bool]
def B4W(f:A3c):Nat×Fn:=(23,⟨C2D,C2E,fun x=>f x.1⟩)
def D3k:Fn:=(B4W A0K).2
theorem D3l(f_i_ServerOk:A6y)(f_i_clientsOk:A5f)(f_i_ReqOk:A5C)(f_i_inRange:C0)(f_i_heldOk:B1i):∀ x,(C4 cfg [B9J f_i_ServerOk,B6O f_i_clientsOk,C0i f_i_ReqOk,H3 f_i_inRange,C6R f_i_heldOk] D3j 58 [.tmp 2] (Tryz.f23.body.getD .skip) C2D C2E).fn x=B3i f_i_ServerOk f_i_clientsOk f_i_ReqOk f_i_inRange f_i_heldOk x.1:=by intro x;kernel_rfl
theorem C2F:B3 Tryz.prog 23 D3k:=sm MO B0 (tc Tryz.call28 D0m (tc Tryz.call78 C7l (tc Tryz.call79 C9C (tc Tryz.call80 I3 (tc Tryz.call81 D6A A6))))) Tryz.func23 (by kernel_rfl) (by decide) (D3l A4G A2U A3b C2 A7h)
abbrev D3m:List PK:= [.val true (.pair (.pair (.pair (.pair (.rs 9 .str) (.rs 9 .str)) (.pair (.int .i64) (.pair (.int .i64) (.rs 109 kUp)))) (.rs 130 B2)) (.pair (.rs 79 A9) (.pair (.rs 4 .bool) (.pair (.rs 113 F8) (.pair (.rs 130 B2) (.rs 3 (.int .i64))))))) false]
abbrev D3n:List RK:= [.val false (.int .i64)]
def D3o(f:B8A):Nat×Fn:=(17,⟨D3m,D3n,fun x=>f x.1⟩)
def E0x:Fn:=(D3o B3j).2
theorem E0y(f_i_Begins:B1X)(f_i_NotLost:A8k)(f_i_Ends:B87)(f_i_NoneFails:A5d)(f_i_WorldOk:A3c):∀ x,(C4 cfg [C64 f_i_Begins,C21 f_i_NotLost,D3O f_i_Ends,B6L f_i_NoneFails,B4W f_i_WorldOk] (B5 []) 23 [.tmp 2] (Tryz.f17.body.getD .skip) D3m D3n).fn x=C4I f_i_Begins f_i_NotLost f_i_Ends f_i_NoneFails f_i_WorldOk x.1:=by intro x;kernel_rfl
theorem E0z:B3 Tryz.prog 17 E0x:=sm MO B0 (tc Tryz.call19 D5m (tc Tryz.call20 D3L (tc Tryz.call21 E0n (tc Tryz.call22 C7h (tc Tryz.call23 C2F A6))))) Tryz.func17 (by kernel_rfl) (by decide) (E0y A7a A5z B3e A2T A0K)
def C7m:Nat→Option Jn:=B5 [(58,⟨[.t 5 false [.int .i64]],lt 11 15 [],false⟩)]
abbrev B6P:List PK:= [.val false (.rs 5 (.int .u8)) false,.val false (.rs 5 (.int .u8)) false]
abbrev B6Q:List RK:= [.val false .bool]
def B6R(f:A2V):Nat×Fn:=(95,⟨B6P,B6Q,fun x=>f x.1 x.2.1⟩)
def C7n:Fn:=(B6R A0v).2
theorem C7o:∀ x,(C4 cfg [] C7m 26 [.tmp 4] (Tryz.f95.body.getD .skip) B6P B6Q).fn x=A9c x.1 x.2.1:=by intro x;kernel_rfl
theorem C7p:B3 Tryz.prog 95 C7n:=sm MO B0 A6 Tryz.func95 (by kernel_rfl) (by decide) (C7o)
def D3p:Nat→Option Jn:=B5 [(58,⟨[.t 5 false [.int .i64]],lt 11 57 [],false⟩)]
abbrev C2G:List PK:= [.val false (.rs 109 kUp) false,.val false (.rs 109 kUp) false]
abbrev C2H:List RK:= [.val false .bool]
def C2I(f:A8o):Nat×Fn:=(29,⟨C2G,C2H,fun x=>f x.1 x.2.1⟩)
def D3q:Fn:=(C2I A61).2
theorem D3r(f_w_sameBytes:A2V):∀ x,(C4 cfg [B6R f_w_sameBytes] D3p 68 [.tmp 4] (Tryz.f29.body.getD .skip) C2G C2H).fn x=B3k f_w_sameBytes x.1 x.2.1:=by intro x;kernel_rfl
theorem D3s:B3 Tryz.prog 29 D3q:=sm MO B0 (tc Tryz.call95 C7p A6) Tryz.func29 (by kernel_rfl) (by decide) (D3r A0v)
abbrev A0p:List PK:= [.val false (.rs 9 .str) false]
abbrev A0q:List RK:= [.val false (.sl 9 .str)]
def T3(f:G4):Nat×Fn:=(275,⟨A0p,A0q,fun x=>f x.1⟩)
def A6R:Fn:=(T3 F7).2
theorem A6S:∀ x,(C4 cfg [] (B5 []) 8 [.tmp 2] (Tryz.f275.body.getD .skip) A0p A0q).fn x=T2 x.1:=by intro x;kernel_rfl
theorem A0r:B3 Tryz.prog 275 A6R:=sm MO B0 A6 Tryz.func275 (by kernel_rfl) (by decide) (A6S)
abbrev B9M:List PK:= [.val true (.pair (.rs 9 .str) (.rs 9 .str)) false]
abbrev B9N:List RK:= [.val true A4p]
def A76(f:X9):Nat×Fn:=(221,⟨B9M,B9N,fun x=>f x.1⟩)
def D0p:Fn:=(A76 T7).2
theorem D0q(f_slices_Clone_string_string:G4):∀ x,(C4 cfg [T3 f_slices_Clone_string_string] (B5 []) 10 [.cell 2 26] (Tryz.f221.body.getD .skip) B9M B9N).fn x=B1j f_slices_Clone_string_string x.1:=by intro x;kernel_rfl
theorem B29:B3 Tryz.prog 221 D0p:=sm MO B0 (tc Tryz.call275 A0r A6) Tryz.func221 (by kernel_rfl) (by decide) (D0q F7)
def C7q:Nat→Option Jn:=B5 [(58,⟨[.t 17 false [.int .i64],.b 3 [.own 36864,.own 36865,.int .i64,.int .i64,.own 100000000],.r 36864 9 .str,.r 36865 9 .str,.r 100000000 109 kUp],lt 18 11 [.b 5,.r 25,.r 26,.r 102402,.t 5],false⟩)]
abbrev B6S:List PK:= [.val true (.pair (.pair (.rs 9 .str) (.rs 9 .str)) (.pair (.int .i64) (.pair (.int .i64) (.rs 109 kUp)))) false]
abbrev B6T:List RK:= [.val true A7Q]
def B6U(f:A5i):Nat×Fn:=(154,⟨B6S,B6T,fun x=>f x.1⟩)
def C7r:Fn:=(B6U A2W).2
theorem C7s(f_i_copyUp:A1T)(f_i_copyDisk:X9):∀ x,(C4 cfg [B7b f_i_copyUp,A76 f_i_copyDisk] C7q 30 [.cell 2 29] (Tryz.f154.body.getD .skip) B6S B6T).fn x=A9d f_i_copyUp f_i_copyDisk x.1:=by intro x;kernel_rfl
theorem C7t:B3 Tryz.prog 154 C7r:=sm MO B0 (tc Tryz.call144 C61 (tc Tryz.call221 B29 A6)) Tryz.func154 (by kernel_rfl) (by decide) (C7s T1 T7)
abbrev V8:List PK:= [.val false (.rs 130 B2) false]
abbrev V9:List RK:= [.val false (.sl 130 B2)]
def M9(f:F0):Nat×Fn:=(155,⟨V8,V9,fun x=>f x.1⟩)
def A3R:Fn:=(M9 D8).2
theorem A3S:∀ x,(C4 cfg [] (B5 []) 8 [.tmp 2] (Tryz.f155.body.getD .skip) V8 V9).fn x=M8 x.1:=by intro x;kernel_rfl
theorem W0:B3 Tryz.prog 155 A3R:=sm MO B0 A6 Tryz.func155 (by kernel_rfl) (by decide) (A3S)
abbrev B4X:List PK:= [.val true (.pair (.pair (.pair (.rs 9 .str) (.rs 9 .str)) (.pair (.int .i64) (.pair (.int .i64) (.rs 109 kUp)))) (.rs 130 B2)) false]
abbrev B4Y:List RK:= [.val true A5U]
def B4Z(f:A4H):Nat×Fn:=(87,⟨B4X,B4Y,fun x=>f x.1⟩)
def C6S:Fn:=(B4Z A1b).2
theorem C6T(f_i_copyStore:A5i)(f_slices_Clone_impl_Held_impl_Held:F0):∀ x,(C4 cfg [B6U f_i_copyStore,M9 f_slices_Clone_impl_Held_impl_Held] (B5 []) 10 [.cell 2 32] (Tryz.f87.body.getD .skip) B4X B4Y).fn x=A7i f_i_copyStore f_slices_Clone_impl_Held_impl_Held x.1:=by intro x;kernel_rfl
theorem C6U:B3 Tryz.prog 87 C6S:=sm MO B0 (tc Tryz.call154 C7t (tc Tryz.call155 W0 A6)) Tryz.func87 (by kernel_rfl) (by decide) (C6T A2W D8)
abbrev A2t:List PK:= [.val false (.rs 4 .bool) false]
abbrev A2u:List RK:= [.val false (.sl 4 .bool)]
def A2v(f:R2):Nat×Fn:=(188,⟨A2t,A2u,fun x=>f x.1⟩)
def A9x:Fn:=(A2v M0).2
theorem A9y:∀ x,(C4 cfg [] (B5 []) 8 [.tmp 2] (Tryz.f188.body.getD .skip) A2t A2u).fn x=Z3 x.1:=by intro x;kernel_rfl
theorem A9z:B3 Tryz.prog 188 A9x:=sm MO B0 A6 Tryz.func188 (by kernel_rfl) (by decide) (A9y)
abbrev A4W:List PK:= [.val false (.rs 3 (.int .i64)) false]
abbrev A4X:List RK:= [.val false (.sl 3 (.int .i64))]
def A4Y(f:T8):Nat×Fn:=(189,⟨A4W,A4X,fun x=>f x.1⟩)
def B2A:Fn:=(A4Y O1).2
theorem B2B:∀ x,(C4 cfg [] (B5 []) 8 [.tmp 2] (Tryz.f189.body.getD .skip) A4W A4X).fn x=A0X x.1:=by intro x;kernel_rfl
theorem B2C:B3 Tryz.prog 189 B2A:=sm MO B0 A6 Tryz.func189 (by kernel_rfl) (by decide) (B2B)
abbrev B4a:List PK:= [.val true (.pair .str (.pair (.rs 5 (.int .u8)) F6)) false]
abbrev B4b:List RK:= [.val true A9]
def A4Z(f:O2):Nat×Fn:=(190,⟨B4a,B4b,fun x=>f x.1⟩)
def C6V:Fn:=(A4Z K5).2
theorem C6W(f_slices_Clone_byte_byte:C9):∀ x,(C4 cfg [I8 f_slices_Clone_byte_byte] (B5 []) 8 [.cell 2 79] (Tryz.f190.body.getD .skip) B4a B4b).fn x=A7j f_slices_Clone_byte_byte x.1:=by intro x;kernel_rfl
theorem A89:B3 Tryz.prog 190 C6V:=sm MO B0 (tc Tryz.call191 M2 A6) Tryz.func190 (by kernel_rfl) (by decide) (C6W C5)
def C7u:Nat→Option Jn:=B5 [(7,⟨[.b 3 [.own 45056,.own 45057,.int .i64,.int .i64,.own 45060,.own 45061,.own 100000000,.own 57344,.nil,.own 69632,.own 81920],.r 45056 9 .str,.r 45057 9 .str,.r 45060 109 kUp,.r 45061 130 B2,.r 57344 4 .bool,.r 69632 130 B2,.r 81920 3 (.int .i64),.r 100000000 79 A9],lt 21 15 [.b 5,.r 32,.r 33,.r 131073,.t 5],true⟩),(58,⟨[.t 24 false [.int .i64],.b 3 [.own 45056,.own 45057,.int .i64,.int .i64,.own 45060,.own 45061,.own 100000000,.own 57344,.nil,.own 69632,.own 81920],.r 45056 9 .str,.r 45057 9 .str,.r 45060 109 kUp,.r 45061 130 B2,.r 57344 4 .bool,.r 69632 130 B2,.r 81920 3 (.int .i64),.r 100000000 79 A9],lt 25 11 [.b 5,.r 32,.r 33,.r 131073,.t 5],false⟩),(122,⟨[.t 39 false [.int .i64],.b 3 [.own 45056,.own 45057,.int .i64,.int .i64,.own 45060,.own 45061,.own 100000000,.own 57344,.own 100002001,.own 69632,.own 81920],.r 45056 9 .str,.r 45057 9 .str,.r 45060 109 kUp,.r 45061 130 B2,.r 57344 4 .bool,.r 69632 130 B2,.r 81920 3 (.int .i64),.r 100000000 79 A9,.r 100002001 113 F8],lt 40 14 [.b 7,.r 50,.r 51,.r 188416,.t 7],false⟩)]
abbrev B6V:List PK:= [.val true (.pair (.pair (.pair (.pair (.rs 9 .str) (.rs 9 .str)) (.pair (.int .i64) (.pair (.int .i64) (.rs 109 kUp)))) (.rs 130 B2)) (.pair (.rs 79 A9) (.pair (.rs 4 .bool) (.pair (.rs 113 F8) (.pair (.rs 130 B2) (.rs 3 (.int .i64))))))) false]
abbrev B6W:List RK:= [.val true S9]
def B6X(f:A5j):Nat×Fn:=(107,⟨B6V,B6W,fun x=>f x.1⟩)
def C7v:Fn:=(B6X A2X).2
theorem C7w(f_i_copyServer:A4H)(f_slices_Clone_impl_Held_impl_Held:F0)(f_slices_Clone_bool_bool:R2)(f_slices_Clone_int_int:T8)(f_i_copyClient:O2)(f_slices_Clone_byte_byte:C9):∀ x,(C4 cfg [B4Z f_i_copyServer,M9 f_slices_Clone_impl_Held_impl_Held,A2v f_slices_Clone_bool_bool,A4Y f_slices_Clone_int_int,A4Z f_i_copyClient,I8 f_slices_Clone_byte_byte] C7u 55 [.cell 2 38] (Tryz.f107.body.getD .skip) B6V B6W).fn x=A9e f_i_copyServer f_slices_Clone_impl_Held_impl_Held f_slices_Clone_bool_bool f_slices_Clone_int_int f_i_copyClient f_slices_Clone_byte_byte x.1:=by intro x;kernel_rfl
theorem C7x:B3 Tryz.prog 107 C7v:=sm MO B0 (tc Tryz.call87 C6U (tc Tryz.call155 W0 (tc Tryz.call188 A9z (tc Tryz.call189 B2C (tc Tryz.call190 A89 (tc Tryz.call191 M2 A6)))))) Tryz.func107 (by kernel_rfl) (by decide) (C7w A1b D8 M0 O1 K5 C5)
abbrev A4a:List PK:= [.ptr (.pair .str (.pair (.rs 5 (.int .u8)) F6))]
abbrev A4b:List RK:= [.val false .bool]
def U0(f:L4):Nat×Fn:=(295,⟨A4a,A4b,fun x=>f x.1⟩)
def B2D:Fn:=(U0 J0).2
theorem B2E:∀ x,(C4 cfg [] (B5 []) 15 [.tmp 2] (Tryz.f295.body.getD .skip) A4a A4b).fn x=A4I x.1:=by intro x;kernel_rfl
theorem A0d:B3 Tryz.prog 295 B2D:=sm MO B0 A6 Tryz.func295 (by kernel_rfl) (by decide) (B2E)
def D3t:Nat→Option Jn:=B5 [(3,⟨[.b 1 [.str,.ro 5 (.int .u8),.int .i64,.int .i64]],lt 6 6 [],false⟩)]
abbrev C2J:List PK:= [.val true (.pair .str (.pair (.rs 5 (.int .u8)) F6)) false]
abbrev C2K:List RK:= [.val true W8,.val false (.sl 5 (.int .u8)),.val false .bool]
def C2L(f:A8p):Nat×Fn:=(259,⟨C2J,C2K,fun x=>f x.1⟩)
def D3u:Fn:=(C2L A62).2
theorem D3v(f_i_ClientOk:O0)(f_slices_Clone_byte_byte:C9)(f_i_Crc:A8m)(f_i_Client_isOver:L4):∀ x,(C4 cfg [A4V f_i_ClientOk,I8 f_slices_Clone_byte_byte,C3Y f_i_Crc,U0 f_i_Client_isOver] D3t 55 [.cell 2 43,.tmp 3,.tmp 4] (Tryz.f259.body.getD .skip) C2J C2K).fn x=B3l f_i_ClientOk f_slices_Clone_byte_byte f_i_Crc f_i_Client_isOver x.1:=by intro x;kernel_rfl
theorem D3w:B3 Tryz.prog 259 D3u:=sm MO B0 (tc Tryz.call145 A75 (tc Tryz.call191 M2 (tc Tryz.call280 D0c (tc Tryz.call295 A0d A6)))) Tryz.func259 (by kernel_rfl) (by decide) (D3v K9 C5 A6x J0)
end
end Go.Proofs.YtpdcljonclhhpaaGreat.Ev
