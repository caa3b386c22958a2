/- Each function of the program does what its plain function says. -/
import Derived.Test.YtpdcljonclhhpaaGreatG2
set_option linter.unusedVariables false
set_option maxRecDepth 100000
namespace Go.Proofs.YtpdcljonclhhpaaGreat.Ev
noncomputable section
def D35:Nat→Option Jn:=B3 [(58,⟨[.t 5 false [.int .i64]],lt 11 15 [],false⟩)]
abbrev B93:List PK:= [.val false (.rs 9 .str) false,.val false (.rs 9 .str) false]
abbrev B94:List RK:= [.val false .bool]
def B95(f:A6E):Nat×Fn:=(245,⟨B93,B94,fun x=>f x.1 x.2.1⟩)
def D36:Fn:=(B95 A2L).2
theorem D37:∀ x,(B8 cfg [] D35 26 [.tmp 4] (Tryz.f245.body.getD .skip) B93 B94).fn x=B1E x.1 x.2.1:=by intro x;kernel_rfl
theorem D38:B0 Tryz.prog 245 D36:=sm MO A7 A5 Tryz.func245 (by kernel_rfl) (by decide) (D37)
abbrev D11:List PK:= [.val true (.pair (.rs 9 .str) (.rs 9 .str)) false,.val true (.pair (.rs 9 .str) (.rs 9 .str)) false]
abbrev D12:List RK:= [.val false .bool]
def D13(f:B3W):Nat×Fn:=(180,⟨D11,D12,fun x=>f x.1 x.2.1⟩)
def E3s:Fn:=(D13 A92).2
theorem E3t(f_w_eqStringS:A6E):∀ x,(B8 cfg [B95 f_w_eqStringS] (B3 []) 17 [.tmp 4] (Tryz.f180.body.getD .skip) D11 D12).fn x=C0R f_w_eqStringS x.1 x.2.1:=by intro x;kernel_rfl
theorem E3u:B0 Tryz.prog 180 E3s:=sm MO A7 (tc Tryz.call245 D38 A5) Tryz.func180 (by kernel_rfl) (by decide) (E3t A2L)
def E0T:Nat→Option Jn:=B3 [(58,⟨[.t 5 false [.int .i64]],lt 11 15 [],false⟩)]
abbrev C61:List PK:= [.val false (.rs 5 (.int .u8)) false,.val false (.rs 5 (.int .u8)) false]
abbrev C62:List RK:= [.val false .bool]
def B0j(f:A09):Nat×Fn:=(36,⟨C61,C62,fun x=>f x.1 x.2.1⟩)
def E0U:Fn:=(B0j T5).2
theorem E0V:∀ x,(B8 cfg [] E0T 26 [.tmp 4] (Tryz.f36.body.getD .skip) C61 C62).fn x=B5m x.1 x.2.1:=by intro x;kernel_rfl
theorem B6v:B0 Tryz.prog 36 E0U:=sm MO A7 A5 Tryz.func36 (by kernel_rfl) (by decide) (E0V)
abbrev E0W:List PK:= [.val true (.pair .str (.pair (.int .i64) (.pair (.rs 5 (.int .u8)) .bool))) false,.val true (.pair .str (.pair (.int .i64) (.pair (.rs 5 (.int .u8)) .bool))) false]
abbrev E0X:List RK:= [.val false .bool]
def E0Y(f:B5n):Nat×Fn:=(246,⟨E0W,E0X,fun x=>f x.1 x.2.1⟩)
def E9R:Fn:=(E0Y B5o).2
theorem E9S(f_w_eqByteS:A09):∀ x,(B8 cfg [B0j f_w_eqByteS] (B3 []) 26 [.tmp 4] (Tryz.f246.body.getD .skip) E0W E0X).fn x=C8w f_w_eqByteS x.1 x.2.1:=by intro x;kernel_rfl
theorem E9T:B0 Tryz.prog 246 E9R:=sm MO A7 (tc Tryz.call36 B6v A5) Tryz.func246 (by kernel_rfl) (by decide) (E9S T5)
def E74:Nat→Option Jn:=B3 [(58,⟨[.t 5 false [.int .i64]],lt 11 16 [],false⟩)]
abbrev D58:List PK:= [.val false (.rs 109 kUp) false,.val false (.rs 109 kUp) false]
abbrev D59:List RK:= [.val false .bool]
def D5A(f:B7l):Nat×Fn:=(181,⟨D58,D59,fun x=>f x.1 x.2.1⟩)
def E75:Fn:=(D5A B1y).2
theorem E76(f_w_eqUp:B5n):∀ x,(B8 cfg [E0Y f_w_eqUp] E74 27 [.tmp 4] (Tryz.f181.body.getD .skip) D58 D59).fn x=C3i f_w_eqUp x.1 x.2.1:=by intro x;kernel_rfl
theorem E77:B0 Tryz.prog 181 E75:=sm MO A7 (tc Tryz.call246 E9T A5) Tryz.func181 (by kernel_rfl) (by decide) (E76 B5o)
abbrev C63:List PK:= [.val true (.pair (.pair (.rs 9 .str) (.rs 9 .str)) (.pair (.int .i64) (.pair (.int .i64) (.rs 109 kUp)))) false,.val true (.pair (.pair (.rs 9 .str) (.rs 9 .str)) (.pair (.int .i64) (.pair (.int .i64) (.rs 109 kUp)))) false]
abbrev C64:List RK:= [.val false .bool]
def C65(f:B03):Nat×Fn:=(100,⟨C63,C64,fun x=>f x.1 x.2.1⟩)
def E0Z:Fn:=(C65 A6s).2
theorem E0a(f_w_eqDisk:B3W)(f_w_eqUpS:B7l):∀ x,(B8 cfg [D13 f_w_eqDisk,D5A f_w_eqUpS] (B3 []) 27 [.tmp 4] (Tryz.f100.body.getD .skip) C63 C64).fn x=B5q f_w_eqDisk f_w_eqUpS x.1 x.2.1:=by intro x;kernel_rfl
theorem E0b:B0 Tryz.prog 100 E0Z:=sm MO A7 (tc Tryz.call180 E3u (tc Tryz.call181 E77 A5)) Tryz.func100 (by kernel_rfl) (by decide) (E0a A92 B1y)
abbrev D14:List PK:= [.val true F0 false,.val true F0 false]
abbrev D15:List RK:= [.val false .bool]
def D16(f:B3X):Nat×Fn:=(247,⟨D14,D15,fun x=>f x.1 x.2.1⟩)
def E3v:Fn:=(D16 A93).2
theorem E3w:∀ x,(B8 cfg [] (B3 []) 15 [.tmp 4] (Tryz.f247.body.getD .skip) D14 D15).fn x=C0S x.1 x.2.1:=by intro x;kernel_rfl
theorem E3x:B0 Tryz.prog 247 E3v:=sm MO A7 A5 Tryz.func247 (by kernel_rfl) (by decide) (E3w)
abbrev D17:List PK:= [.val true A9 false,.val true A9 false]
abbrev D18:List RK:= [.val false .bool]
def D19(f:A94):Nat×Fn:=(182,⟨D17,D18,fun x=>f x.1 x.2.1⟩)
def E3y:Fn:=(D19 A95).2
theorem E3z(f_w_eqResp:B3X):∀ x,(B8 cfg [D16 f_w_eqResp] (B3 []) 16 [.tmp 4] (Tryz.f182.body.getD .skip) D17 D18).fn x=C0T f_w_eqResp x.1 x.2.1:=by intro x;kernel_rfl
theorem E40:B0 Tryz.prog 182 E3y:=sm MO A7 (tc Tryz.call247 E3x A5) Tryz.func182 (by kernel_rfl) (by decide) (E3z A93)
def E0c:Nat→Option Jn:=B3 [(58,⟨[.t 5 false [.int .i64]],lt 11 16 [],false⟩)]
abbrev C66:List PK:= [.val false (.rs 130 A9) false,.val false (.rs 130 A9) false]
abbrev C67:List RK:= [.val false .bool]
def B6w(f:A3l):Nat×Fn:=(101,⟨C66,C67,fun x=>f x.1 x.2.1⟩)
def E0d:Fn:=(B6w A1R).2
theorem E0e(f_w_eqHeld:A94):∀ x,(B8 cfg [D19 f_w_eqHeld] E0c 27 [.tmp 4] (Tryz.f101.body.getD .skip) C66 C67).fn x=B5r f_w_eqHeld x.1 x.2.1:=by intro x;kernel_rfl
theorem C68:B0 Tryz.prog 101 E0d:=sm MO A7 (tc Tryz.call182 E40 A5) Tryz.func101 (by kernel_rfl) (by decide) (E0e A95)
abbrev C2X:List PK:= [.val true (.pair (.pair (.pair (.rs 9 .str) (.rs 9 .str)) (.pair (.int .i64) (.pair (.int .i64) (.rs 109 kUp)))) (.rs 130 A9)) false,.val true (.pair (.pair (.pair (.rs 9 .str) (.rs 9 .str)) (.pair (.int .i64) (.pair (.int .i64) (.rs 109 kUp)))) (.rs 130 A9)) false]
abbrev C2Y:List RK:= [.val false .bool]
def C2Z(f:A7y):Nat×Fn:=(35,⟨C2X,C2Y,fun x=>f x.1 x.2.1⟩)
def D6u:Fn:=(C2Z A4S).2
theorem D6v(f_w_eqStore:B03)(f_w_eqHeldS:A3l):∀ x,(B8 cfg [C65 f_w_eqStore,B6w f_w_eqHeldS] (B3 []) 17 [.tmp 4] (Tryz.f35.body.getD .skip) C2X C2Y).fn x=B3Y f_w_eqStore f_w_eqHeldS x.1 x.2.1:=by intro x;kernel_rfl
theorem D6w:B0 Tryz.prog 35 D6u:=sm MO A7 (tc Tryz.call100 E0b (tc Tryz.call101 C68 A5)) Tryz.func35 (by kernel_rfl) (by decide) (D6v A6s A1R)
abbrev C2a:List PK:= [.val true (.pair .str (.pair (.rs 5 (.int .u8)) F0)) false,.val true (.pair .str (.pair (.rs 5 (.int .u8)) F0)) false]
abbrev C2b:List RK:= [.val false .bool]
def C2c(f:A4T):Nat×Fn:=(211,⟨C2a,C2b,fun x=>f x.1 x.2.1⟩)
def D6x:Fn:=(C2c A4U).2
theorem D6y(f_w_eqByteS:A09):∀ x,(B8 cfg [B0j f_w_eqByteS] (B3 []) 26 [.tmp 4] (Tryz.f211.body.getD .skip) C2a C2b).fn x=B3Z f_w_eqByteS x.1 x.2.1:=by intro x;kernel_rfl
theorem D6z:B0 Tryz.prog 211 D6x:=sm MO A7 (tc Tryz.call36 B6v A5) Tryz.func211 (by kernel_rfl) (by decide) (D6y T5)
def D39:Nat→Option Jn:=B3 [(58,⟨[.t 5 false [.int .i64]],lt 11 16 [],false⟩)]
abbrev B96:List PK:= [.val false (.rs 79 B2) false,.val false (.rs 79 B2) false]
abbrev B97:List RK:= [.val false .bool]
def B98(f:A6G):Nat×Fn:=(126,⟨B96,B97,fun x=>f x.1 x.2.1⟩)
def D3A:Fn:=(B98 A2M).2
theorem D3B(f_w_eqClient:A4T):∀ x,(B8 cfg [C2c f_w_eqClient] D39 27 [.tmp 4] (Tryz.f126.body.getD .skip) B96 B97).fn x=B1G f_w_eqClient x.1 x.2.1:=by intro x;kernel_rfl
theorem D3C:B0 Tryz.prog 126 D3A:=sm MO A7 (tc Tryz.call211 D6z A5) Tryz.func126 (by kernel_rfl) (by decide) (D3B A4U)
def E0f:Nat→Option Jn:=B3 [(58,⟨[.t 5 false [.int .i64]],lt 11 15 [],false⟩)]
abbrev C69:List PK:= [.val false (.rs 4 .bool) false,.val false (.rs 4 .bool) false]
abbrev C6A:List RK:= [.val false .bool]
def B6x(f:A3m):Nat×Fn:=(127,⟨C69,C6A,fun x=>f x.1 x.2.1⟩)
def E0g:Fn:=(B6x A1S).2
theorem E0h:∀ x,(B8 cfg [] E0f 26 [.tmp 4] (Tryz.f127.body.getD .skip) C69 C6A).fn x=B5s x.1 x.2.1:=by intro x;kernel_rfl
theorem C6B:B0 Tryz.prog 127 E0g:=sm MO A7 A5 Tryz.func127 (by kernel_rfl) (by decide) (E0h)
abbrev D5B:List PK:= [.val true L5 false,.val true L5 false]
abbrev D5C:List RK:= [.val false .bool]
def D5D(f:B7m):Nat×Fn:=(271,⟨D5B,D5C,fun x=>f x.1 x.2.1⟩)
def E78:Fn:=(D5D B1z).2
theorem E79:∀ x,(B8 cfg [] (B3 []) 20 [.tmp 4] (Tryz.f271.body.getD .skip) D5B D5C).fn x=C3j x.1 x.2.1:=by intro x;kernel_rfl
theorem E7A:B0 Tryz.prog 271 E78:=sm MO A7 A5 Tryz.func271 (by kernel_rfl) (by decide) (E79)
abbrev D1A:List PK:= [.val true (.pair (.int .i64) (.pair L5 (.rs 5 (.int .u8)))) false,.val true (.pair (.int .i64) (.pair L5 (.rs 5 (.int .u8)))) false]
abbrev D1B:List RK:= [.val false .bool]
def D1C(f:A96):Nat×Fn:=(212,⟨D1A,D1B,fun x=>f x.1 x.2.1⟩)
def E41:Fn:=(D1C A97).2
theorem E42(f_w_eqByteS:A09)(f_w_eqReq:B7m):∀ x,(B8 cfg [B0j f_w_eqByteS,D5D f_w_eqReq] (B3 []) 22 [.tmp 4] (Tryz.f212.body.getD .skip) D1A D1B).fn x=C0U f_w_eqByteS f_w_eqReq x.1 x.2.1:=by intro x;kernel_rfl
theorem E43:B0 Tryz.prog 212 E41:=sm MO A7 (tc Tryz.call36 B6v (tc Tryz.call271 E7A A5)) Tryz.func212 (by kernel_rfl) (by decide) (E42 T5 B1z)
def E0i:Nat→Option Jn:=B3 [(58,⟨[.t 5 false [.int .i64]],lt 11 16 [],false⟩)]
abbrev C6C:List PK:= [.val false (.rs 113 B9) false,.val false (.rs 113 B9) false]
abbrev C6D:List RK:= [.val false .bool]
def C6E(f:B04):Nat×Fn:=(128,⟨C6C,C6D,fun x=>f x.1 x.2.1⟩)
def E0j:Fn:=(C6E A6t).2
theorem E0k(f_w_eqWant:A96):∀ x,(B8 cfg [D1C f_w_eqWant] E0i 27 [.tmp 4] (Tryz.f128.body.getD .skip) C6C C6D).fn x=B5t f_w_eqWant x.1 x.2.1:=by intro x;kernel_rfl
theorem E0l:B0 Tryz.prog 128 E0j:=sm MO A7 (tc Tryz.call212 E43 A5) Tryz.func128 (by kernel_rfl) (by decide) (E0k A97)
def E44:Nat→Option Jn:=B3 [(58,⟨[.t 5 false [.int .i64]],lt 11 15 [],false⟩)]
abbrev D1D:List PK:= [.val false (.rs 3 (.int .i64)) false,.val false (.rs 3 (.int .i64)) false]
abbrev D1E:List RK:= [.val false .bool]
def D1F(f:B3b):Nat×Fn:=(129,⟨D1D,D1E,fun x=>f x.1 x.2.1⟩)
def E45:Fn:=(D1F A98).2
theorem E46:∀ x,(B8 cfg [] E44 26 [.tmp 4] (Tryz.f129.body.getD .skip) D1D D1E).fn x=C0V x.1 x.2.1:=by intro x;kernel_rfl
theorem E47:B0 Tryz.prog 129 E45:=sm MO A7 A5 Tryz.func129 (by kernel_rfl) (by decide) (E46)
abbrev C6F:List PK:= [.val true (.pair (.pair (.pair (.pair (.rs 9 .str) (.rs 9 .str)) (.pair (.int .i64) (.pair (.int .i64) (.rs 109 kUp)))) (.rs 130 A9)) (.pair (.rs 79 B2) (.pair (.rs 4 .bool) (.pair (.rs 113 B9) (.pair (.rs 130 A9) (.rs 3 (.int .i64))))))) false,.val true (.pair (.pair (.pair (.pair (.rs 9 .str) (.rs 9 .str)) (.pair (.int .i64) (.pair (.int .i64) (.rs 109 kUp)))) (.rs 130 A9)) (.pair (.rs 79 B2) (.pair (.rs 4 .bool) (.pair (.rs 113 B9) (.pair (.rs 130 A9) (.rs 3 (.int .i64))))))) false]
abbrev C6G:List RK:= [.val false .bool]
def C6H(f:B05):Nat×Fn:=(54,⟨C6F,C6G,fun x=>f x.1 x.2.1⟩)
def E0m:Fn:=(C6H A6u).2
theorem E0n(f_w_eqServer:A7y)(f_w_eqHeldS:A3l)(f_w_eqClientS:A6G)(f_w_eqBoolS:A3m)(f_w_eqWantS:B04)(f_w_eqIntS:B3b):∀ x,(B8 cfg [C2Z f_w_eqServer,B6w f_w_eqHeldS,B98 f_w_eqClientS,B6x f_w_eqBoolS,C6E f_w_eqWantS,D1F f_w_eqIntS] (B3 []) 41 [.tmp 4] (Tryz.f54.body.getD .skip) C6F C6G).fn x=B5u f_w_eqServer f_w_eqHeldS f_w_eqClientS f_w_eqBoolS f_w_eqWantS f_w_eqIntS x.1 x.2.1:=by intro x;kernel_rfl
theorem E0o:B0 Tryz.prog 54 E0m:=sm MO A7 (tc Tryz.call35 D6w (tc Tryz.call101 C68 (tc Tryz.call126 D3C (tc Tryz.call127 C6B (tc Tryz.call128 E0l (tc Tryz.call129 E47 A5)))))) Tryz.func54 (by kernel_rfl) (by decide) (E0n A4S A1R A2M A1S A6t A98)
def D70:Nat→Option Jn:=B3 [(15,⟨[.t 3 false [.str]],lt 6 12 [.r 12,.t 0],true⟩),(60,⟨[.t 0 false [.int .i64],.t 3 false [.str]],lt 6 12 [.r 12],false⟩)]
abbrev C2d:List PK:= [.val false (.int .i64) false]
abbrev C2e:List RK:= [.val false .str]
def T2(f:D9):Nat×Fn:=(213,⟨C2d,C2e,fun x=>f x.1⟩)
def D71:Fn:=(T2 D3).2
theorem D72:∀ x,(B8 cfg [] D70 20 [.tmp 2] (Tryz.f213.body.getD .skip) C2d C2e).fn x=B3c x.1:=by intro x;kernel_rfl
theorem X7:B0 Tryz.prog 213 D71:=sm MO A7 A5 Tryz.func213 (by kernel_rfl) (by decide) (D72)
def C7W:Nat→Option Jn:=B3 [(26,⟨[.t 0 false [.own 1000],.t 1 false [.int .i64],.t 5 false [.int .i64],.r 1000 9 .str],lt 6 13 [.x 16],false⟩)]
abbrev B4h:List PK:= [.val false (.sl 9 .str) true,.val false (.int .i64) false]
abbrev B4i:List RK:= [.val false (.int .i64)]
def B4j(f:A34):Nat×Fn:=(248,⟨B4h,B4i,fun x=>f x.1 x.2.1⟩)
def C7X:Fn:=(B4j V9).2
theorem C7Y(f_w_markText:D9):∀ x,(B8 cfg [T2 f_w_markText] C7W 20 [.tmp 4] (Tryz.f248.body.getD .skip) B4h B4i).fn x=A7W f_w_markText x.1 x.2.1:=by intro x;kernel_rfl
theorem C7Z:B0 Tryz.prog 248 C7X:=sm MO A7 (tc Tryz.call213 X7 A5) Tryz.func248 (by kernel_rfl) (by decide) (C7Y D3)
abbrev C2f:List PK:= [.val true A0U true,.val false (.int .i64) false]
abbrev C2g:List RK:= [.val false (.int .i64)]
def C2h(f:A7z):Nat×Fn:=(183,⟨C2f,C2g,fun x=>f x.1 x.2.1⟩)
def D73:Fn:=(C2h A4V).2
theorem D74(f_w_markStringS:A34):∀ x,(B8 cfg [B4j f_w_markStringS] (B3 []) 14 [.tmp 4] (Tryz.f183.body.getD .skip) C2f C2g).fn x=B3d f_w_markStringS x.1 x.2.1:=by intro x;kernel_rfl
theorem D75:B0 Tryz.prog 183 D73:=sm MO A7 (tc Tryz.call248 C7Z A5) Tryz.func183 (by kernel_rfl) (by decide) (D74 V9)
def D3D:Nat→Option Jn:=B3 [(26,⟨[.t 0 false [.own 1000],.t 1 false [.int .i64],.t 5 false [.int .i64],.r 1000 5 (.int .u8)],lt 6 13 [.x 16],false⟩)]
abbrev B99:List PK:= [.val false (.sl 5 (.int .u8)) true,.val false (.int .i64) false]
abbrev B9A:List RK:= [.val false (.int .i64)]
def A6d(f:L9):Nat×Fn:=(38,⟨B99,B9A,fun x=>f x.1 x.2.1⟩)
def D3E:Fn:=(A6d I8).2
theorem D3F:∀ x,(B8 cfg [] D3D 20 [.tmp 4] (Tryz.f38.body.getD .skip) B99 B9A).fn x=B1J x.1 x.2.1:=by intro x;kernel_rfl
theorem B1b:B0 Tryz.prog 38 D3E:=sm MO A7 A5 Tryz.func38 (by kernel_rfl) (by decide) (D3F)
def E0p:Nat→Option Jn:=B3 [(26,⟨[.t 0 false [.own 1000],.t 1 false [.int .i64],.t 5 false [.int .i64],.r 1000 109 kUp],lt 6 37 [.x 16,.x 23,.x 29,.x 39],false⟩)]
abbrev C6I:List PK:= [.val false (.sl 109 kUp) true,.val false (.int .i64) false]
abbrev C6J:List RK:= [.val false (.int .i64)]
def C6K(f:B06):Nat×Fn:=(184,⟨C6I,C6J,fun x=>f x.1 x.2.1⟩)
def E0q:Fn:=(C6K B07).2
theorem E0r(f_w_markByteS:L9)(f_w_markText:D9):∀ x,(B8 cfg [A6d f_w_markByteS,T2 f_w_markText] E0p 44 [.tmp 4] (Tryz.f184.body.getD .skip) C6I C6J).fn x=C4v f_w_markByteS f_w_markText x.1 x.2.1:=by intro x;kernel_rfl
theorem E0s:B0 Tryz.prog 184 E0q:=sm MO A7 (tc Tryz.call38 B1b (tc Tryz.call213 X7 A5)) Tryz.func184 (by kernel_rfl) (by decide) (E0r I8 D3)
abbrev B9B:List PK:= [.val true A47 true,.val false (.int .i64) false]
abbrev B9C:List RK:= [.val false (.int .i64)]
def B9D(f:A6I):Nat×Fn:=(102,⟨B9B,B9C,fun x=>f x.1 x.2.1⟩)
def D3G:Fn:=(B9D A2N).2
theorem D3H(f_w_markDisk:A7z)(f_w_markUpS:B06):∀ x,(B8 cfg [C2h f_w_markDisk,C6K f_w_markUpS] (B3 []) 14 [.tmp 4] (Tryz.f102.body.getD .skip) B9B B9C).fn x=B1K f_w_markDisk f_w_markUpS x.1 x.2.1:=by intro x;kernel_rfl
theorem D3I:B0 Tryz.prog 102 D3G:=sm MO A7 (tc Tryz.call183 D75 (tc Tryz.call184 E0s A5)) Tryz.func102 (by kernel_rfl) (by decide) (D3H A4V B07)
def D3J:Nat→Option Jn:=B3 [(26,⟨[.t 0 false [.own 1000],.t 1 false [.int .i64],.t 5 false [.int .i64],.r 1000 130 A9],lt 6 29 [.x 15,.x 22,.x 30],false⟩)]
abbrev B9E:List PK:= [.val false (.sl 130 A9) true,.val false (.int .i64) false]
abbrev B9F:List RK:= [.val false (.int .i64)]
def B1c(f:A0k):Nat×Fn:=(103,⟨B9E,B9F,fun x=>f x.1 x.2.1⟩)
def D3K:Fn:=(B1c A0l).2
theorem D3L:∀ x,(B8 cfg [] D3J 36 [.tmp 4] (Tryz.f103.body.getD .skip) B9E B9F).fn x=B8K x.1 x.2.1:=by intro x;kernel_rfl
theorem B9G:B0 Tryz.prog 103 D3K:=sm MO A7 A5 Tryz.func103 (by kernel_rfl) (by decide) (D3L)
abbrev B6y:List PK:= [.val true A1r true,.val false (.int .i64) false]
abbrev B6z:List RK:= [.val false (.int .i64)]
def B70(f:A4W):Nat×Fn:=(37,⟨B6y,B6z,fun x=>f x.1 x.2.1⟩)
def D1G:Fn:=(B70 A1T).2
theorem D1H(f_w_markStore:A6I)(f_w_markHeldS:A0k):∀ x,(B8 cfg [B9D f_w_markStore,B1c f_w_markHeldS] (B3 []) 14 [.tmp 4] (Tryz.f37.body.getD .skip) B6y B6z).fn x=A9A f_w_markStore f_w_markHeldS x.1 x.2.1:=by intro x;kernel_rfl
theorem D1I:B0 Tryz.prog 37 D1G:=sm MO A7 (tc Tryz.call102 D3I (tc Tryz.call103 B9G A5)) Tryz.func37 (by kernel_rfl) (by decide) (D1H A2N A0l)
def C7a:Nat→Option Jn:=B3 [(26,⟨[.t 0 false [.own 1000],.t 1 false [.int .i64],.t 5 false [.int .i64],.r 1000 79 B2],lt 6 35 [.x 16,.x 22,.x 30,.x 37],false⟩)]
abbrev B4k:List PK:= [.val false (.sl 79 B2) true,.val false (.int .i64) false]
abbrev B4l:List RK:= [.val false (.int .i64)]
def B4m(f:A37):Nat×Fn:=(130,⟨B4k,B4l,fun x=>f x.1 x.2.1⟩)
def C7b:Fn:=(B4m A38).2
theorem C7c(f_w_markByteS:L9)(f_w_markText:D9):∀ x,(B8 cfg [A6d f_w_markByteS,T2 f_w_markText] C7a 42 [.tmp 4] (Tryz.f130.body.getD .skip) B4k B4l).fn x=B4J f_w_markByteS f_w_markText x.1 x.2.1:=by intro x;kernel_rfl
theorem C7d:B0 Tryz.prog 130 C7b:=sm MO A7 (tc Tryz.call38 B1b (tc Tryz.call213 X7 A5)) Tryz.func130 (by kernel_rfl) (by decide) (C7c I8 D3)
def D3M:Nat→Option Jn:=B3 [(26,⟨[.t 0 false [.own 1000],.t 1 false [.int .i64],.t 5 false [.int .i64],.r 1000 4 .bool],lt 6 14 [.x 17],false⟩)]
abbrev B9H:List PK:= [.val false (.sl 4 .bool) true,.val false (.int .i64) false]
abbrev B9I:List RK:= [.val false (.int .i64)]
def B1d(f:Y4):Nat×Fn:=(131,⟨B9H,B9I,fun x=>f x.1 x.2.1⟩)
def D3N:Fn:=(B1d Q5).2
theorem D3O:∀ x,(B8 cfg [] D3M 21 [.tmp 4] (Tryz.f131.body.getD .skip) B9H B9I).fn x=B8L x.1 x.2.1:=by intro x;kernel_rfl
theorem B9J:B0 Tryz.prog 131 D3N:=sm MO A7 A5 Tryz.func131 (by kernel_rfl) (by decide) (D3O)
def D3P:Nat→Option Jn:=B3 [(26,⟨[.t 0 false [.own 1000],.t 1 false [.int .i64],.t 5 false [.int .i64],.r 1000 113 B9],lt 6 45 [.x 15,.x 22,.x 31,.x 39,.x 46],false⟩)]
abbrev B9K:List PK:= [.val false (.sl 113 B9) true,.val false (.int .i64) false]
abbrev B9L:List RK:= [.val false (.int .i64)]
def B9M(f:A6J):Nat×Fn:=(132,⟨B9K,B9L,fun x=>f x.1 x.2.1⟩)
def D3Q:Fn:=(B9M A6K).2
theorem D3R(f_w_markByteS:L9)(f_w_markText:D9):∀ x,(B8 cfg [A6d f_w_markByteS,T2 f_w_markText] D3P 52 [.tmp 4] (Tryz.f132.body.getD .skip) B9K B9L).fn x=B8M f_w_markByteS f_w_markText x.1 x.2.1:=by intro x;kernel_rfl
theorem D3S:B0 Tryz.prog 132 D3Q:=sm MO A7 (tc Tryz.call38 B1b (tc Tryz.call213 X7 A5)) Tryz.func132 (by kernel_rfl) (by decide) (D3R I8 D3)
def D76:Nat→Option Jn:=B3 [(26,⟨[.t 0 false [.own 1000],.t 1 false [.int .i64],.t 5 false [.int .i64],.r 1000 3 (.int .i64)],lt 6 12 [.x 15],false⟩)]
abbrev C2i:List PK:= [.val false (.sl 3 (.int .i64)) true,.val false (.int .i64) false]
abbrev C2j:List RK:= [.val false (.int .i64)]
def C2k(f:A80):Nat×Fn:=(133,⟨C2i,C2j,fun x=>f x.1 x.2.1⟩)
def D77:Fn:=(C2k A81).2
theorem D78:∀ x,(B8 cfg [] D76 19 [.tmp 4] (Tryz.f133.body.getD .skip) C2i C2j).fn x=C1P x.1 x.2.1:=by intro x;kernel_rfl
theorem D79:B0 Tryz.prog 133 D77:=sm MO A7 A5 Tryz.func133 (by kernel_rfl) (by decide) (D78)
abbrev B9N:List PK:= [.val true A29 true,.val false (.int .i64) false]
abbrev B9O:List RK:= [.val false (.int .i64)]
def B9P(f:A6L):Nat×Fn:=(55,⟨B9N,B9O,fun x=>f x.1 x.2.1⟩)
def D3T:Fn:=(B9P A2O).2
theorem D3U(f_w_markServer:A4W)(f_w_markHeldS:A0k)(f_w_markClientS:A37)(f_w_markBoolS:Y4)(f_w_markWantS:A6J)(f_w_markIntS:A80):∀ x,(B8 cfg [B70 f_w_markServer,B1c f_w_markHeldS,B4m f_w_markClientS,B1d f_w_markBoolS,B9M f_w_markWantS,C2k f_w_markIntS] (B3 []) 30 [.tmp 4] (Tryz.f55.body.getD .skip) B9N B9O).fn x=B1L f_w_markServer f_w_markHeldS f_w_markClientS f_w_markBoolS f_w_markWantS f_w_markIntS x.1 x.2.1:=by intro x;kernel_rfl
theorem D3V:B0 Tryz.prog 55 D3T:=sm MO A7 (tc Tryz.call37 D1I (tc Tryz.call103 B9G (tc Tryz.call130 C7d (tc Tryz.call131 B9J (tc Tryz.call132 D3S (tc Tryz.call133 D79 A5)))))) Tryz.func55 (by kernel_rfl) (by decide) (D3U A1T A0l A38 Q5 A6K A81)
def C7e:Nat→Option Jn:=B3 [(26,⟨[.t 1 false [.int .i64],.t 5 false [.int .i64]],lt 6 15 [],false⟩)]
abbrev B4n:List PK:= [.val false (.rs 9 .str) false,.val false (.int .i64) false]
abbrev B4o:List RK:= [.val false (.int .i64)]
def B4p(f:A3A):Nat×Fn:=(249,⟨B4n,B4o,fun x=>f x.1 x.2.1⟩)
def C7f:Fn:=(B4p W4).2
theorem C7g(f_w_markText:D9):∀ x,(B8 cfg [T2 f_w_markText] C7e 22 [.tmp 4] (Tryz.f249.body.getD .skip) B4n B4o).fn x=A7X f_w_markText x.1 x.2.1:=by intro x;kernel_rfl
theorem C7h:B0 Tryz.prog 249 C7f:=sm MO A7 (tc Tryz.call213 X7 A5) Tryz.func249 (by kernel_rfl) (by decide) (C7g D3)
abbrev C2l:List PK:= [.val true (.pair (.rs 9 .str) (.rs 9 .str)) false,.val false (.int .i64) false]
abbrev C2m:List RK:= [.val false (.int .i64)]
def C2n(f:A82):Nat×Fn:=(185,⟨C2l,C2m,fun x=>f x.1 x.2.1⟩)
def D7A:Fn:=(C2n A4Y).2
theorem D7B(f_w_heldStringS:A3A):∀ x,(B8 cfg [B4p f_w_heldStringS] (B3 []) 18 [.tmp 4] (Tryz.f185.body.getD .skip) C2l C2m).fn x=B3e f_w_heldStringS x.1 x.2.1:=by intro x;kernel_rfl
theorem D7C:B0 Tryz.prog 185 D7A:=sm MO A7 (tc Tryz.call249 C7h A5) Tryz.func185 (by kernel_rfl) (by decide) (D7B W4)
def D3W:Nat→Option Jn:=B3 [(26,⟨[.t 1 false [.int .i64],.t 5 false [.int .i64]],lt 6 15 [],false⟩)]
abbrev B9Q:List PK:= [.val false (.rs 5 (.int .u8)) false,.val false (.int .i64) false]
abbrev B9R:List RK:= [.val false (.int .i64)]
def A6e(f:M0):Nat×Fn:=(214,⟨B9Q,B9R,fun x=>f x.1 x.2.1⟩)
def D3X:Fn:=(A6e I9).2
theorem D3Y:∀ x,(B8 cfg [] D3W 22 [.tmp 4] (Tryz.f214.body.getD .skip) B9Q B9R).fn x=B1M x.1 x.2.1:=by intro x;kernel_rfl
theorem B1e:B0 Tryz.prog 214 D3X:=sm MO A7 A5 Tryz.func214 (by kernel_rfl) (by decide) (D3Y)
def E0t:Nat→Option Jn:=B3 [(26,⟨[.t 1 false [.int .i64],.t 5 false [.int .i64]],lt 6 45 [],false⟩)]
abbrev C6L:List PK:= [.val false (.rs 109 kUp) false,.val false (.int .i64) false]
abbrev C6M:List RK:= [.val false (.int .i64)]
def C6N(f:B08):Nat×Fn:=(186,⟨C6L,C6M,fun x=>f x.1 x.2.1⟩)
def E0u:Fn:=(C6N B09).2
theorem E0v(f_w_markText:D9)(f_w_heldByteS:M0):∀ x,(B8 cfg [T2 f_w_markText,A6e f_w_heldByteS] E0t 52 [.tmp 4] (Tryz.f186.body.getD .skip) C6L C6M).fn x=C4w f_w_markText f_w_heldByteS x.1 x.2.1:=by intro x;kernel_rfl
theorem E0w:B0 Tryz.prog 186 E0u:=sm MO A7 (tc Tryz.call213 X7 (tc Tryz.call214 B1e A5)) Tryz.func186 (by kernel_rfl) (by decide) (E0v D3 I9)
abbrev B9S:List PK:= [.val true (.pair (.pair (.rs 9 .str) (.rs 9 .str)) (.pair (.int .i64) (.pair (.int .i64) (.rs 109 kUp)))) false,.val false (.int .i64) false]
abbrev B9T:List RK:= [.val false (.int .i64)]
def B9U(f:A6N):Nat×Fn:=(104,⟨B9S,B9T,fun x=>f x.1 x.2.1⟩)
def D3Z:Fn:=(B9U A2P).2
theorem D3a(f_w_heldDisk:A82)(f_w_heldUpS:B08):∀ x,(B8 cfg [C2n f_w_heldDisk,C6N f_w_heldUpS] (B3 []) 18 [.tmp 4] (Tryz.f104.body.getD .skip) B9S B9T).fn x=B1N f_w_heldDisk f_w_heldUpS x.1 x.2.1:=by intro x;kernel_rfl
theorem D3b:B0 Tryz.prog 104 D3Z:=sm MO A7 (tc Tryz.call185 D7C (tc Tryz.call186 E0w A5)) Tryz.func104 (by kernel_rfl) (by decide) (D3a A4Y B09)
def D3c:Nat→Option Jn:=B3 [(26,⟨[.t 1 false [.int .i64],.t 5 false [.int .i64]],lt 6 35 [],false⟩)]
abbrev B9V:List PK:= [.val false (.rs 130 A9) false,.val false (.int .i64) false]
abbrev B9W:List RK:= [.val false (.int .i64)]
def B1f(f:A0m):Nat×Fn:=(105,⟨B9V,B9W,fun x=>f x.1 x.2.1⟩)
def D3d:Fn:=(B1f A0n).2
theorem D3e:∀ x,(B8 cfg [] D3c 42 [.tmp 4] (Tryz.f105.body.getD .skip) B9V B9W).fn x=B8N x.1 x.2.1:=by intro x;kernel_rfl
theorem B9X:B0 Tryz.prog 105 D3d:=sm MO A7 A5 Tryz.func105 (by kernel_rfl) (by decide) (D3e)
abbrev B71:List PK:= [.val true (.pair (.pair (.pair (.rs 9 .str) (.rs 9 .str)) (.pair (.int .i64) (.pair (.int .i64) (.rs 109 kUp)))) (.rs 130 A9)) false,.val false (.int .i64) false]
abbrev B72:List RK:= [.val false (.int .i64)]
def B73(f:A4Z):Nat×Fn:=(39,⟨B71,B72,fun x=>f x.1 x.2.1⟩)
def D1J:Fn:=(B73 A1U).2
theorem D1K(f_w_heldStore:A6N)(f_w_heldHeldS:A0m):∀ x,(B8 cfg [B9U f_w_heldStore,B1f f_w_heldHeldS] (B3 []) 18 [.tmp 4] (Tryz.f39.body.getD .skip) B71 B72).fn x=A9B f_w_heldStore f_w_heldHeldS x.1 x.2.1:=by intro x;kernel_rfl
theorem D1L:B0 Tryz.prog 39 D1J:=sm MO A7 (tc Tryz.call104 D3b (tc Tryz.call105 B9X A5)) Tryz.func39 (by kernel_rfl) (by decide) (D1K A2P A0n)
def C7i:Nat→Option Jn:=B3 [(26,⟨[.t 1 false [.int .i64],.t 5 false [.int .i64]],lt 6 43 [],false⟩)]
abbrev B4q:List PK:= [.val false (.rs 79 B2) false,.val false (.int .i64) false]
abbrev B4r:List RK:= [.val false (.int .i64)]
def B4s(f:A3D):Nat×Fn:=(134,⟨B4q,B4r,fun x=>f x.1 x.2.1⟩)
def C7j:Fn:=(B4s A3E).2
theorem C7k(f_w_markText:D9)(f_w_heldByteS:M0):∀ x,(B8 cfg [T2 f_w_markText,A6e f_w_heldByteS] C7i 50 [.tmp 4] (Tryz.f134.body.getD .skip) B4q B4r).fn x=B4K f_w_markText f_w_heldByteS x.1 x.2.1:=by intro x;kernel_rfl
theorem C7l:B0 Tryz.prog 134 C7j:=sm MO A7 (tc Tryz.call213 X7 (tc Tryz.call214 B1e A5)) Tryz.func134 (by kernel_rfl) (by decide) (C7k D3 I9)
def D3f:Nat→Option Jn:=B3 [(26,⟨[.t 1 false [.int .i64],.t 5 false [.int .i64]],lt 6 16 [],false⟩)]
abbrev B9Y:List PK:= [.val false (.rs 4 .bool) false,.val false (.int .i64) false]
abbrev B9Z:List RK:= [.val false (.int .i64)]
def B9a(f:A6O):Nat×Fn:=(135,⟨B9Y,B9Z,fun x=>f x.1 x.2.1⟩)
def D3g:Fn:=(B9a A6P).2
theorem D3h:∀ x,(B8 cfg [] D3f 23 [.tmp 4] (Tryz.f135.body.getD .skip) B9Y B9Z).fn x=B8O x.1 x.2.1:=by intro x;kernel_rfl
theorem D3i:B0 Tryz.prog 135 D3g:=sm MO A7 A5 Tryz.func135 (by kernel_rfl) (by decide) (D3h)
def D3j:Nat→Option Jn:=B3 [(26,⟨[.t 1 false [.int .i64],.t 5 false [.int .i64]],lt 6 55 [],false⟩)]
abbrev B9b:List PK:= [.val false (.rs 113 B9) false,.val false (.int .i64) false]
abbrev B9c:List RK:= [.val false (.int .i64)]
def B9d(f:A6Q):Nat×Fn:=(136,⟨B9b,B9c,fun x=>f x.1 x.2.1⟩)
def D3k:Fn:=(B9d A6R).2
theorem D3l(f_w_markText:D9)(f_w_heldByteS:M0):∀ x,(B8 cfg [T2 f_w_markText,A6e f_w_heldByteS] D3j 62 [.tmp 4] (Tryz.f136.body.getD .skip) B9b B9c).fn x=B8P f_w_markText f_w_heldByteS x.1 x.2.1:=by intro x;kernel_rfl
theorem D3m:B0 Tryz.prog 136 D3k:=sm MO A7 (tc Tryz.call213 X7 (tc Tryz.call214 B1e A5)) Tryz.func136 (by kernel_rfl) (by decide) (D3l D3 I9)
def D7D:Nat→Option Jn:=B3 [(26,⟨[.t 1 false [.int .i64],.t 5 false [.int .i64]],lt 6 14 [],false⟩)]
abbrev C2o:List PK:= [.val false (.rs 3 (.int .i64)) false,.val false (.int .i64) false]
abbrev C2p:List RK:= [.val false (.int .i64)]
def C2q(f:A83):Nat×Fn:=(137,⟨C2o,C2p,fun x=>f x.1 x.2.1⟩)
def D7E:Fn:=(C2q A84).2
theorem D7F:∀ x,(B8 cfg [] D7D 21 [.tmp 4] (Tryz.f137.body.getD .skip) C2o C2p).fn x=C1Q x.1 x.2.1:=by intro x;kernel_rfl
theorem D7G:B0 Tryz.prog 137 D7E:=sm MO A7 A5 Tryz.func137 (by kernel_rfl) (by decide) (D7F)
abbrev B9e:List PK:= [.val true (.pair (.pair (.pair (.pair (.rs 9 .str) (.rs 9 .str)) (.pair (.int .i64) (.pair (.int .i64) (.rs 109 kUp)))) (.rs 130 A9)) (.pair (.rs 79 B2) (.pair (.rs 4 .bool) (.pair (.rs 113 B9) (.pair (.rs 130 A9) (.rs 3 (.int .i64))))))) false,.val false (.int .i64) false]
abbrev B9f:List RK:= [.val false (.int .i64)]
def B9g(f:A6S):Nat×Fn:=(56,⟨B9e,B9f,fun x=>f x.1 x.2.1⟩)
def D3n:Fn:=(B9g A2Q).2
theorem D3o(f_w_heldServer:A4Z)(f_w_heldHeldS:A0m)(f_w_heldClientS:A3D)(f_w_heldBoolS:A6O)(f_w_heldWantS:A6Q)(f_w_heldIntS:A83):∀ x,(B8 cfg [B73 f_w_heldServer,B1f f_w_heldHeldS,B4s f_w_heldClientS,B9a f_w_heldBoolS,B9d f_w_heldWantS,C2q f_w_heldIntS] (B3 []) 42 [.tmp 4] (Tryz.f56.body.getD .skip) B9e B9f).fn x=B1O f_w_heldServer f_w_heldHeldS f_w_heldClientS f_w_heldBoolS f_w_heldWantS f_w_heldIntS x.1 x.2.1:=by intro x;kernel_rfl
theorem D3p:B0 Tryz.prog 56 D3n:=sm MO A7 (tc Tryz.call39 D1L (tc Tryz.call105 B9X (tc Tryz.call134 C7l (tc Tryz.call135 D3i (tc Tryz.call136 D3m (tc Tryz.call137 D7G A5)))))) Tryz.func56 (by kernel_rfl) (by decide) (D3o A1U A0n A3E A6P A6R A84)
abbrev C6O:List PK:= [.val true (.pair (.int .i64) (.pair (.int .i64) (.rs 4 .bool))) false,.val false (.int .i64) false]
abbrev C6P:List RK:= [.val false (.int .i64)]
def C6Q(f:A6v):Nat×Fn:=(58,⟨C6O,C6P,fun x=>f x.1 x.2.1⟩)
def E0x:Fn:=(C6Q A1V).2
theorem E0y(f_w_szBoolS:A3i):∀ x,(B8 cfg [B6r f_w_szBoolS] (B3 []) 12 [.tmp 4] (Tryz.f58.body.getD .skip) C6O C6P).fn x=B5v f_w_szBoolS x.1 x.2.1:=by intro x;kernel_rfl
theorem E0z:B0 Tryz.prog 58 E0x:=sm MO A7 (tc Tryz.call117 C5d A5) Tryz.func58 (by kernel_rfl) (by decide) (E0y A1O)
def D7H:Nat→Option Jn:=B3 [(122,⟨[.t 1 false [.int .i64],.t 5 false [.int .i64]],lt 12 14 [],false⟩)]
abbrev C2r:List PK:= [.val false (.rs 93 E9) false,.val false (.int .i64) false]
abbrev C2s:List RK:= [.val false (.int .i64)]
def C2t(f:A85):Nat×Fn:=(62,⟨C2r,C2s,fun x=>f x.1 x.2.1⟩)
def D7I:Fn:=(C2t A4c).2
theorem D7J(f_w_szEvent:A6v):∀ x,(B8 cfg [C6Q f_w_szEvent] D7H 27 [.tmp 4] (Tryz.f62.body.getD .skip) C2r C2s).fn x=B3f f_w_szEvent x.1 x.2.1:=by intro x;kernel_rfl
theorem D7K:B0 Tryz.prog 62 D7I:=sm MO A7 (tc Tryz.call58 E0z A5) Tryz.func62 (by kernel_rfl) (by decide) (D7J A1V)
abbrev E10:List PK:= [.val false (.int .i64) false,.val false (.int .i64) false,.val false (.int .i64) false]
abbrev E11:List RK:= [.val false .bool]
def P9(f:E6):Nat×Fn:=(120,⟨E10,E11,fun x=>f x.1 x.2.1 x.2.2.1⟩)
def E9U:Fn:=(P9 E4).2
theorem E9V:∀ x,(B8 cfg [] (B3 []) 15 [.tmp 6] (Tryz.f120.body.getD .skip) E10 E11).fn x=C8x x.1 x.2.1 x.2.2.1:=by intro x;kernel_rfl
theorem R4:B0 Tryz.prog 120 E9U:=sm MO A7 A5 Tryz.func120 (by kernel_rfl) (by decide) (E9V)
abbrev D1M:List PK:= [.val true F0 false]
abbrev D1N:List RK:= [.val false .bool]
def C0w(f:A1W):Nat×Fn:=(158,⟨D1M,D1N,fun x=>f x.1⟩)
def E48:Fn:=(C0w U5).2
theorem E49(f_s_l1In:E6):∀ x,(B8 cfg [P9 f_s_l1In] (B3 []) 11 [.tmp 2] (Tryz.f158.body.getD .skip) D1M D1N).fn x=C0W f_s_l1In x.1:=by intro x;kernel_rfl
theorem D1O:B0 Tryz.prog 158 E48:=sm MO A7 (tc Tryz.call120 R4 A5) Tryz.func158 (by kernel_rfl) (by decide) (E49 E4)
def E4A:Nat→Option Jn:=B3 [(3,⟨[],lt 4 13 [],false⟩),(58,⟨[.t 3 false [.int .i64]],lt 17 23 [],false⟩)]
abbrev D1P:List PK:= [.val true (.pair (.rs 9 .str) (.rs 9 .str)) false]
abbrev D1Q:List RK:= [.val false .bool]
def B4D(f:A1X):Nat×Fn:=(231,⟨D1P,D1Q,fun x=>f x.1⟩)
def E4B:Fn:=(B4D S2).2
theorem E4C:∀ x,(B8 cfg [] E4A 40 [.tmp 2] (Tryz.f231.body.getD .skip) D1P D1Q).fn x=B3g x.1:=by intro x;kernel_rfl
theorem C0x:B0 Tryz.prog 231 E4B:=sm MO A7 A5 Tryz.func231 (by kernel_rfl) (by decide) (E4C)
def E4D:Nat→Option Jn:=B3 [(3,⟨[],lt 10 15 [],false⟩),(15,⟨[.t 8 false [.int .i64]],lt 25 15 [.t 9],true⟩),(122,⟨[.t 8 false [.int .i64],.t 9 false [.int .i64]],lt 25 15 [],false⟩)]
abbrev D1R:List PK:= [.val false (.rs 5 (.int .u8)) false,.val false (.int .i64) false,.val false (.int .i64) false]
abbrev D1S:List RK:= [.val false (.int .i64),.val false .bool]
def D1T(f:B3h):Nat×Fn:=(282,⟨D1R,D1S,fun x=>f x.1 x.2.1 x.2.2.1⟩)
def E4E:Fn:=(D1T A5g).2
theorem E4F(f_s_l1In:E6):∀ x,(B8 cfg [P9 f_s_l1In] E4D 41 [.tmp 6,.tmp 7] (Tryz.f282.body.getD .skip) D1R D1S).fn x=C0X f_s_l1In x.1 x.2.1 x.2.2.1:=by intro x;kernel_rfl
theorem E4G:B0 Tryz.prog 282 E4E:=sm MO A7 (tc Tryz.call120 R4 A5) Tryz.func282 (by kernel_rfl) (by decide) (E4F E4)
def E7B:Nat→Option Jn:=B3 [(3,⟨[],lt 3 21 [],false⟩),(26,⟨[.t 3 false [.int .i64]],lt 4 20 [],false⟩)]
abbrev D5E:List PK:= [.val false .str false]
abbrev D5F:List RK:= [.val false .bool]
def A3r(f:O3):Nat×Fn:=(160,⟨D5E,D5F,fun x=>f x.1⟩)
def E7C:Fn:=(A3r N1).2
theorem E7D(f_s_l1In:E6):∀ x,(B8 cfg [P9 f_s_l1In] E7B 27 [.tmp 2] (Tryz.f160.body.getD .skip) D5E D5F).fn x=C3k f_s_l1In x.1:=by intro x;kernel_rfl
theorem A5u:B0 Tryz.prog 160 E7C:=sm MO A7 (tc Tryz.call120 R4 A5) Tryz.func160 (by kernel_rfl) (by decide) (E7D E4)
def E7E:Nat→Option Jn:=B3 [(3,⟨[],lt 3 16 [],false⟩),(943,⟨[.t 43 false [.bool]],[.t 44,.t 45],true⟩)]
abbrev D5G:List PK:= [.val true (.pair (.int .i64) (.pair (.int .i64) (.pair (.int .i64) (.pair .str (.pair (.int .i64) (.rs 5 (.int .u8))))))) false]
abbrev D5H:List RK:= [.val false .bool]
def D5I(f:B7n):Nat×Fn:=(283,⟨D5G,D5H,fun x=>f x.1⟩)
def E7F:Fn:=(D5I B20).2
theorem E7G(f_s_l1In:E6)(f_s_l11Id:O3):∀ x,(B8 cfg [P9 f_s_l1In,A3r f_s_l11Id] E7E 55 [.tmp 2] (Tryz.f283.body.getD .skip) D5G D5H).fn x=C3l f_s_l1In f_s_l11Id x.1:=by intro x;kernel_rfl
theorem E7H:B0 Tryz.prog 283 E7F:=sm MO A7 (tc Tryz.call120 R4 (tc Tryz.call160 A5u A5)) Tryz.func283 (by kernel_rfl) (by decide) (E7G E4 N1)
def F0i:Nat→Option Jn:=B3 [(7,⟨[.t 3 false [.int .i64]],lt 4 28 [],true⟩),(58,⟨[.t 3 false [.int .i64],.t 4 false [.int .i64]],lt 5 27 [],false⟩),(7462,⟨[.t 3 false [.int .i64],.t 5 false [.int .i64]],lt 20 12 [.t 6],false⟩)]
abbrev E5U:List PK:= [.val false (.rs 5 (.int .u8)) false]
abbrev E5V:List RK:= [.val false (.int .i64)]
def C8C(f:B0B):Nat×Fn:=(152,⟨E5U,E5V,fun x=>f x.1⟩)
def F0j:Fn:=(C8C A86).2
theorem F0k:∀ x,(B8 cfg [] F0i 34 [.tmp 2] (Tryz.f152.body.getD .skip) E5U E5V).fn x=D5k x.1:=by intro x;kernel_rfl
theorem D7L:B0 Tryz.prog 152 F0j:=sm MO A7 A5 Tryz.func152 (by kernel_rfl) (by decide) (F0k)
def E4H:Nat→Option Jn:=B3 [(7,⟨[.t 1 false [.int .i64]],[.t 12,.t 13],true⟩),(250,⟨[.t 7 false [.own 100001000],.t 8 false [.int .i64],.r 100001000 5 (.int .u8)],lt 20 13 [.r 11,.r 31,.r 32],false⟩)]
abbrev D1U:List PK:= [.val false (.rs 5 (.int .u8)) false,.val false (.int .i64) false,.val false (.int .i64) false]
abbrev D1V:List RK:= [.val false (.sl 5 (.int .u8))]
def D1W(f:B3i):Nat×Fn:=(306,⟨D1U,D1V,fun x=>f x.1 x.2.1 x.2.2.1⟩)
def E4I:Fn:=(D1W A9C).2
theorem E4J(f_s_l1In:E6):∀ x,(B8 cfg [P9 f_s_l1In] E4H 34 [.tmp 6] (Tryz.f306.body.getD .skip) D1U D1V).fn x=C0Y f_s_l1In x.1 x.2.1 x.2.2.1:=by intro x;kernel_rfl
theorem E4K:B0 Tryz.prog 306 E4I:=sm MO A7 (tc Tryz.call120 R4 A5) Tryz.func306 (by kernel_rfl) (by decide) (E4J E4)
abbrev D1X:List PK:= [.val true (.pair (.int .i64) (.pair (.int .i64) (.pair (.int .i64) (.pair .str (.pair (.int .i64) (.rs 5 (.int .u8))))))) false]
abbrev D1Y:List RK:= [.val false .str]
def C0y(f:A5h):Nat×Fn:=(284,⟨D1X,D1Y,fun x=>f x.1⟩)
def E4L:Fn:=(C0y A3R).2
theorem E4M(f_s_Crc:B0B)(f_s_PutBig:B3i):∀ x,(B8 cfg [C8C f_s_Crc,D1W f_s_PutBig] (B3 []) 38 [.tmp 2] (Tryz.f284.body.getD .skip) D1X D1Y).fn x=C0Z f_s_Crc f_s_PutBig x.1:=by intro x;kernel_rfl
theorem D1Z:B0 Tryz.prog 284 E4L:=sm MO A7 (tc Tryz.call152 D7L (tc Tryz.call306 E4K A5)) Tryz.func284 (by kernel_rfl) (by decide) (E4M A86 A9C)
def E4N:Nat→Option Jn:=B3 [(255,⟨[],lt 42 21 [],false⟩),(4095,⟨[],lt 87 15 [],false⟩)]
abbrev D1a:List PK:= [.val false .str false]
abbrev D1b:List RK:= [.val true A7q,.val false .bool]
def B4E(f:U6):Nat×Fn:=(235,⟨D1a,D1b,fun x=>f x.1⟩)
def E4O:Fn:=(B4E K7).2
theorem E4P(f_s_GetBig:B3h)(f_s_RecOk:B7n)(f_s_l13Put:A5h):∀ x,(B8 cfg [D1T f_s_GetBig,D5I f_s_RecOk,C0y f_s_l13Put] E4N 127 [.cell 2 194,.tmp 3] (Tryz.f235.body.getD .skip) D1a D1b).fn x=C0a f_s_GetBig f_s_RecOk f_s_l13Put x.1:=by intro x;kernel_rfl
theorem C0z:B0 Tryz.prog 235 E4O:=sm MO A7 (tc Tryz.call282 E4G (tc Tryz.call283 E7H (tc Tryz.call284 D1Z A5))) Tryz.func235 (by kernel_rfl) (by decide) (E4P A5g B20 A3R)
def D7M:Nat→Option Jn:=B3 [(122,⟨[.t 3 false [.own 100000000],.t 4 false [.int .i64],.t 5 false [.int .i64],.r 100000000 194 A7q],lt 40 6 (lt 9 30 [.b 6,.r 8,.r 42,.r 43,.r 94213,.t 6,.t 7]),false⟩)]
abbrev C2u:List PK:= [.val true (.pair (.rs 9 .str) (.rs 9 .str)) false]
abbrev C2v:List RK:= [.val false (.sl 194 A7q)]
def B4F(f:A22):Nat×Fn:=(232,⟨C2u,C2v,fun x=>f x.1⟩)
def D7N:Fn:=(B4F X0).2
theorem D7O(f_s_GetRec:U6):∀ x,(B8 cfg [B4E f_s_GetRec] D7M 47 [.tmp 2] (Tryz.f232.body.getD .skip) C2u C2v).fn x=C1R f_s_GetRec x.1:=by intro x;kernel_rfl
theorem C2w:B0 Tryz.prog 232 D7N:=sm MO A7 (tc Tryz.call235 C0z A5) Tryz.func232 (by kernel_rfl) (by decide) (D7O K7)
def E7I:Nat→Option Jn:=B3 [(26,⟨[.t 5 false [.int .i64]],lt 6 13 [],false⟩)]
abbrev D5J:List PK:= [.val false (.rs 109 kUp) false,.val false .str false]
abbrev D5K:List RK:= [.val false (.int .i64)]
def A5v(f:R5):Nat×Fn:=(206,⟨D5J,D5K,fun x=>f x.1 x.2.1⟩)
def E7J:Fn:=(A5v O4).2
theorem E7K:∀ x,(B8 cfg [] E7I 20 [.tmp 4] (Tryz.f206.body.getD .skip) D5J D5K).fn x=C3m x.1 x.2.1:=by intro x;kernel_rfl
theorem A8R:B0 Tryz.prog 206 E7J:=sm MO A7 A5 Tryz.func206 (by kernel_rfl) (by decide) (E7K)
def D1c:Nat→Option Jn:=B3 [(58,⟨[.t 3 false [.own 100000000],.t 4 false [.int .i64],.r 100000000 109 kUp],lt 7 19 [.b 5,.r 6,.r 17,.r 20,.r 24,.r 25,.t 5],false⟩)]
abbrev B74:List PK:= [.val false (.rs 109 kUp) false]
abbrev B75:List RK:= [.val false (.sl 109 kUp)]
def A9Z(f:M1):Nat×Fn:=(230,⟨B74,B75,fun x=>f x.1⟩)
def D1d:Fn:=(A9Z K8).2
theorem D1e:∀ x,(B8 cfg [] D1c 27 [.tmp 2] (Tryz.f230.body.getD .skip) B74 B75).fn x=A4e x.1:=by intro x;kernel_rfl
theorem B76:B0 Tryz.prog 230 D1d:=sm MO A7 A5 Tryz.func230 (by kernel_rfl) (by decide) (D1e)
def A9a:Nat→Option Jn:=B3 [(58,⟨[.t 3 false [.own 100000000],.t 4 false [.int .i64],.r 100000000 109 (.pair .str (.pair (.int .i64) (.pair (.rs 5 (.int .u8)) .bool)))],lt 7 19 [.b 5,.r 6,.r 17,.r 20,.r 24,.r 25,.t 5],false⟩)]
abbrev A1k:List PK:= [.val false (.rs 109 kUp) false]
abbrev A1l:List RK:= [.val false (.sl 109 (.pair .str (.pair (.int .i64) (.pair (.rs 5 (.int .u8)) .bool))))]
def V2(f:M1):Nat×Fn:=(230,⟨A1k,A1l,fun x=>f x.1⟩)
def A9b:Fn:=(V2 K8).2
theorem A9c:∀ x,(B8 C43 [] A9a 27 [.tmp 2] (Tryz.f230.body.getD .skip) A1k A1l).fn x=A4e x.1:=by intro x;kernel_rfl
theorem A1m:B0 Tryz.prog 230 A9b:=sm MO A3J A5 Tryz.func230 (by kernel_rfl) (by decide) (A9c)
def B2Q:Nat→Option Jn:=B3 [(15,⟨[.t 5 false [.own 11],.t 6 false [.int .i64],.r 11 109 (.pair .str (.pair (.int .i64) (.pair (.rs 5 (.int .u8)) .bool)))],lt 15 23 [.x 21,.x 33,.x 35],true⟩),(60,⟨[.t 5 false [.own 11],.t 6 false [.int .i64],.r 11 109 (.pair .str (.pair (.int .i64) (.pair (.rs 5 (.int .u8)) .bool)))],lt 15 23 [.x 21,.x 33,.x 35],false⟩),(120,⟨[],lt 15 13 [.x 21],false⟩)]
abbrev A3s:List PK:= [.val false (.rs 109 kUp) false,.val true (.pair .str (.pair (.int .i64) (.pair (.rs 5 (.int .u8)) .bool))) false]
abbrev A3t:List RK:= [.val false (.sl 109 (.pair .str (.pair (.int .i64) (.pair (.rs 5 (.int .u8)) .bool))))]
def A3u(f:R6):Nat×Fn:=(305,⟨A3s,A3t,fun x=>f x.1 x.2.1⟩)
def B2R:Fn:=(A3u N2).2
theorem B2S(f_s_l14CopyUps:M1):∀ x,(B8 C43 [V2 f_s_l14CopyUps] B2Q 43 [.tmp 4] (Tryz.f305.body.getD .skip) A3s A3t).fn x=Z6 f_s_l14CopyUps x.1 x.2.1:=by intro x;kernel_rfl
theorem B2T:B0 Tryz.prog 305 B2R:=sm MO A3J (tc Tryz.call230 A1m A5) Tryz.func305 (by kernel_rfl) (by decide) (B2S K8)
def C4S:Nat→Option Jn:=B3 [(4074,⟨[],lt 43 27 [],false⟩)]
abbrev B2U:List PK:= [.val false (.rs 109 kUp) false,.val true (.pair (.int .i64) (.pair (.int .i64) (.pair (.int .i64) (.pair .str (.pair (.int .i64) (.rs 5 (.int .u8))))))) false]
abbrev B2V:List RK:= [.val false (.rs 109 (.pair .str (.pair (.int .i64) (.pair (.rs 5 (.int .u8)) .bool)))),.val false .bool]
def A5w(f:Q0):Nat×Fn:=(281,⟨B2U,B2V,fun x=>f x.1 x.2.1⟩)
def C4T:Fn:=(A5w N3).2
theorem C4U(f_s_l14At:R5)(f_s_l14CopyUps:M1)(f_s_l14Make_r98_0_r99_0:R6):∀ x,(B8 cfg [A5v f_s_l14At,A9Z f_s_l14CopyUps,A3u f_s_l14Make_r98_0_r99_0] C4S 114 [.tmp 4,.tmp 5] (Tryz.f281.body.getD .skip) B2U B2V).fn x=A5i f_s_l14At f_s_l14CopyUps f_s_l14Make_r98_0_r99_0 x.1 x.2.1:=by intro x;kernel_rfl
theorem B2W:B0 Tryz.prog 281 C4T:=sm MO A7 (tc Tryz.call206 A8R (tc Tryz.call230 B76 (tc Tryz.call305 B2T A5))) Tryz.func281 (by kernel_rfl) (by decide) (C4U O4 K8 N2)
def D1f:Nat→Option Jn:=B3 [(58,⟨[.t 5 false [.int .i64]],lt 11 58 [],false⟩)]
abbrev B77:List PK:= [.val false (.rs 109 kUp) false,.val false (.rs 109 kUp) false]
abbrev B78:List RK:= [.val false .bool]
def B79(f:A4f):Nat×Fn:=(234,⟨B77,B78,fun x=>f x.1 x.2.1⟩)
def D1g:Fn:=(B79 A1Y).2
theorem D1h:∀ x,(B8 cfg [] D1f 69 [.tmp 4] (Tryz.f234.body.getD .skip) B77 B78).fn x=A9D x.1 x.2.1:=by intro x;kernel_rfl
theorem D1i:B0 Tryz.prog 234 D1g:=sm MO A7 A5 Tryz.func234 (by kernel_rfl) (by decide) (D1h)
def C10:Nat→Option Jn:=B3 [(7,⟨[.t 4 false [.ro 109 (.pair .str (.pair (.int .i64) (.pair (.rs 5 (.int .u8)) .bool)))]],lt 5 21 [.r 8,.t 27],false⟩),(58,⟨[.t 4 false [.ro 109 (.pair .str (.pair (.int .i64) (.pair (.rs 5 (.int .u8)) .bool)))],.t 5 false [.int .i64]],lt 6 20 [.r 8,.t 27],false⟩)]
abbrev A9d:List PK:= [.val false (.rs 194 A7q) false]
abbrev A9e:List RK:= [.val false (.rs 109 kUp),.val false .bool]
def A3Y(f:Q1):Nat×Fn:=(233,⟨A9d,A9e,fun x=>f x.1⟩)
def C11:Fn:=(A3Y M7).2
theorem C12(f_s_l14One_r99_0:Q0):∀ x,(B8 cfg [A5w f_s_l14One_r99_0] C10 29 [.tmp 2,.tmp 3] (Tryz.f233.body.getD .skip) A9d A9e).fn x=A3S f_s_l14One_r99_0 x.1:=by intro x;kernel_rfl
theorem A9f:B0 Tryz.prog 233 C11:=sm MO A7 (tc Tryz.call281 B2W A5) Tryz.func233 (by kernel_rfl) (by decide) (C12 N3)
def E12:Nat→Option Jn:=B3 [(3,⟨[],lt 9 10 [],false⟩),(31,⟨[],lt 27 33 [],false⟩),(506,⟨[.t 6 false [.int .i64]],lt 62 26 [.b 7,.r 319493,.t 7,.t 8],false⟩)]
abbrev C6R:List PK:= [.val true (.pair (.pair (.rs 9 .str) (.rs 9 .str)) (.pair (.int .i64) (.pair (.int .i64) (.rs 109 kUp)))) false]
abbrev C6S:List RK:= [.val false .bool]
def A3v(f:O8):Nat×Fn:=(159,⟨C6R,C6S,fun x=>f x.1⟩)
def E13:Fn:=(A3v G2).2
theorem E14(f_s_l1In:E6)(f_s_DiskOk:A1X)(f_s_ScanRecs:A22)(f_s_FoldRecs_r99_0:Q1)(f_s_l14SameUps:A4f)(f_s_GetRec:U6):∀ x,(B8 cfg [P9 f_s_l1In,B4D f_s_DiskOk,B4F f_s_ScanRecs,A3Y f_s_FoldRecs_r99_0,B79 f_s_l14SameUps,B4E f_s_GetRec] E12 88 [.tmp 2] (Tryz.f159.body.getD .skip) C6R C6S).fn x=B0D f_s_l1In f_s_DiskOk f_s_ScanRecs f_s_FoldRecs_r99_0 f_s_l14SameUps f_s_GetRec x.1:=by intro x;kernel_rfl
theorem A7F:B0 Tryz.prog 159 E13:=sm MO A7 (tc Tryz.call120 R4 (tc Tryz.call231 C0x (tc Tryz.call232 C2w (tc Tryz.call233 A9f (tc Tryz.call234 D1i (tc Tryz.call235 C0z A5)))))) Tryz.func159 (by kernel_rfl) (by decide) (E14 E4 S2 X0 M7 A1Y K7)
def D7P:Nat→Option Jn:=B3 [(3,⟨[],lt 3 16 [],false⟩),(26,⟨[.t 3 false [.int .i64]],lt 4 15 [],false⟩)]
abbrev C2x:List PK:= [.val true (.pair (.pair (.pair (.rs 9 .str) (.rs 9 .str)) (.pair (.int .i64) (.pair (.int .i64) (.rs 109 kUp)))) (.rs 130 A9)) false]
abbrev C2y:List RK:= [.val false .bool]
def C2z(f:A87):Nat×Fn:=(90,⟨C2x,C2y,fun x=>f x.1⟩)
def D7Q:Fn:=(C2z A4g).2
theorem D7R(f_s_RespOk:A1W)(f_s_StoreOk:O8):∀ x,(B8 cfg [C0w f_s_RespOk,A3v f_s_StoreOk] D7P 28 [.tmp 2] (Tryz.f90.body.getD .skip) C2x C2y).fn x=B3j f_s_RespOk f_s_StoreOk x.1:=by intro x;kernel_rfl
theorem D7S:B0 Tryz.prog 90 D7Q:=sm MO A7 (tc Tryz.call158 D1O (tc Tryz.call159 A7F A5)) Tryz.func90 (by kernel_rfl) (by decide) (D7R U5 G2)
end
end Go.Proofs.YtpdcljonclhhpaaGreat.Ev
