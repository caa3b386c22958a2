/- Each function of the program does what its plain function says. -/
import Derived.Test.YtpdcljonclhhpaaGreatG3
set_option linter.unusedVariables false
set_option maxRecDepth 100000
namespace Go.Proofs.YtpdcljonclhhpaaGreat.Ev
noncomputable section
abbrev D0C:List PK:= [.val true (.pair (.int .i64) (.pair M7 (.rs 5 (.int .u8)))) false]
abbrev D0D:List RK:= [.val true B8]
def D0E(f:A88):Nat×Fn:=(210,⟨D0C,D0D,fun x=>f x.1⟩)
def E27:Fn:=(D0E A89).2
theorem E28(f_w_toReq:B6d)(f_w_toByteS:Z4):∀ x,(B9 cfg [D3i f_w_toReq,A9t f_w_toByteS] (B3 []) 16 [.cell 2 113] (Tryz.f210.body.getD .skip) D0C D0D).fn x=B9O f_w_toReq f_w_toByteS x.1:=by intro x;kernel_rfl
theorem E29:B1 Tryz.prog 210 E27:=sm MO A7 (tc Tryz.call33 E54 (tc Tryz.call34 B67 A5)) Tryz.func210 (by kernel_rfl) (by decide) (E28 B12 S8)
def D8t:Nat→Option Jn:=B3 [(58,⟨[.t 3 false [.own 7],.t 4 false [.int .i64],.r 7 113 B8],lt 8 14 [.r 86020,.x 21],false⟩)]
abbrev C51:List PK:= [.val false (.rs 221 B8) false]
abbrev C52:List RK:= [.val false (.sl 113 B8)]
def C53(f:A9H):Nat×Fn:=(124,⟨C51,C52,fun x=>f x.1⟩)
def D8u:Fn:=(C53 A6H).2
theorem D8v(f_w_toWant:A88):∀ x,(B9 cfg [D0E f_w_toWant] D8t 23 [.tmp 2] (Tryz.f124.body.getD .skip) C51 C52).fn x=B50 f_w_toWant x.1:=by intro x;kernel_rfl
theorem D8w:B1 Tryz.prog 124 D8u:=sm MO A7 (tc Tryz.call210 E29 A5) Tryz.func124 (by kernel_rfl) (by decide) (D8v A89)
def E2A:Nat→Option Jn:=B3 [(58,⟨[.t 3 false [.own 7],.t 4 false [.int .i64],.r 7 3 (.int .i64)],lt 8 13 [.x 20],false⟩)]
abbrev D0F:List PK:= [.val false (.rs 3 (.int .i64)) false]
abbrev D0G:List RK:= [.val false (.sl 3 (.int .i64))]
def D0H(f:B2h):Nat×Fn:=(125,⟨D0F,D0G,fun x=>f x.1⟩)
def E2B:Fn:=(D0H A8A).2
theorem E2C:∀ x,(B9 cfg [] E2A 22 [.tmp 2] (Tryz.f125.body.getD .skip) D0F D0G).fn x=B9P x.1:=by intro x;kernel_rfl
theorem E2D:B1 Tryz.prog 125 E2B:=sm MO A7 A5 Tryz.func125 (by kernel_rfl) (by decide) (E2C)
abbrev C54:List PK:= [.val true (.pair (.pair (.pair (.pair (.rs 9 .str) (.rs 9 .str)) (.pair (.int .i64) (.pair (.int .i64) (.rs 248 kUp)))) (.rs 203 A9)) (.pair (.rs 218 B2) (.pair (.rs 4 .bool) (.pair (.rs 221 B8) (.pair (.rs 203 A9) (.rs 3 (.int .i64))))))) false]
abbrev C55:List RK:= [.val true A0b]
def C56(f:A9I):Nat×Fn:=(53,⟨C54,C55,fun x=>f x.1⟩)
def D8x:Fn:=(C56 A6I).2
theorem D8y(f_w_toServer:A7A)(f_w_toHeldS:A3N)(f_w_toClientS:A5a)(f_w_toBoolS:A9G)(f_w_toWantS:A9H)(f_w_toIntS:B2h):∀ x,(B9 cfg [C1c f_w_toServer,B68 f_w_toHeldS,B88 f_w_toClientS,C50 f_w_toBoolS,C53 f_w_toWantS,D0H f_w_toIntS] (B3 []) 29 [.cell 2 38] (Tryz.f53.body.getD .skip) C54 C55).fn x=B51 f_w_toServer f_w_toHeldS f_w_toClientS f_w_toBoolS f_w_toWantS f_w_toIntS x.1:=by intro x;kernel_rfl
theorem D8z:B1 Tryz.prog 53 D8x:=sm MO A7 (tc Tryz.call32 D5W (tc Tryz.call99 C4x (tc Tryz.call122 D1p (tc Tryz.call123 D8s (tc Tryz.call124 D8w (tc Tryz.call125 E2D A5)))))) Tryz.func53 (by kernel_rfl) (by decide) (D8y A47 A1L A28 A6G A6H A8A)
def D1q:Nat→Option Jn:=B3 [(58,⟨[.t 5 false [.int .i64]],lt 11 15 [],false⟩)]
abbrev B89:List PK:= [.val false (.rs 9 .str) false,.val false (.rs 9 .str) false]
abbrev B8A:List RK:= [.val false .bool]
def B8B(f:A5b):Nat×Fn:=(245,⟨B89,B8A,fun x=>f x.1 x.2.1⟩)
def D1r:Fn:=(B8B A29).2
theorem D1s:∀ x,(B9 cfg [] D1q 26 [.tmp 4] (Tryz.f245.body.getD .skip) B89 B8A).fn x=B0J x.1 x.2.1:=by intro x;kernel_rfl
theorem D1t:B1 Tryz.prog 245 D1r:=sm MO A7 A5 Tryz.func245 (by kernel_rfl) (by decide) (D1s)
abbrev D0I:List PK:= [.val true (.pair (.rs 9 .str) (.rs 9 .str)) false,.val true (.pair (.rs 9 .str) (.rs 9 .str)) false]
abbrev D0J:List RK:= [.val false .bool]
def D0K(f:B2i):Nat×Fn:=(180,⟨D0I,D0J,fun x=>f x.1 x.2.1⟩)
def E2E:Fn:=(D0K A8B).2
theorem E2F(f_w_eqStringS:A5b):∀ x,(B9 cfg [B8B f_w_eqStringS] (B3 []) 17 [.tmp 4] (Tryz.f180.body.getD .skip) D0I D0J).fn x=B9Q f_w_eqStringS x.1 x.2.1:=by intro x;kernel_rfl
theorem E2G:B1 Tryz.prog 180 E2E:=sm MO A7 (tc Tryz.call245 D1t A5) Tryz.func180 (by kernel_rfl) (by decide) (E2F A29)
def D90:Nat→Option Jn:=B3 [(58,⟨[.t 5 false [.int .i64]],lt 11 15 [],false⟩)]
abbrev C57:List PK:= [.val false (.rs 5 (.int .u8)) false,.val false (.rs 5 (.int .u8)) false]
abbrev C58:List RK:= [.val false .bool]
def A9u(f:Z5):Nat×Fn:=(36,⟨C57,C58,fun x=>f x.1 x.2.1⟩)
def D91:Fn:=(A9u S9).2
theorem D92:∀ x,(B9 cfg [] D90 26 [.tmp 4] (Tryz.f36.body.getD .skip) C57 C58).fn x=B52 x.1 x.2.1:=by intro x;kernel_rfl
theorem B69:B1 Tryz.prog 36 D91:=sm MO A7 A5 Tryz.func36 (by kernel_rfl) (by decide) (D92)
abbrev D93:List PK:= [.val true (.pair .str (.pair (.int .i64) (.pair (.rs 5 (.int .u8)) .bool))) false,.val true (.pair .str (.pair (.int .i64) (.pair (.rs 5 (.int .u8)) .bool))) false]
abbrev D94:List RK:= [.val false .bool]
def D95(f:B53):Nat×Fn:=(246,⟨D93,D94,fun x=>f x.1 x.2.1⟩)
def E7H:Fn:=(D95 B54).2
theorem E7I(f_w_eqByteS:Z5):∀ x,(B9 cfg [A9u f_w_eqByteS] (B3 []) 26 [.tmp 4] (Tryz.f246.body.getD .skip) D93 D94).fn x=C7V f_w_eqByteS x.1 x.2.1:=by intro x;kernel_rfl
theorem E7J:B1 Tryz.prog 246 E7H:=sm MO A7 (tc Tryz.call36 B69 A5) Tryz.func246 (by kernel_rfl) (by decide) (E7I S9)
def E55:Nat→Option Jn:=B3 [(58,⟨[.t 5 false [.int .i64]],lt 11 16 [],false⟩)]
abbrev D3j:List PK:= [.val false (.rs 109 kUp) false,.val false (.rs 109 kUp) false]
abbrev D3k:List RK:= [.val false .bool]
def D3l(f:B6e):Nat×Fn:=(181,⟨D3j,D3k,fun x=>f x.1 x.2.1⟩)
def E56:Fn:=(D3l B13).2
theorem E57(f_w_eqUp:B53):∀ x,(B9 cfg [D95 f_w_eqUp] E55 27 [.tmp 4] (Tryz.f181.body.getD .skip) D3j D3k).fn x=C2O f_w_eqUp x.1 x.2.1:=by intro x;kernel_rfl
theorem E58:B1 Tryz.prog 181 E56:=sm MO A7 (tc Tryz.call246 E7J A5) Tryz.func181 (by kernel_rfl) (by decide) (E57 B54)
abbrev C59:List PK:= [.val true (.pair (.pair (.rs 9 .str) (.rs 9 .str)) (.pair (.int .i64) (.pair (.int .i64) (.rs 109 kUp)))) false,.val true (.pair (.pair (.rs 9 .str) (.rs 9 .str)) (.pair (.int .i64) (.pair (.int .i64) (.rs 109 kUp)))) false]
abbrev C5A:List RK:= [.val false .bool]
def C5B(f:A9J):Nat×Fn:=(100,⟨C59,C5A,fun x=>f x.1 x.2.1⟩)
def D96:Fn:=(C5B A6J).2
theorem D97(f_w_eqDisk:B2i)(f_w_eqUpS:B6e):∀ x,(B9 cfg [D0K f_w_eqDisk,D3l f_w_eqUpS] (B3 []) 27 [.tmp 4] (Tryz.f100.body.getD .skip) C59 C5A).fn x=B56 f_w_eqDisk f_w_eqUpS x.1 x.2.1:=by intro x;kernel_rfl
theorem D98:B1 Tryz.prog 100 D96:=sm MO A7 (tc Tryz.call180 E2G (tc Tryz.call181 E58 A5)) Tryz.func100 (by kernel_rfl) (by decide) (D97 A8B B13)
abbrev D0L:List PK:= [.val true E8 false,.val true E8 false]
abbrev D0M:List RK:= [.val false .bool]
def D0N(f:B2j):Nat×Fn:=(247,⟨D0L,D0M,fun x=>f x.1 x.2.1⟩)
def E2H:Fn:=(D0N A8C).2
theorem E2I:∀ x,(B9 cfg [] (B3 []) 15 [.tmp 4] (Tryz.f247.body.getD .skip) D0L D0M).fn x=B9R x.1 x.2.1:=by intro x;kernel_rfl
theorem E2J:B1 Tryz.prog 247 E2H:=sm MO A7 A5 Tryz.func247 (by kernel_rfl) (by decide) (E2I)
abbrev D0O:List PK:= [.val true A9 false,.val true A9 false]
abbrev D0P:List RK:= [.val false .bool]
def D0Q(f:A8D):Nat×Fn:=(182,⟨D0O,D0P,fun x=>f x.1 x.2.1⟩)
def E2K:Fn:=(D0Q A8E).2
theorem E2L(f_w_eqResp:B2j):∀ x,(B9 cfg [D0N f_w_eqResp] (B3 []) 16 [.tmp 4] (Tryz.f182.body.getD .skip) D0O D0P).fn x=B9S f_w_eqResp x.1 x.2.1:=by intro x;kernel_rfl
theorem E2M:B1 Tryz.prog 182 E2K:=sm MO A7 (tc Tryz.call247 E2J A5) Tryz.func182 (by kernel_rfl) (by decide) (E2L A8C)
def D99:Nat→Option Jn:=B3 [(58,⟨[.t 5 false [.int .i64]],lt 11 16 [],false⟩)]
abbrev C5C:List PK:= [.val false (.rs 130 A9) false,.val false (.rs 130 A9) false]
abbrev C5D:List RK:= [.val false .bool]
def B6A(f:A3O):Nat×Fn:=(101,⟨C5C,C5D,fun x=>f x.1 x.2.1⟩)
def D9A:Fn:=(B6A A1M).2
theorem D9B(f_w_eqHeld:A8D):∀ x,(B9 cfg [D0Q f_w_eqHeld] D99 27 [.tmp 4] (Tryz.f101.body.getD .skip) C5C C5D).fn x=B57 f_w_eqHeld x.1 x.2.1:=by intro x;kernel_rfl
theorem C5E:B1 Tryz.prog 101 D9A:=sm MO A7 (tc Tryz.call182 E2M A5) Tryz.func101 (by kernel_rfl) (by decide) (D9B A8E)
abbrev C1g:List PK:= [.val true (.pair (.pair (.pair (.rs 9 .str) (.rs 9 .str)) (.pair (.int .i64) (.pair (.int .i64) (.rs 109 kUp)))) (.rs 130 A9)) false,.val true (.pair (.pair (.pair (.rs 9 .str) (.rs 9 .str)) (.pair (.int .i64) (.pair (.int .i64) (.rs 109 kUp)))) (.rs 130 A9)) false]
abbrev C1h:List RK:= [.val false .bool]
def C1i(f:A7B):Nat×Fn:=(35,⟨C1g,C1h,fun x=>f x.1 x.2.1⟩)
def D5a:Fn:=(C1i A4A).2
theorem D5b(f_w_eqStore:A9J)(f_w_eqHeldS:A3O):∀ x,(B9 cfg [C5B f_w_eqStore,B6A f_w_eqHeldS] (B3 []) 17 [.tmp 4] (Tryz.f35.body.getD .skip) C1g C1h).fn x=B2k f_w_eqStore f_w_eqHeldS x.1 x.2.1:=by intro x;kernel_rfl
theorem D5c:B1 Tryz.prog 35 D5a:=sm MO A7 (tc Tryz.call100 D98 (tc Tryz.call101 C5E A5)) Tryz.func35 (by kernel_rfl) (by decide) (D5b A6J A1M)
abbrev C1j:List PK:= [.val true (.pair .str (.pair (.rs 5 (.int .u8)) E8)) false,.val true (.pair .str (.pair (.rs 5 (.int .u8)) E8)) false]
abbrev C1k:List RK:= [.val false .bool]
def C1l(f:A4B):Nat×Fn:=(211,⟨C1j,C1k,fun x=>f x.1 x.2.1⟩)
def D5d:Fn:=(C1l A4C).2
theorem D5e(f_w_eqByteS:Z5):∀ x,(B9 cfg [A9u f_w_eqByteS] (B3 []) 26 [.tmp 4] (Tryz.f211.body.getD .skip) C1j C1k).fn x=B2l f_w_eqByteS x.1 x.2.1:=by intro x;kernel_rfl
theorem D5f:B1 Tryz.prog 211 D5d:=sm MO A7 (tc Tryz.call36 B69 A5) Tryz.func211 (by kernel_rfl) (by decide) (D5e S9)
def D1u:Nat→Option Jn:=B3 [(58,⟨[.t 5 false [.int .i64]],lt 11 16 [],false⟩)]
abbrev B8C:List PK:= [.val false (.rs 79 B2) false,.val false (.rs 79 B2) false]
abbrev B8D:List RK:= [.val false .bool]
def B8E(f:A5d):Nat×Fn:=(126,⟨B8C,B8D,fun x=>f x.1 x.2.1⟩)
def D1v:Fn:=(B8E A2A).2
theorem D1w(f_w_eqClient:A4B):∀ x,(B9 cfg [C1l f_w_eqClient] D1u 27 [.tmp 4] (Tryz.f126.body.getD .skip) B8C B8D).fn x=B0L f_w_eqClient x.1 x.2.1:=by intro x;kernel_rfl
theorem D1x:B1 Tryz.prog 126 D1v:=sm MO A7 (tc Tryz.call211 D5f A5) Tryz.func126 (by kernel_rfl) (by decide) (D1w A4C)
def D9C:Nat→Option Jn:=B3 [(58,⟨[.t 5 false [.int .i64]],lt 11 15 [],false⟩)]
abbrev C5F:List PK:= [.val false (.rs 4 .bool) false,.val false (.rs 4 .bool) false]
abbrev C5G:List RK:= [.val false .bool]
def C5H(f:A9K):Nat×Fn:=(127,⟨C5F,C5G,fun x=>f x.1 x.2.1⟩)
def D9D:Fn:=(C5H A6K).2
theorem D9E:∀ x,(B9 cfg [] D9C 26 [.tmp 4] (Tryz.f127.body.getD .skip) C5F C5G).fn x=B58 x.1 x.2.1:=by intro x;kernel_rfl
theorem D9F:B1 Tryz.prog 127 D9D:=sm MO A7 A5 Tryz.func127 (by kernel_rfl) (by decide) (D9E)
abbrev D3m:List PK:= [.val true M7 false,.val true M7 false]
abbrev D3n:List RK:= [.val false .bool]
def D3o(f:B6f):Nat×Fn:=(271,⟨D3m,D3n,fun x=>f x.1 x.2.1⟩)
def E59:Fn:=(D3o B14).2
theorem E5A:∀ x,(B9 cfg [] (B3 []) 20 [.tmp 4] (Tryz.f271.body.getD .skip) D3m D3n).fn x=C2P x.1 x.2.1:=by intro x;kernel_rfl
theorem E5B:B1 Tryz.prog 271 E59:=sm MO A7 A5 Tryz.func271 (by kernel_rfl) (by decide) (E5A)
abbrev D0R:List PK:= [.val true (.pair (.int .i64) (.pair M7 (.rs 5 (.int .u8)))) false,.val true (.pair (.int .i64) (.pair M7 (.rs 5 (.int .u8)))) false]
abbrev D0S:List RK:= [.val false .bool]
def D0T(f:A8F):Nat×Fn:=(212,⟨D0R,D0S,fun x=>f x.1 x.2.1⟩)
def E2N:Fn:=(D0T A8G).2
theorem E2O(f_w_eqByteS:Z5)(f_w_eqReq:B6f):∀ x,(B9 cfg [A9u f_w_eqByteS,D3o f_w_eqReq] (B3 []) 22 [.tmp 4] (Tryz.f212.body.getD .skip) D0R D0S).fn x=B9T f_w_eqByteS f_w_eqReq x.1 x.2.1:=by intro x;kernel_rfl
theorem E2P:B1 Tryz.prog 212 E2N:=sm MO A7 (tc Tryz.call36 B69 (tc Tryz.call271 E5B A5)) Tryz.func212 (by kernel_rfl) (by decide) (E2O S9 B14)
def D9G:Nat→Option Jn:=B3 [(58,⟨[.t 5 false [.int .i64]],lt 11 16 [],false⟩)]
abbrev C5I:List PK:= [.val false (.rs 113 B8) false,.val false (.rs 113 B8) false]
abbrev C5J:List RK:= [.val false .bool]
def C5K(f:A9L):Nat×Fn:=(128,⟨C5I,C5J,fun x=>f x.1 x.2.1⟩)
def D9H:Fn:=(C5K A6L).2
theorem D9I(f_w_eqWant:A8F):∀ x,(B9 cfg [D0T f_w_eqWant] D9G 27 [.tmp 4] (Tryz.f128.body.getD .skip) C5I C5J).fn x=B59 f_w_eqWant x.1 x.2.1:=by intro x;kernel_rfl
theorem D9J:B1 Tryz.prog 128 D9H:=sm MO A7 (tc Tryz.call212 E2P A5) Tryz.func128 (by kernel_rfl) (by decide) (D9I A8G)
def E2Q:Nat→Option Jn:=B3 [(58,⟨[.t 5 false [.int .i64]],lt 11 15 [],false⟩)]
abbrev D0U:List PK:= [.val false (.rs 3 (.int .i64)) false,.val false (.rs 3 (.int .i64)) false]
abbrev D0V:List RK:= [.val false .bool]
def D0W(f:B2n):Nat×Fn:=(129,⟨D0U,D0V,fun x=>f x.1 x.2.1⟩)
def E2R:Fn:=(D0W A8H).2
theorem E2S:∀ x,(B9 cfg [] E2Q 26 [.tmp 4] (Tryz.f129.body.getD .skip) D0U D0V).fn x=B9U x.1 x.2.1:=by intro x;kernel_rfl
theorem E2T:B1 Tryz.prog 129 E2R:=sm MO A7 A5 Tryz.func129 (by kernel_rfl) (by decide) (E2S)
abbrev C5L:List PK:= [.val true (.pair (.pair (.pair (.pair (.rs 9 .str) (.rs 9 .str)) (.pair (.int .i64) (.pair (.int .i64) (.rs 109 kUp)))) (.rs 130 A9)) (.pair (.rs 79 B2) (.pair (.rs 4 .bool) (.pair (.rs 113 B8) (.pair (.rs 130 A9) (.rs 3 (.int .i64))))))) false,.val true (.pair (.pair (.pair (.pair (.rs 9 .str) (.rs 9 .str)) (.pair (.int .i64) (.pair (.int .i64) (.rs 109 kUp)))) (.rs 130 A9)) (.pair (.rs 79 B2) (.pair (.rs 4 .bool) (.pair (.rs 113 B8) (.pair (.rs 130 A9) (.rs 3 (.int .i64))))))) false]
abbrev C5M:List RK:= [.val false .bool]
def C5N(f:A9M):Nat×Fn:=(54,⟨C5L,C5M,fun x=>f x.1 x.2.1⟩)
def D9K:Fn:=(C5N A6M).2
theorem D9L(f_w_eqServer:A7B)(f_w_eqHeldS:A3O)(f_w_eqClientS:A5d)(f_w_eqBoolS:A9K)(f_w_eqWantS:A9L)(f_w_eqIntS:B2n):∀ x,(B9 cfg [C1i f_w_eqServer,B6A f_w_eqHeldS,B8E f_w_eqClientS,C5H f_w_eqBoolS,C5K f_w_eqWantS,D0W f_w_eqIntS] (B3 []) 41 [.tmp 4] (Tryz.f54.body.getD .skip) C5L C5M).fn x=B5A f_w_eqServer f_w_eqHeldS f_w_eqClientS f_w_eqBoolS f_w_eqWantS f_w_eqIntS x.1 x.2.1:=by intro x;kernel_rfl
theorem D9M:B1 Tryz.prog 54 D9K:=sm MO A7 (tc Tryz.call35 D5c (tc Tryz.call101 C5E (tc Tryz.call126 D1x (tc Tryz.call127 D9F (tc Tryz.call128 D9J (tc Tryz.call129 E2T A5)))))) Tryz.func54 (by kernel_rfl) (by decide) (D9L A4A A1M A2A A6K A6L A8H)
def D5g:Nat→Option Jn:=B3 [(15,⟨[.t 3 false [.str]],lt 6 12 [.r 12,.t 0],true⟩),(60,⟨[.t 0 false [.int .i64],.t 3 false [.str]],lt 6 12 [.r 12],false⟩)]
abbrev C1m:List PK:= [.val false (.int .i64) false]
abbrev C1n:List RK:= [.val false .str]
def S4(f:D6):Nat×Fn:=(213,⟨C1m,C1n,fun x=>f x.1⟩)
def D5h:Fn:=(S4 D3).2
theorem D5i:∀ x,(B9 cfg [] D5g 20 [.tmp 2] (Tryz.f213.body.getD .skip) C1m C1n).fn x=B2o x.1:=by intro x;kernel_rfl
theorem W8:B1 Tryz.prog 213 D5h:=sm MO A7 A5 Tryz.func213 (by kernel_rfl) (by decide) (D5i)
def C68:Nat→Option Jn:=B3 [(26,⟨[.t 0 false [.own 1000],.t 1 false [.int .i64],.t 5 false [.int .i64],.r 1000 9 .str],lt 6 13 [.x 16],false⟩)]
abbrev B3p:List PK:= [.val false (.sl 9 .str) true,.val false (.int .i64) false]
abbrev B3q:List RK:= [.val false (.int .i64)]
def B3r(f:A2n):Nat×Fn:=(248,⟨B3p,B3q,fun x=>f x.1 x.2.1⟩)
def C69:Fn:=(B3r V2).2
theorem C6A(f_w_markText:D6):∀ x,(B9 cfg [S4 f_w_markText] C68 20 [.tmp 4] (Tryz.f248.body.getD .skip) B3p B3q).fn x=A6l f_w_markText x.1 x.2.1:=by intro x;kernel_rfl
theorem C6B:B1 Tryz.prog 248 C69:=sm MO A7 (tc Tryz.call213 W8 A5) Tryz.func248 (by kernel_rfl) (by decide) (C6A D3)
abbrev C1o:List PK:= [.val true A10 true,.val false (.int .i64) false]
abbrev C1p:List RK:= [.val false (.int .i64)]
def C1q(f:A7C):Nat×Fn:=(183,⟨C1o,C1p,fun x=>f x.1 x.2.1⟩)
def D5j:Fn:=(C1q A4D).2
theorem D5k(f_w_markStringS:A2n):∀ x,(B9 cfg [B3r f_w_markStringS] (B3 []) 14 [.tmp 4] (Tryz.f183.body.getD .skip) C1o C1p).fn x=B2p f_w_markStringS x.1 x.2.1:=by intro x;kernel_rfl
theorem D5l:B1 Tryz.prog 183 D5j:=sm MO A7 (tc Tryz.call248 C6B A5) Tryz.func183 (by kernel_rfl) (by decide) (D5k V2)
def D1y:Nat→Option Jn:=B3 [(26,⟨[.t 0 false [.own 1000],.t 1 false [.int .i64],.t 5 false [.int .i64],.r 1000 5 (.int .u8)],lt 6 13 [.x 16],false⟩)]
abbrev B8F:List PK:= [.val false (.sl 5 (.int .u8)) true,.val false (.int .i64) false]
abbrev B8G:List RK:= [.val false (.int .i64)]
def A5u(f:L7):Nat×Fn:=(38,⟨B8F,B8G,fun x=>f x.1 x.2.1⟩)
def D1z:Fn:=(A5u I3).2
theorem D20:∀ x,(B9 cfg [] D1y 20 [.tmp 4] (Tryz.f38.body.getD .skip) B8F B8G).fn x=B0O x.1 x.2.1:=by intro x;kernel_rfl
theorem B0c:B1 Tryz.prog 38 D1z:=sm MO A7 A5 Tryz.func38 (by kernel_rfl) (by decide) (D20)
def D9N:Nat→Option Jn:=B3 [(26,⟨[.t 0 false [.own 1000],.t 1 false [.int .i64],.t 5 false [.int .i64],.r 1000 109 kUp],lt 6 37 [.x 16,.x 23,.x 29,.x 39],false⟩)]
abbrev C5O:List PK:= [.val false (.sl 109 kUp) true,.val false (.int .i64) false]
abbrev C5P:List RK:= [.val false (.int .i64)]
def C5Q(f:A9N):Nat×Fn:=(184,⟨C5O,C5P,fun x=>f x.1 x.2.1⟩)
def D9O:Fn:=(C5Q A9O).2
theorem D9P(f_w_markByteS:L7)(f_w_markText:D6):∀ x,(B9 cfg [A5u f_w_markByteS,S4 f_w_markText] D9N 44 [.tmp 4] (Tryz.f184.body.getD .skip) C5O C5P).fn x=C3b f_w_markByteS f_w_markText x.1 x.2.1:=by intro x;kernel_rfl
theorem D9Q:B1 Tryz.prog 184 D9O:=sm MO A7 (tc Tryz.call38 B0c (tc Tryz.call213 W8 A5)) Tryz.func184 (by kernel_rfl) (by decide) (D9P I3 D3)
abbrev B8H:List PK:= [.val true A3j true,.val false (.int .i64) false]
abbrev B8I:List RK:= [.val false (.int .i64)]
def B8J(f:A5f):Nat×Fn:=(102,⟨B8H,B8I,fun x=>f x.1 x.2.1⟩)
def D21:Fn:=(B8J A2B).2
theorem D22(f_w_markDisk:A7C)(f_w_markUpS:A9N):∀ x,(B9 cfg [C1q f_w_markDisk,C5Q f_w_markUpS] (B3 []) 14 [.tmp 4] (Tryz.f102.body.getD .skip) B8H B8I).fn x=B0P f_w_markDisk f_w_markUpS x.1 x.2.1:=by intro x;kernel_rfl
theorem D23:B1 Tryz.prog 102 D21:=sm MO A7 (tc Tryz.call183 D5l (tc Tryz.call184 D9Q A5)) Tryz.func102 (by kernel_rfl) (by decide) (D22 A4D A9O)
def D24:Nat→Option Jn:=B3 [(26,⟨[.t 0 false [.own 1000],.t 1 false [.int .i64],.t 5 false [.int .i64],.r 1000 130 A9],lt 6 29 [.x 15,.x 22,.x 30],false⟩)]
abbrev B8K:List PK:= [.val false (.sl 130 A9) true,.val false (.int .i64) false]
abbrev B8L:List RK:= [.val false (.int .i64)]
def B0d(f:A0W):Nat×Fn:=(103,⟨B8K,B8L,fun x=>f x.1 x.2.1⟩)
def D25:Fn:=(B0d A0X).2
theorem D26:∀ x,(B9 cfg [] D24 36 [.tmp 4] (Tryz.f103.body.getD .skip) B8K B8L).fn x=B7A x.1 x.2.1:=by intro x;kernel_rfl
theorem B8M:B1 Tryz.prog 103 D25:=sm MO A7 A5 Tryz.func103 (by kernel_rfl) (by decide) (D26)
abbrev B6B:List PK:= [.val true A1c true,.val false (.int .i64) false]
abbrev B6C:List RK:= [.val false (.int .i64)]
def B6D(f:A4E):Nat×Fn:=(37,⟨B6B,B6C,fun x=>f x.1 x.2.1⟩)
def D0X:Fn:=(B6D A1N).2
theorem D0Y(f_w_markStore:A5f)(f_w_markHeldS:A0W):∀ x,(B9 cfg [B8J f_w_markStore,B0d f_w_markHeldS] (B3 []) 14 [.tmp 4] (Tryz.f37.body.getD .skip) B6B B6C).fn x=A8J f_w_markStore f_w_markHeldS x.1 x.2.1:=by intro x;kernel_rfl
theorem D0Z:B1 Tryz.prog 37 D0X:=sm MO A7 (tc Tryz.call102 D23 (tc Tryz.call103 B8M A5)) Tryz.func37 (by kernel_rfl) (by decide) (D0Y A2B A0X)
def C6C:Nat→Option Jn:=B3 [(26,⟨[.t 0 false [.own 1000],.t 1 false [.int .i64],.t 5 false [.int .i64],.r 1000 79 B2],lt 6 35 [.x 16,.x 22,.x 30,.x 37],false⟩)]
abbrev B3s:List PK:= [.val false (.sl 79 B2) true,.val false (.int .i64) false]
abbrev B3t:List RK:= [.val false (.int .i64)]
def B3u(f:A2q):Nat×Fn:=(130,⟨B3s,B3t,fun x=>f x.1 x.2.1⟩)
def C6D:Fn:=(B3u A2r).2
theorem C6E(f_w_markByteS:L7)(f_w_markText:D6):∀ x,(B9 cfg [A5u f_w_markByteS,S4 f_w_markText] C6C 42 [.tmp 4] (Tryz.f130.body.getD .skip) B3s B3t).fn x=B3K f_w_markByteS f_w_markText x.1 x.2.1:=by intro x;kernel_rfl
theorem C6F:B1 Tryz.prog 130 C6D:=sm MO A7 (tc Tryz.call38 B0c (tc Tryz.call213 W8 A5)) Tryz.func130 (by kernel_rfl) (by decide) (C6E I3 D3)
def D27:Nat→Option Jn:=B3 [(26,⟨[.t 0 false [.own 1000],.t 1 false [.int .i64],.t 5 false [.int .i64],.r 1000 4 .bool],lt 6 14 [.x 17],false⟩)]
abbrev B8N:List PK:= [.val false (.sl 4 .bool) true,.val false (.int .i64) false]
abbrev B8O:List RK:= [.val false (.int .i64)]
def B8P(f:A5g):Nat×Fn:=(131,⟨B8N,B8O,fun x=>f x.1 x.2.1⟩)
def D28:Fn:=(B8P A5h).2
theorem D29:∀ x,(B9 cfg [] D27 21 [.tmp 4] (Tryz.f131.body.getD .skip) B8N B8O).fn x=B7B x.1 x.2.1:=by intro x;kernel_rfl
theorem D2A:B1 Tryz.prog 131 D28:=sm MO A7 A5 Tryz.func131 (by kernel_rfl) (by decide) (D29)
def D2B:Nat→Option Jn:=B3 [(26,⟨[.t 0 false [.own 1000],.t 1 false [.int .i64],.t 5 false [.int .i64],.r 1000 113 B8],lt 6 45 [.x 15,.x 22,.x 31,.x 39,.x 46],false⟩)]
abbrev B8Q:List PK:= [.val false (.sl 113 B8) true,.val false (.int .i64) false]
abbrev B8R:List RK:= [.val false (.int .i64)]
def B8S(f:A5i):Nat×Fn:=(132,⟨B8Q,B8R,fun x=>f x.1 x.2.1⟩)
def D2C:Fn:=(B8S A5j).2
theorem D2D(f_w_markByteS:L7)(f_w_markText:D6):∀ x,(B9 cfg [A5u f_w_markByteS,S4 f_w_markText] D2B 52 [.tmp 4] (Tryz.f132.body.getD .skip) B8Q B8R).fn x=B7C f_w_markByteS f_w_markText x.1 x.2.1:=by intro x;kernel_rfl
theorem D2E:B1 Tryz.prog 132 D2C:=sm MO A7 (tc Tryz.call38 B0c (tc Tryz.call213 W8 A5)) Tryz.func132 (by kernel_rfl) (by decide) (D2D I3 D3)
def D5m:Nat→Option Jn:=B3 [(26,⟨[.t 0 false [.own 1000],.t 1 false [.int .i64],.t 5 false [.int .i64],.r 1000 3 (.int .i64)],lt 6 12 [.x 15],false⟩)]
abbrev C1r:List PK:= [.val false (.sl 3 (.int .i64)) true,.val false (.int .i64) false]
abbrev C1s:List RK:= [.val false (.int .i64)]
def C1t(f:A7D):Nat×Fn:=(133,⟨C1r,C1s,fun x=>f x.1 x.2.1⟩)
def D5n:Fn:=(C1t A7E).2
theorem D5o:∀ x,(B9 cfg [] D5m 19 [.tmp 4] (Tryz.f133.body.getD .skip) C1r C1s).fn x=C0H x.1 x.2.1:=by intro x;kernel_rfl
theorem D5p:B1 Tryz.prog 133 D5n:=sm MO A7 A5 Tryz.func133 (by kernel_rfl) (by decide) (D5o)
abbrev B8T:List PK:= [.val true A0b true,.val false (.int .i64) false]
abbrev B8U:List RK:= [.val false (.int .i64)]
def B8V(f:A5k):Nat×Fn:=(55,⟨B8T,B8U,fun x=>f x.1 x.2.1⟩)
def D2F:Fn:=(B8V A2C).2
theorem D2G(f_w_markServer:A4E)(f_w_markHeldS:A0W)(f_w_markClientS:A2q)(f_w_markBoolS:A5g)(f_w_markWantS:A5i)(f_w_markIntS:A7D):∀ x,(B9 cfg [B6D f_w_markServer,B0d f_w_markHeldS,B3u f_w_markClientS,B8P f_w_markBoolS,B8S f_w_markWantS,C1t f_w_markIntS] (B3 []) 30 [.tmp 4] (Tryz.f55.body.getD .skip) B8T B8U).fn x=B0Q f_w_markServer f_w_markHeldS f_w_markClientS f_w_markBoolS f_w_markWantS f_w_markIntS x.1 x.2.1:=by intro x;kernel_rfl
theorem D2H:B1 Tryz.prog 55 D2F:=sm MO A7 (tc Tryz.call37 D0Z (tc Tryz.call103 B8M (tc Tryz.call130 C6F (tc Tryz.call131 D2A (tc Tryz.call132 D2E (tc Tryz.call133 D5p A5)))))) Tryz.func55 (by kernel_rfl) (by decide) (D2G A1N A0X A2r A5h A5j A7E)
def C6G:Nat→Option Jn:=B3 [(26,⟨[.t 1 false [.int .i64],.t 5 false [.int .i64]],lt 6 15 [],false⟩)]
abbrev B3v:List PK:= [.val false (.rs 9 .str) false,.val false (.int .i64) false]
abbrev B3w:List RK:= [.val false (.int .i64)]
def B3x(f:A2u):Nat×Fn:=(249,⟨B3v,B3w,fun x=>f x.1 x.2.1⟩)
def C6H:Fn:=(B3x V3).2
theorem C6I(f_w_markText:D6):∀ x,(B9 cfg [S4 f_w_markText] C6G 22 [.tmp 4] (Tryz.f249.body.getD .skip) B3v B3w).fn x=A6m f_w_markText x.1 x.2.1:=by intro x;kernel_rfl
theorem C6J:B1 Tryz.prog 249 C6H:=sm MO A7 (tc Tryz.call213 W8 A5) Tryz.func249 (by kernel_rfl) (by decide) (C6I D3)
abbrev C1u:List PK:= [.val true (.pair (.rs 9 .str) (.rs 9 .str)) false,.val false (.int .i64) false]
abbrev C1v:List RK:= [.val false (.int .i64)]
def C1w(f:A7F):Nat×Fn:=(185,⟨C1u,C1v,fun x=>f x.1 x.2.1⟩)
def D5q:Fn:=(C1w A4G).2
theorem D5r(f_w_heldStringS:A2u):∀ x,(B9 cfg [B3x f_w_heldStringS] (B3 []) 18 [.tmp 4] (Tryz.f185.body.getD .skip) C1u C1v).fn x=B2q f_w_heldStringS x.1 x.2.1:=by intro x;kernel_rfl
theorem D5s:B1 Tryz.prog 185 D5q:=sm MO A7 (tc Tryz.call249 C6J A5) Tryz.func185 (by kernel_rfl) (by decide) (D5r V3)
def D2I:Nat→Option Jn:=B3 [(26,⟨[.t 1 false [.int .i64],.t 5 false [.int .i64]],lt 6 15 [],false⟩)]
abbrev B8W:List PK:= [.val false (.rs 5 (.int .u8)) false,.val false (.int .i64) false]
abbrev B8X:List RK:= [.val false (.int .i64)]
def A5v(f:L8):Nat×Fn:=(214,⟨B8W,B8X,fun x=>f x.1 x.2.1⟩)
def D2J:Fn:=(A5v I4).2
theorem D2K:∀ x,(B9 cfg [] D2I 22 [.tmp 4] (Tryz.f214.body.getD .skip) B8W B8X).fn x=B0R x.1 x.2.1:=by intro x;kernel_rfl
theorem B0e:B1 Tryz.prog 214 D2J:=sm MO A7 A5 Tryz.func214 (by kernel_rfl) (by decide) (D2K)
def D9R:Nat→Option Jn:=B3 [(26,⟨[.t 1 false [.int .i64],.t 5 false [.int .i64]],lt 6 45 [],false⟩)]
abbrev C5R:List PK:= [.val false (.rs 109 kUp) false,.val false (.int .i64) false]
abbrev C5S:List RK:= [.val false (.int .i64)]
def C5T(f:A9P):Nat×Fn:=(186,⟨C5R,C5S,fun x=>f x.1 x.2.1⟩)
def D9S:Fn:=(C5T A9Q).2
theorem D9T(f_w_markText:D6)(f_w_heldByteS:L8):∀ x,(B9 cfg [S4 f_w_markText,A5v f_w_heldByteS] D9R 52 [.tmp 4] (Tryz.f186.body.getD .skip) C5R C5S).fn x=C3c f_w_markText f_w_heldByteS x.1 x.2.1:=by intro x;kernel_rfl
theorem D9U:B1 Tryz.prog 186 D9S:=sm MO A7 (tc Tryz.call213 W8 (tc Tryz.call214 B0e A5)) Tryz.func186 (by kernel_rfl) (by decide) (D9T D3 I4)
abbrev B8Y:List PK:= [.val true (.pair (.pair (.rs 9 .str) (.rs 9 .str)) (.pair (.int .i64) (.pair (.int .i64) (.rs 109 kUp)))) false,.val false (.int .i64) false]
abbrev B8Z:List RK:= [.val false (.int .i64)]
def B8a(f:A5m):Nat×Fn:=(104,⟨B8Y,B8Z,fun x=>f x.1 x.2.1⟩)
def D2L:Fn:=(B8a A2D).2
theorem D2M(f_w_heldDisk:A7F)(f_w_heldUpS:A9P):∀ x,(B9 cfg [C1w f_w_heldDisk,C5T f_w_heldUpS] (B3 []) 18 [.tmp 4] (Tryz.f104.body.getD .skip) B8Y B8Z).fn x=B0S f_w_heldDisk f_w_heldUpS x.1 x.2.1:=by intro x;kernel_rfl
theorem D2N:B1 Tryz.prog 104 D2L:=sm MO A7 (tc Tryz.call185 D5s (tc Tryz.call186 D9U A5)) Tryz.func104 (by kernel_rfl) (by decide) (D2M A4G A9Q)
def D2O:Nat→Option Jn:=B3 [(26,⟨[.t 1 false [.int .i64],.t 5 false [.int .i64]],lt 6 35 [],false⟩)]
abbrev B8b:List PK:= [.val false (.rs 130 A9) false,.val false (.int .i64) false]
abbrev B8c:List RK:= [.val false (.int .i64)]
def B0f(f:A0Y):Nat×Fn:=(105,⟨B8b,B8c,fun x=>f x.1 x.2.1⟩)
def D2P:Fn:=(B0f A0Z).2
theorem D2Q:∀ x,(B9 cfg [] D2O 42 [.tmp 4] (Tryz.f105.body.getD .skip) B8b B8c).fn x=B7D x.1 x.2.1:=by intro x;kernel_rfl
theorem B8d:B1 Tryz.prog 105 D2P:=sm MO A7 A5 Tryz.func105 (by kernel_rfl) (by decide) (D2Q)
abbrev B6E:List PK:= [.val true (.pair (.pair (.pair (.rs 9 .str) (.rs 9 .str)) (.pair (.int .i64) (.pair (.int .i64) (.rs 109 kUp)))) (.rs 130 A9)) false,.val false (.int .i64) false]
abbrev B6F:List RK:= [.val false (.int .i64)]
def B6G(f:A4H):Nat×Fn:=(39,⟨B6E,B6F,fun x=>f x.1 x.2.1⟩)
def D0a:Fn:=(B6G A1O).2
theorem D0b(f_w_heldStore:A5m)(f_w_heldHeldS:A0Y):∀ x,(B9 cfg [B8a f_w_heldStore,B0f f_w_heldHeldS] (B3 []) 18 [.tmp 4] (Tryz.f39.body.getD .skip) B6E B6F).fn x=A8K f_w_heldStore f_w_heldHeldS x.1 x.2.1:=by intro x;kernel_rfl
theorem D0c:B1 Tryz.prog 39 D0a:=sm MO A7 (tc Tryz.call104 D2N (tc Tryz.call105 B8d A5)) Tryz.func39 (by kernel_rfl) (by decide) (D0b A2D A0Z)
def C6K:Nat→Option Jn:=B3 [(26,⟨[.t 1 false [.int .i64],.t 5 false [.int .i64]],lt 6 43 [],false⟩)]
abbrev B3y:List PK:= [.val false (.rs 79 B2) false,.val false (.int .i64) false]
abbrev B3z:List RK:= [.val false (.int .i64)]
def B40(f:A2x):Nat×Fn:=(134,⟨B3y,B3z,fun x=>f x.1 x.2.1⟩)
def C6L:Fn:=(B40 A2y).2
theorem C6M(f_w_markText:D6)(f_w_heldByteS:L8):∀ x,(B9 cfg [S4 f_w_markText,A5v f_w_heldByteS] C6K 50 [.tmp 4] (Tryz.f134.body.getD .skip) B3y B3z).fn x=B3L f_w_markText f_w_heldByteS x.1 x.2.1:=by intro x;kernel_rfl
theorem C6N:B1 Tryz.prog 134 C6L:=sm MO A7 (tc Tryz.call213 W8 (tc Tryz.call214 B0e A5)) Tryz.func134 (by kernel_rfl) (by decide) (C6M D3 I4)
def D2R:Nat→Option Jn:=B3 [(26,⟨[.t 1 false [.int .i64],.t 5 false [.int .i64]],lt 6 16 [],false⟩)]
abbrev B8e:List PK:= [.val false (.rs 4 .bool) false,.val false (.int .i64) false]
abbrev B8f:List RK:= [.val false (.int .i64)]
def B8g(f:A5n):Nat×Fn:=(135,⟨B8e,B8f,fun x=>f x.1 x.2.1⟩)
def D2S:Fn:=(B8g A5o).2
theorem D2T:∀ x,(B9 cfg [] D2R 23 [.tmp 4] (Tryz.f135.body.getD .skip) B8e B8f).fn x=B7E x.1 x.2.1:=by intro x;kernel_rfl
theorem D2U:B1 Tryz.prog 135 D2S:=sm MO A7 A5 Tryz.func135 (by kernel_rfl) (by decide) (D2T)
def D2V:Nat→Option Jn:=B3 [(26,⟨[.t 1 false [.int .i64],.t 5 false [.int .i64]],lt 6 55 [],false⟩)]
abbrev B8h:List PK:= [.val false (.rs 113 B8) false,.val false (.int .i64) false]
abbrev B8i:List RK:= [.val false (.int .i64)]
def B8j(f:A5p):Nat×Fn:=(136,⟨B8h,B8i,fun x=>f x.1 x.2.1⟩)
def D2W:Fn:=(B8j A5q).2
theorem D2X(f_w_markText:D6)(f_w_heldByteS:L8):∀ x,(B9 cfg [S4 f_w_markText,A5v f_w_heldByteS] D2V 62 [.tmp 4] (Tryz.f136.body.getD .skip) B8h B8i).fn x=B7F f_w_markText f_w_heldByteS x.1 x.2.1:=by intro x;kernel_rfl
theorem D2Y:B1 Tryz.prog 136 D2W:=sm MO A7 (tc Tryz.call213 W8 (tc Tryz.call214 B0e A5)) Tryz.func136 (by kernel_rfl) (by decide) (D2X D3 I4)
def D5t:Nat→Option Jn:=B3 [(26,⟨[.t 1 false [.int .i64],.t 5 false [.int .i64]],lt 6 14 [],false⟩)]
abbrev C1x:List PK:= [.val false (.rs 3 (.int .i64)) false,.val false (.int .i64) false]
abbrev C1y:List RK:= [.val false (.int .i64)]
def C1z(f:A7G):Nat×Fn:=(137,⟨C1x,C1y,fun x=>f x.1 x.2.1⟩)
def D5u:Fn:=(C1z A7H).2
theorem D5v:∀ x,(B9 cfg [] D5t 21 [.tmp 4] (Tryz.f137.body.getD .skip) C1x C1y).fn x=C0I x.1 x.2.1:=by intro x;kernel_rfl
theorem D5w:B1 Tryz.prog 137 D5u:=sm MO A7 A5 Tryz.func137 (by kernel_rfl) (by decide) (D5v)
abbrev B8k:List PK:= [.val true (.pair (.pair (.pair (.pair (.rs 9 .str) (.rs 9 .str)) (.pair (.int .i64) (.pair (.int .i64) (.rs 109 kUp)))) (.rs 130 A9)) (.pair (.rs 79 B2) (.pair (.rs 4 .bool) (.pair (.rs 113 B8) (.pair (.rs 130 A9) (.rs 3 (.int .i64))))))) false,.val false (.int .i64) false]
abbrev B8l:List RK:= [.val false (.int .i64)]
def B8m(f:A5r):Nat×Fn:=(56,⟨B8k,B8l,fun x=>f x.1 x.2.1⟩)
def D2Z:Fn:=(B8m A2E).2
theorem D2a(f_w_heldServer:A4H)(f_w_heldHeldS:A0Y)(f_w_heldClientS:A2x)(f_w_heldBoolS:A5n)(f_w_heldWantS:A5p)(f_w_heldIntS:A7G):∀ x,(B9 cfg [B6G f_w_heldServer,B0f f_w_heldHeldS,B40 f_w_heldClientS,B8g f_w_heldBoolS,B8j f_w_heldWantS,C1z f_w_heldIntS] (B3 []) 42 [.tmp 4] (Tryz.f56.body.getD .skip) B8k B8l).fn x=B0T f_w_heldServer f_w_heldHeldS f_w_heldClientS f_w_heldBoolS f_w_heldWantS f_w_heldIntS x.1 x.2.1:=by intro x;kernel_rfl
theorem D2b:B1 Tryz.prog 56 D2Z:=sm MO A7 (tc Tryz.call39 D0c (tc Tryz.call105 B8d (tc Tryz.call134 C6N (tc Tryz.call135 D2U (tc Tryz.call136 D2Y (tc Tryz.call137 D5w A5)))))) Tryz.func56 (by kernel_rfl) (by decide) (D2a A1O A0Z A2y A5o A5q A7H)
def C3M:Nat→Option Jn:=B3 [(7,⟨[.t 6 false [.bool]],lt 10 6 [],true⟩),(122,⟨[.t 7 false [.int .i64],.b 5 [.ro 9 .str,.ro 9 .str,.int .i64,.int .i64,.ro 109 (.pair .str (.pair (.int .i64) (.pair (.rs 5 (.int .u8)) .bool))),.own 100001000,.own 100001001,.own 100001002,.own 100001003,.own 100001004,.own 100001005],.r 100001000 130 A9,.r 100001001 79 (.pair .str (.pair (.rs 5 (.int .u8)) E8)),.r 100001002 4 .bool,.r 100001003 113 (.pair (.int .i64) (.pair M7 (.rs 5 (.int .u8)))),.r 100001004 130 A9,.r 100001005 3 (.int .i64)],lt 16 10 [.r 40960,.r 40961,.r 40964,.r 40965,.r 40966,.r 40967,.r 40968,.r 40969,.r 40970,.r 104453,.r 104454,.r 104455,.r 104456,.r 104457,.r 104458,.r 108549,.r 108550,.r 108551,.r 108552,.r 108553,.r 108554,.t 9],false⟩),(244,⟨[],lt 16 6 [],false⟩)]
abbrev B1r:List PK:= [.val true (.pair (.pair (.pair (.pair (.rs 9 .str) (.rs 9 .str)) (.pair (.int .i64) (.pair (.int .i64) (.rs 109 kUp)))) (.rs 130 A9)) (.pair (.rs 79 B2) (.pair (.rs 4 .bool) (.pair (.rs 113 B8) (.pair (.rs 130 A9) (.rs 3 (.int .i64))))))) false,.val false (.int .i64) false]
abbrev B1s:List RK:= [.val true (.pair (.pair (.pair (.pair (.rs 9 .str) (.rs 9 .str)) (.pair (.int .i64) (.pair (.int .i64) (.rs 109 kUp)))) (.sl 130 A9)) (.pair (.sl 79 (.pair .str (.pair (.rs 5 (.int .u8)) E8))) (.pair (.sl 4 .bool) (.pair (.sl 113 (.pair (.int .i64) (.pair M7 (.rs 5 (.int .u8))))) (.pair (.sl 130 A9) (.sl 3 (.int .i64)))))))]
def B1t(f:A1s):Nat×Fn:=(52,⟨B1r,B1s,fun x=>f x.1 x.2.1⟩)
def C3N:Fn:=(B1t Y8).2
theorem C3O(f_s_WorldOk:A95)(f_s_l18Copy:A99)(f_s_l1In:E5)(f_s_l20Half_W:A26):∀ x,(B9 cfg [C4W f_s_WorldOk,A3g f_s_l18Copy,P7 f_s_l1In,B82 f_s_l20Half_W] C3M 27 [.cell 4 38] (Tryz.f52.body.getD .skip) B1r B1s).fn x=A59 f_s_WorldOk f_s_l18Copy f_s_l1In f_s_l20Half_W x.1 x.2.1:=by intro x;kernel_rfl
theorem C3P:B1 Tryz.prog 52 C3N:=sm MO A7 (tc Tryz.call70 D8G (tc Tryz.call109 B1q (tc Tryz.call120 Q8 (tc Tryz.call121 D1h A5)))) Tryz.func52 (by kernel_rfl) (by decide) (C3O Z3 A6A E2 N4)
def C20:Nat→Option Jn:=B3 [(4095,⟨[],lt 39 8 [],false⟩)]
abbrev A0o:List PK:= [.val true (.pair (.pair (.pair (.pair (.rs 9 .str) (.rs 9 .str)) (.pair (.int .i64) (.pair (.int .i64) (.rs 248 kUp)))) (.rs 203 A9)) (.pair (.rs 218 B2) (.pair (.rs 4 .bool) (.pair (.rs 221 B8) (.pair (.rs 203 A9) (.rs 3 (.int .i64))))))) false,.val false (.int .i64) false]
abbrev A9v:List RK:= [.val false .bool]
def C21(f:A9R):Nat×Fn:=(11,⟨A0o,A9v,fun x=>f x.1 x.2.1⟩)
def F_w_FnExactSettle:Fn:=(C21 A4K).2
theorem C22(f_i_Settle:B2M)(f_w_szWorld:A8y)(f_s_Settle_r99_0:A1s)(f_w_toWorld:A9I)(f_w_eqWorld:A9M)(f_w_markWorld:A5k)(f_w_heldWorld:A5r):∀ x,(B9 cfg [C9F f_i_Settle,C4O f_w_szWorld,B1t f_s_Settle_r99_0,C56 f_w_toWorld,C5N f_w_eqWorld,B8V f_w_markWorld,B8m f_w_heldWorld] C20 74 [.tmp 4] (Tryz.f11.body.getD .skip) A0o A9v).fn x=A4J f_i_Settle f_w_szWorld f_s_Settle_r99_0 f_w_toWorld f_w_eqWorld f_w_markWorld f_w_heldWorld x.1 x.2.1:=by intro x;kernel_rfl
theorem C23:B1 Tryz.prog 11 F_w_FnExactSettle:=sm MO A7 (tc Tryz.call41 E1N (tc Tryz.call51 D84 (tc Tryz.call52 C3P (tc Tryz.call53 D8z (tc Tryz.call54 D9M (tc Tryz.call55 D2H (tc Tryz.call56 D2b A5))))))) Tryz.func11 (by kernel_rfl) (by decide) (C22 A7s A66 Y8 A6I A6M A2C A2E)
end
end Go.Proofs.YtpdcljonclhhpaaGreat.Ev
