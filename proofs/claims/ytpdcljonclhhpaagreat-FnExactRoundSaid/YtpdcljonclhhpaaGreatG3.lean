/- Each function of the program does what its plain function says. -/
import Derived.Test.YtpdcljonclhhpaaGreatG2
set_option linter.unusedVariables false
set_option maxRecDepth 100000
namespace Go.Proofs.YtpdcljonclhhpaaGreat.Ev
noncomputable section
abbrev D3X:List PK:= [.val true N3 false]
abbrev D3Y:List RK:= [.val true N3]
def D3Z(f:B6Z):Nat×Fn:=(33,⟨D3X,D3Y,fun x=>f x.1⟩)
def E4s:Fn:=(D3Z B0v).2
theorem E4t:∀ x,(B9 cfg [] (B3 []) 14 [.cell 2 43] (Tryz.f33.body.getD .skip) D3X D3Y).fn x=C2G x.1:=by intro x;kernel_rfl
theorem E4u:B1 Tryz.prog 33 E4s:=sm MO A7 A5 Tryz.func33 (by kernel_rfl) (by decide) (E4t)
abbrev C9X:List PK:= [.val true (.pair (.int .i64) (.pair N3 (.rs 5 (.int .u8)))) false]
abbrev C9Y:List RK:= [.val true B8]
def C9Z(f:A7z):Nat×Fn:=(210,⟨C9X,C9Y,fun x=>f x.1⟩)
def E1h:Fn:=(C9Z A80).2
theorem E1i(f_w_toReq:B6Z)(f_w_toByteS:Z0):∀ x,(B9 cfg [D3Z f_w_toReq,A9g f_w_toByteS] (B3 []) 16 [.cell 2 113] (Tryz.f210.body.getD .skip) C9X C9Y).fn x=B9G f_w_toReq f_w_toByteS x.1:=by intro x;kernel_rfl
theorem E1j:B1 Tryz.prog 210 E1h:=sm MO A7 (tc Tryz.call33 E4u (tc Tryz.call34 B5s A5)) Tryz.func210 (by kernel_rfl) (by decide) (E1i B0v S4)
def D8M:Nat→Option Jn:=B3 [(58,⟨[.t 3 false [.own 7],.t 4 false [.int .i64],.r 7 113 B8],lt 8 14 [.r 86020,.x 21],false⟩)]
abbrev C4X:List PK:= [.val false (.rs 221 B8) false]
abbrev C4Y:List RK:= [.val false (.sl 113 B8)]
def C4Z(f:A8z):Nat×Fn:=(124,⟨C4X,C4Y,fun x=>f x.1⟩)
def D8N:Fn:=(C4Z A67).2
theorem D8O(f_w_toWant:A7z):∀ x,(B9 cfg [C9Z f_w_toWant] D8M 23 [.tmp 2] (Tryz.f124.body.getD .skip) C4X C4Y).fn x=B4n f_w_toWant x.1:=by intro x;kernel_rfl
theorem D8P:B1 Tryz.prog 124 D8N:=sm MO A7 (tc Tryz.call210 E1j A5) Tryz.func124 (by kernel_rfl) (by decide) (D8O A80)
def E1k:Nat→Option Jn:=B3 [(58,⟨[.t 3 false [.own 7],.t 4 false [.int .i64],.r 7 3 (.int .i64)],lt 8 13 [.x 20],false⟩)]
abbrev C9a:List PK:= [.val false (.rs 3 (.int .i64)) false]
abbrev C9b:List RK:= [.val false (.sl 3 (.int .i64))]
def C9c(f:B2T):Nat×Fn:=(125,⟨C9a,C9b,fun x=>f x.1⟩)
def E1l:Fn:=(C9c A81).2
theorem E1m:∀ x,(B9 cfg [] E1k 22 [.tmp 2] (Tryz.f125.body.getD .skip) C9a C9b).fn x=B9H x.1:=by intro x;kernel_rfl
theorem E1n:B1 Tryz.prog 125 E1l:=sm MO A7 A5 Tryz.func125 (by kernel_rfl) (by decide) (E1m)
abbrev C4a:List PK:= [.val true (.pair (.pair (.pair (.pair (.rs 9 .str) (.rs 9 .str)) (.pair (.int .i64) (.pair (.int .i64) (.rs 248 kUp)))) (.rs 203 A9)) (.pair (.rs 218 B2) (.pair (.rs 4 .bool) (.pair (.rs 221 B8) (.pair (.rs 203 A9) (.rs 3 (.int .i64))))))) false]
abbrev C4b:List RK:= [.val true Z8]
def C4c(f:A90):Nat×Fn:=(53,⟨C4a,C4b,fun x=>f x.1⟩)
def D8Q:Fn:=(C4c A68).2
theorem D8R(f_w_toServer:A75)(f_w_toHeldS:A3I)(f_w_toClientS:A5U)(f_w_toBoolS:A8y)(f_w_toWantS:A8z)(f_w_toIntS:B2T):∀ x,(B9 cfg [C1H f_w_toServer,B5t f_w_toHeldS,B7t f_w_toClientS,C4W f_w_toBoolS,C4Z f_w_toWantS,C9c f_w_toIntS] (B3 []) 29 [.cell 2 38] (Tryz.f53.body.getD .skip) C4a C4b).fn x=B4o f_w_toServer f_w_toHeldS f_w_toClientS f_w_toBoolS f_w_toWantS f_w_toIntS x.1:=by intro x;kernel_rfl
theorem D8S:B1 Tryz.prog 53 D8Q:=sm MO A7 (tc Tryz.call32 D5J (tc Tryz.call99 C4T (tc Tryz.call122 D1V (tc Tryz.call123 D8L (tc Tryz.call124 D8P (tc Tryz.call125 E1n A5)))))) Tryz.func53 (by kernel_rfl) (by decide) (D8R A3v A1C A1z A66 A67 A81)
def D1W:Nat→Option Jn:=B3 [(58,⟨[.t 5 false [.int .i64]],lt 11 15 [],false⟩)]
abbrev B7u:List PK:= [.val false (.rs 9 .str) false,.val false (.rs 9 .str) false]
abbrev B7v:List RK:= [.val false .bool]
def B7w(f:A5V):Nat×Fn:=(245,⟨B7u,B7v,fun x=>f x.1 x.2.1⟩)
def D1X:Fn:=(B7w A20).2
theorem D1Y:∀ x,(B9 cfg [] D1W 26 [.tmp 4] (Tryz.f245.body.getD .skip) B7u B7v).fn x=B0B x.1 x.2.1:=by intro x;kernel_rfl
theorem D1Z:B1 Tryz.prog 245 D1X:=sm MO A7 A5 Tryz.func245 (by kernel_rfl) (by decide) (D1Y)
abbrev C9d:List PK:= [.val true (.pair (.rs 9 .str) (.rs 9 .str)) false,.val true (.pair (.rs 9 .str) (.rs 9 .str)) false]
abbrev C9e:List RK:= [.val false .bool]
def C9f(f:B2U):Nat×Fn:=(180,⟨C9d,C9e,fun x=>f x.1 x.2.1⟩)
def E1o:Fn:=(C9f A82).2
theorem E1p(f_w_eqStringS:A5V):∀ x,(B9 cfg [B7w f_w_eqStringS] (B3 []) 17 [.tmp 4] (Tryz.f180.body.getD .skip) C9d C9e).fn x=B9I f_w_eqStringS x.1 x.2.1:=by intro x;kernel_rfl
theorem E1q:B1 Tryz.prog 180 E1o:=sm MO A7 (tc Tryz.call245 D1Z A5) Tryz.func180 (by kernel_rfl) (by decide) (E1p A20)
def D8T:Nat→Option Jn:=B3 [(58,⟨[.t 5 false [.int .i64]],lt 11 15 [],false⟩)]
abbrev C4d:List PK:= [.val false (.rs 5 (.int .u8)) false,.val false (.rs 5 (.int .u8)) false]
abbrev C4e:List RK:= [.val false .bool]
def A9h(f:Z1):Nat×Fn:=(36,⟨C4d,C4e,fun x=>f x.1 x.2.1⟩)
def D8U:Fn:=(A9h S5).2
theorem D8V:∀ x,(B9 cfg [] D8T 26 [.tmp 4] (Tryz.f36.body.getD .skip) C4d C4e).fn x=B4p x.1 x.2.1:=by intro x;kernel_rfl
theorem B5u:B1 Tryz.prog 36 D8U:=sm MO A7 A5 Tryz.func36 (by kernel_rfl) (by decide) (D8V)
abbrev D8W:List PK:= [.val true (.pair .str (.pair (.int .i64) (.pair (.rs 5 (.int .u8)) .bool))) false,.val true (.pair .str (.pair (.int .i64) (.pair (.rs 5 (.int .u8)) .bool))) false]
abbrev D8X:List RK:= [.val false .bool]
def D8Y(f:B4q):Nat×Fn:=(246,⟨D8W,D8X,fun x=>f x.1 x.2.1⟩)
def E7H:Fn:=(D8Y B4r).2
theorem E7I(f_w_eqByteS:Z1):∀ x,(B9 cfg [A9h f_w_eqByteS] (B3 []) 26 [.tmp 4] (Tryz.f246.body.getD .skip) D8W D8X).fn x=C7R f_w_eqByteS x.1 x.2.1:=by intro x;kernel_rfl
theorem E7J:B1 Tryz.prog 246 E7H:=sm MO A7 (tc Tryz.call36 B5u A5) Tryz.func246 (by kernel_rfl) (by decide) (E7I S5)
def E4v:Nat→Option Jn:=B3 [(58,⟨[.t 5 false [.int .i64]],lt 11 16 [],false⟩)]
abbrev D3a:List PK:= [.val false (.rs 109 kUp) false,.val false (.rs 109 kUp) false]
abbrev D3b:List RK:= [.val false .bool]
def D3c(f:B6a):Nat×Fn:=(181,⟨D3a,D3b,fun x=>f x.1 x.2.1⟩)
def E4w:Fn:=(D3c B0w).2
theorem E4x(f_w_eqUp:B4q):∀ x,(B9 cfg [D8Y f_w_eqUp] E4v 27 [.tmp 4] (Tryz.f181.body.getD .skip) D3a D3b).fn x=C2H f_w_eqUp x.1 x.2.1:=by intro x;kernel_rfl
theorem E4y:B1 Tryz.prog 181 E4w:=sm MO A7 (tc Tryz.call246 E7J A5) Tryz.func181 (by kernel_rfl) (by decide) (E4x B4r)
abbrev C4f:List PK:= [.val true (.pair (.pair (.rs 9 .str) (.rs 9 .str)) (.pair (.int .i64) (.pair (.int .i64) (.rs 109 kUp)))) false,.val true (.pair (.pair (.rs 9 .str) (.rs 9 .str)) (.pair (.int .i64) (.pair (.int .i64) (.rs 109 kUp)))) false]
abbrev C4g:List RK:= [.val false .bool]
def C4h(f:A91):Nat×Fn:=(100,⟨C4f,C4g,fun x=>f x.1 x.2.1⟩)
def D8Z:Fn:=(C4h A69).2
theorem D8a(f_w_eqDisk:B2U)(f_w_eqUpS:B6a):∀ x,(B9 cfg [C9f f_w_eqDisk,D3c f_w_eqUpS] (B3 []) 27 [.tmp 4] (Tryz.f100.body.getD .skip) C4f C4g).fn x=B4t f_w_eqDisk f_w_eqUpS x.1 x.2.1:=by intro x;kernel_rfl
theorem D8b:B1 Tryz.prog 100 D8Z:=sm MO A7 (tc Tryz.call180 E1q (tc Tryz.call181 E4y A5)) Tryz.func100 (by kernel_rfl) (by decide) (D8a A82 B0w)
abbrev C9g:List PK:= [.val true E8 false,.val true E8 false]
abbrev C9h:List RK:= [.val false .bool]
def C9i(f:B2V):Nat×Fn:=(247,⟨C9g,C9h,fun x=>f x.1 x.2.1⟩)
def E1r:Fn:=(C9i A83).2
theorem E1s:∀ x,(B9 cfg [] (B3 []) 15 [.tmp 4] (Tryz.f247.body.getD .skip) C9g C9h).fn x=B9J x.1 x.2.1:=by intro x;kernel_rfl
theorem E1t:B1 Tryz.prog 247 E1r:=sm MO A7 A5 Tryz.func247 (by kernel_rfl) (by decide) (E1s)
abbrev C9j:List PK:= [.val true A9 false,.val true A9 false]
abbrev C9k:List RK:= [.val false .bool]
def C9l(f:A84):Nat×Fn:=(182,⟨C9j,C9k,fun x=>f x.1 x.2.1⟩)
def E1u:Fn:=(C9l A85).2
theorem E1v(f_w_eqResp:B2V):∀ x,(B9 cfg [C9i f_w_eqResp] (B3 []) 16 [.tmp 4] (Tryz.f182.body.getD .skip) C9j C9k).fn x=B9K f_w_eqResp x.1 x.2.1:=by intro x;kernel_rfl
theorem E1w:B1 Tryz.prog 182 E1u:=sm MO A7 (tc Tryz.call247 E1t A5) Tryz.func182 (by kernel_rfl) (by decide) (E1v A83)
def D8c:Nat→Option Jn:=B3 [(58,⟨[.t 5 false [.int .i64]],lt 11 16 [],false⟩)]
abbrev C4i:List PK:= [.val false (.rs 130 A9) false,.val false (.rs 130 A9) false]
abbrev C4j:List RK:= [.val false .bool]
def B5v(f:A3J):Nat×Fn:=(101,⟨C4i,C4j,fun x=>f x.1 x.2.1⟩)
def D8d:Fn:=(B5v A1D).2
theorem D8e(f_w_eqHeld:A84):∀ x,(B9 cfg [C9l f_w_eqHeld] D8c 27 [.tmp 4] (Tryz.f101.body.getD .skip) C4i C4j).fn x=B4u f_w_eqHeld x.1 x.2.1:=by intro x;kernel_rfl
theorem C4k:B1 Tryz.prog 101 D8d:=sm MO A7 (tc Tryz.call182 E1w A5) Tryz.func101 (by kernel_rfl) (by decide) (D8e A85)
abbrev C1L:List PK:= [.val true (.pair (.pair (.pair (.rs 9 .str) (.rs 9 .str)) (.pair (.int .i64) (.pair (.int .i64) (.rs 109 kUp)))) (.rs 130 A9)) false,.val true (.pair (.pair (.pair (.rs 9 .str) (.rs 9 .str)) (.pair (.int .i64) (.pair (.int .i64) (.rs 109 kUp)))) (.rs 130 A9)) false]
abbrev C1M:List RK:= [.val false .bool]
def C1N(f:A76):Nat×Fn:=(35,⟨C1L,C1M,fun x=>f x.1 x.2.1⟩)
def D5N:Fn:=(C1N A3y).2
theorem D5O(f_w_eqStore:A91)(f_w_eqHeldS:A3J):∀ x,(B9 cfg [C4h f_w_eqStore,B5v f_w_eqHeldS] (B3 []) 17 [.tmp 4] (Tryz.f35.body.getD .skip) C1L C1M).fn x=B2W f_w_eqStore f_w_eqHeldS x.1 x.2.1:=by intro x;kernel_rfl
theorem D5P:B1 Tryz.prog 35 D5N:=sm MO A7 (tc Tryz.call100 D8b (tc Tryz.call101 C4k A5)) Tryz.func35 (by kernel_rfl) (by decide) (D5O A69 A1D)
abbrev C1O:List PK:= [.val true (.pair .str (.pair (.rs 5 (.int .u8)) E8)) false,.val true (.pair .str (.pair (.rs 5 (.int .u8)) E8)) false]
abbrev C1P:List RK:= [.val false .bool]
def C1Q(f:A3z):Nat×Fn:=(211,⟨C1O,C1P,fun x=>f x.1 x.2.1⟩)
def D5Q:Fn:=(C1Q A40).2
theorem D5R(f_w_eqByteS:Z1):∀ x,(B9 cfg [A9h f_w_eqByteS] (B3 []) 26 [.tmp 4] (Tryz.f211.body.getD .skip) C1O C1P).fn x=B2X f_w_eqByteS x.1 x.2.1:=by intro x;kernel_rfl
theorem D5S:B1 Tryz.prog 211 D5Q:=sm MO A7 (tc Tryz.call36 B5u A5) Tryz.func211 (by kernel_rfl) (by decide) (D5R S5)
def D1a:Nat→Option Jn:=B3 [(58,⟨[.t 5 false [.int .i64]],lt 11 16 [],false⟩)]
abbrev B7x:List PK:= [.val false (.rs 79 B2) false,.val false (.rs 79 B2) false]
abbrev B7y:List RK:= [.val false .bool]
def B7z(f:A5X):Nat×Fn:=(126,⟨B7x,B7y,fun x=>f x.1 x.2.1⟩)
def D1b:Fn:=(B7z A21).2
theorem D1c(f_w_eqClient:A3z):∀ x,(B9 cfg [C1Q f_w_eqClient] D1a 27 [.tmp 4] (Tryz.f126.body.getD .skip) B7x B7y).fn x=B0D f_w_eqClient x.1 x.2.1:=by intro x;kernel_rfl
theorem D1d:B1 Tryz.prog 126 D1b:=sm MO A7 (tc Tryz.call211 D5S A5) Tryz.func126 (by kernel_rfl) (by decide) (D1c A40)
def D8f:Nat→Option Jn:=B3 [(58,⟨[.t 5 false [.int .i64]],lt 11 15 [],false⟩)]
abbrev C4l:List PK:= [.val false (.rs 4 .bool) false,.val false (.rs 4 .bool) false]
abbrev C4m:List RK:= [.val false .bool]
def C4n(f:A92):Nat×Fn:=(127,⟨C4l,C4m,fun x=>f x.1 x.2.1⟩)
def D8g:Fn:=(C4n A6A).2
theorem D8h:∀ x,(B9 cfg [] D8f 26 [.tmp 4] (Tryz.f127.body.getD .skip) C4l C4m).fn x=B4v x.1 x.2.1:=by intro x;kernel_rfl
theorem D8i:B1 Tryz.prog 127 D8g:=sm MO A7 A5 Tryz.func127 (by kernel_rfl) (by decide) (D8h)
abbrev D3d:List PK:= [.val true N3 false,.val true N3 false]
abbrev D3e:List RK:= [.val false .bool]
def D3f(f:B6b):Nat×Fn:=(271,⟨D3d,D3e,fun x=>f x.1 x.2.1⟩)
def E4z:Fn:=(D3f B0x).2
theorem E50:∀ x,(B9 cfg [] (B3 []) 20 [.tmp 4] (Tryz.f271.body.getD .skip) D3d D3e).fn x=C2I x.1 x.2.1:=by intro x;kernel_rfl
theorem E51:B1 Tryz.prog 271 E4z:=sm MO A7 A5 Tryz.func271 (by kernel_rfl) (by decide) (E50)
abbrev C9m:List PK:= [.val true (.pair (.int .i64) (.pair N3 (.rs 5 (.int .u8)))) false,.val true (.pair (.int .i64) (.pair N3 (.rs 5 (.int .u8)))) false]
abbrev C9n:List RK:= [.val false .bool]
def C9o(f:A86):Nat×Fn:=(212,⟨C9m,C9n,fun x=>f x.1 x.2.1⟩)
def E1x:Fn:=(C9o A87).2
theorem E1y(f_w_eqByteS:Z1)(f_w_eqReq:B6b):∀ x,(B9 cfg [A9h f_w_eqByteS,D3f f_w_eqReq] (B3 []) 22 [.tmp 4] (Tryz.f212.body.getD .skip) C9m C9n).fn x=B9L f_w_eqByteS f_w_eqReq x.1 x.2.1:=by intro x;kernel_rfl
theorem E1z:B1 Tryz.prog 212 E1x:=sm MO A7 (tc Tryz.call36 B5u (tc Tryz.call271 E51 A5)) Tryz.func212 (by kernel_rfl) (by decide) (E1y S5 B0x)
def D8j:Nat→Option Jn:=B3 [(58,⟨[.t 5 false [.int .i64]],lt 11 16 [],false⟩)]
abbrev C4o:List PK:= [.val false (.rs 113 B8) false,.val false (.rs 113 B8) false]
abbrev C4p:List RK:= [.val false .bool]
def C4q(f:A93):Nat×Fn:=(128,⟨C4o,C4p,fun x=>f x.1 x.2.1⟩)
def D8k:Fn:=(C4q A6B).2
theorem D8l(f_w_eqWant:A86):∀ x,(B9 cfg [C9o f_w_eqWant] D8j 27 [.tmp 4] (Tryz.f128.body.getD .skip) C4o C4p).fn x=B4w f_w_eqWant x.1 x.2.1:=by intro x;kernel_rfl
theorem D8m:B1 Tryz.prog 128 D8k:=sm MO A7 (tc Tryz.call212 E1z A5) Tryz.func128 (by kernel_rfl) (by decide) (D8l A87)
def E20:Nat→Option Jn:=B3 [(58,⟨[.t 5 false [.int .i64]],lt 11 15 [],false⟩)]
abbrev C9p:List PK:= [.val false (.rs 3 (.int .i64)) false,.val false (.rs 3 (.int .i64)) false]
abbrev C9q:List RK:= [.val false .bool]
def C9r(f:B2Z):Nat×Fn:=(129,⟨C9p,C9q,fun x=>f x.1 x.2.1⟩)
def E21:Fn:=(C9r A88).2
theorem E22:∀ x,(B9 cfg [] E20 26 [.tmp 4] (Tryz.f129.body.getD .skip) C9p C9q).fn x=B9M x.1 x.2.1:=by intro x;kernel_rfl
theorem E23:B1 Tryz.prog 129 E21:=sm MO A7 A5 Tryz.func129 (by kernel_rfl) (by decide) (E22)
abbrev C4r:List PK:= [.val true (.pair (.pair (.pair (.pair (.rs 9 .str) (.rs 9 .str)) (.pair (.int .i64) (.pair (.int .i64) (.rs 109 kUp)))) (.rs 130 A9)) (.pair (.rs 79 B2) (.pair (.rs 4 .bool) (.pair (.rs 113 B8) (.pair (.rs 130 A9) (.rs 3 (.int .i64))))))) false,.val true (.pair (.pair (.pair (.pair (.rs 9 .str) (.rs 9 .str)) (.pair (.int .i64) (.pair (.int .i64) (.rs 109 kUp)))) (.rs 130 A9)) (.pair (.rs 79 B2) (.pair (.rs 4 .bool) (.pair (.rs 113 B8) (.pair (.rs 130 A9) (.rs 3 (.int .i64))))))) false]
abbrev C4s:List RK:= [.val false .bool]
def C4t(f:A94):Nat×Fn:=(54,⟨C4r,C4s,fun x=>f x.1 x.2.1⟩)
def D8n:Fn:=(C4t A6C).2
theorem D8o(f_w_eqServer:A76)(f_w_eqHeldS:A3J)(f_w_eqClientS:A5X)(f_w_eqBoolS:A92)(f_w_eqWantS:A93)(f_w_eqIntS:B2Z):∀ x,(B9 cfg [C1N f_w_eqServer,B5v f_w_eqHeldS,B7z f_w_eqClientS,C4n f_w_eqBoolS,C4q f_w_eqWantS,C9r f_w_eqIntS] (B3 []) 41 [.tmp 4] (Tryz.f54.body.getD .skip) C4r C4s).fn x=B4x f_w_eqServer f_w_eqHeldS f_w_eqClientS f_w_eqBoolS f_w_eqWantS f_w_eqIntS x.1 x.2.1:=by intro x;kernel_rfl
theorem D8p:B1 Tryz.prog 54 D8n:=sm MO A7 (tc Tryz.call35 D5P (tc Tryz.call101 C4k (tc Tryz.call126 D1d (tc Tryz.call127 D8i (tc Tryz.call128 D8m (tc Tryz.call129 E23 A5)))))) Tryz.func54 (by kernel_rfl) (by decide) (D8o A3y A1D A21 A6A A6B A88)
def D5T:Nat→Option Jn:=B3 [(15,⟨[.t 3 false [.str]],lt 6 12 [.r 12,.t 0],true⟩),(60,⟨[.t 0 false [.int .i64],.t 3 false [.str]],lt 6 12 [.r 12],false⟩)]
abbrev C1R:List PK:= [.val false (.int .i64) false]
abbrev C1S:List RK:= [.val false .str]
def S2(f:D6):Nat×Fn:=(213,⟨C1R,C1S,fun x=>f x.1⟩)
def D5U:Fn:=(S2 D3).2
theorem D5V:∀ x,(B9 cfg [] D5T 20 [.tmp 2] (Tryz.f213.body.getD .skip) C1R C1S).fn x=B2a x.1:=by intro x;kernel_rfl
theorem W5:B1 Tryz.prog 213 D5U:=sm MO A7 A5 Tryz.func213 (by kernel_rfl) (by decide) (D5V)
def C61:Nat→Option Jn:=B3 [(26,⟨[.t 0 false [.own 1000],.t 1 false [.int .i64],.t 5 false [.int .i64],.r 1000 9 .str],lt 6 13 [.x 16],false⟩)]
abbrev B3h:List PK:= [.val false (.sl 9 .str) true,.val false (.int .i64) false]
abbrev B3i:List RK:= [.val false (.int .i64)]
def B3j(f:A2i):Nat×Fn:=(248,⟨B3h,B3i,fun x=>f x.1 x.2.1⟩)
def C62:Fn:=(B3j U9).2
theorem C63(f_w_markText:D6):∀ x,(B9 cfg [S2 f_w_markText] C61 20 [.tmp 4] (Tryz.f248.body.getD .skip) B3h B3i).fn x=A6i f_w_markText x.1 x.2.1:=by intro x;kernel_rfl
theorem C64:B1 Tryz.prog 248 C62:=sm MO A7 (tc Tryz.call213 W5 A5) Tryz.func248 (by kernel_rfl) (by decide) (C63 D3)
abbrev C1T:List PK:= [.val true A0x true,.val false (.int .i64) false]
abbrev C1U:List RK:= [.val false (.int .i64)]
def C1V(f:A77):Nat×Fn:=(183,⟨C1T,C1U,fun x=>f x.1 x.2.1⟩)
def D5W:Fn:=(C1V A41).2
theorem D5X(f_w_markStringS:A2i):∀ x,(B9 cfg [B3j f_w_markStringS] (B3 []) 14 [.tmp 4] (Tryz.f183.body.getD .skip) C1T C1U).fn x=B2b f_w_markStringS x.1 x.2.1:=by intro x;kernel_rfl
theorem D5Y:B1 Tryz.prog 183 D5W:=sm MO A7 (tc Tryz.call248 C64 A5) Tryz.func183 (by kernel_rfl) (by decide) (D5X U9)
def D1e:Nat→Option Jn:=B3 [(26,⟨[.t 0 false [.own 1000],.t 1 false [.int .i64],.t 5 false [.int .i64],.r 1000 5 (.int .u8)],lt 6 13 [.x 16],false⟩)]
abbrev B80:List PK:= [.val false (.sl 5 (.int .u8)) true,.val false (.int .i64) false]
abbrev B81:List RK:= [.val false (.int .i64)]
def A5s(f:L6):Nat×Fn:=(38,⟨B80,B81,fun x=>f x.1 x.2.1⟩)
def D1f:Fn:=(A5s I2).2
theorem D1g:∀ x,(B9 cfg [] D1e 20 [.tmp 4] (Tryz.f38.body.getD .skip) B80 B81).fn x=B0G x.1 x.2.1:=by intro x;kernel_rfl
theorem B0Y:B1 Tryz.prog 38 D1f:=sm MO A7 A5 Tryz.func38 (by kernel_rfl) (by decide) (D1g)
def D8q:Nat→Option Jn:=B3 [(26,⟨[.t 0 false [.own 1000],.t 1 false [.int .i64],.t 5 false [.int .i64],.r 1000 109 kUp],lt 6 37 [.x 16,.x 23,.x 29,.x 39],false⟩)]
abbrev C4u:List PK:= [.val false (.sl 109 kUp) true,.val false (.int .i64) false]
abbrev C4v:List RK:= [.val false (.int .i64)]
def C4w(f:A95):Nat×Fn:=(184,⟨C4u,C4v,fun x=>f x.1 x.2.1⟩)
def D8r:Fn:=(C4w A96).2
theorem D8s(f_w_markByteS:L6)(f_w_markText:D6):∀ x,(B9 cfg [A5s f_w_markByteS,S2 f_w_markText] D8q 44 [.tmp 4] (Tryz.f184.body.getD .skip) C4u C4v).fn x=C3Y f_w_markByteS f_w_markText x.1 x.2.1:=by intro x;kernel_rfl
theorem D8t:B1 Tryz.prog 184 D8r:=sm MO A7 (tc Tryz.call38 B0Y (tc Tryz.call213 W5 A5)) Tryz.func184 (by kernel_rfl) (by decide) (D8s I2 D3)
abbrev B82:List PK:= [.val true A3g true,.val false (.int .i64) false]
abbrev B83:List RK:= [.val false (.int .i64)]
def B84(f:A5Z):Nat×Fn:=(102,⟨B82,B83,fun x=>f x.1 x.2.1⟩)
def D1h:Fn:=(B84 A22).2
theorem D1i(f_w_markDisk:A77)(f_w_markUpS:A95):∀ x,(B9 cfg [C1V f_w_markDisk,C4w f_w_markUpS] (B3 []) 14 [.tmp 4] (Tryz.f102.body.getD .skip) B82 B83).fn x=B0H f_w_markDisk f_w_markUpS x.1 x.2.1:=by intro x;kernel_rfl
theorem D1j:B1 Tryz.prog 102 D1h:=sm MO A7 (tc Tryz.call183 D5Y (tc Tryz.call184 D8t A5)) Tryz.func102 (by kernel_rfl) (by decide) (D1i A41 A96)
def D1k:Nat→Option Jn:=B3 [(26,⟨[.t 0 false [.own 1000],.t 1 false [.int .i64],.t 5 false [.int .i64],.r 1000 130 A9],lt 6 29 [.x 15,.x 22,.x 30],false⟩)]
abbrev B85:List PK:= [.val false (.sl 130 A9) true,.val false (.int .i64) false]
abbrev B86:List RK:= [.val false (.int .i64)]
def B0Z(f:A0V):Nat×Fn:=(103,⟨B85,B86,fun x=>f x.1 x.2.1⟩)
def D1l:Fn:=(B0Z A0W).2
theorem D1m:∀ x,(B9 cfg [] D1k 36 [.tmp 4] (Tryz.f103.body.getD .skip) B85 B86).fn x=B7A x.1 x.2.1:=by intro x;kernel_rfl
theorem B87:B1 Tryz.prog 103 D1l:=sm MO A7 A5 Tryz.func103 (by kernel_rfl) (by decide) (D1m)
abbrev B5w:List PK:= [.val true A1Z true,.val false (.int .i64) false]
abbrev B5x:List RK:= [.val false (.int .i64)]
def B5y(f:A42):Nat×Fn:=(37,⟨B5w,B5x,fun x=>f x.1 x.2.1⟩)
def C9s:Fn:=(B5y A1E).2
theorem C9t(f_w_markStore:A5Z)(f_w_markHeldS:A0V):∀ x,(B9 cfg [B84 f_w_markStore,B0Z f_w_markHeldS] (B3 []) 14 [.tmp 4] (Tryz.f37.body.getD .skip) B5w B5x).fn x=A8A f_w_markStore f_w_markHeldS x.1 x.2.1:=by intro x;kernel_rfl
theorem C9u:B1 Tryz.prog 37 C9s:=sm MO A7 (tc Tryz.call102 D1j (tc Tryz.call103 B87 A5)) Tryz.func37 (by kernel_rfl) (by decide) (C9t A22 A0W)
def C65:Nat→Option Jn:=B3 [(26,⟨[.t 0 false [.own 1000],.t 1 false [.int .i64],.t 5 false [.int .i64],.r 1000 79 B2],lt 6 35 [.x 16,.x 22,.x 30,.x 37],false⟩)]
abbrev B3k:List PK:= [.val false (.sl 79 B2) true,.val false (.int .i64) false]
abbrev B3l:List RK:= [.val false (.int .i64)]
def B3m(f:A2l):Nat×Fn:=(130,⟨B3k,B3l,fun x=>f x.1 x.2.1⟩)
def C66:Fn:=(B3m A2m).2
theorem C67(f_w_markByteS:L6)(f_w_markText:D6):∀ x,(B9 cfg [A5s f_w_markByteS,S2 f_w_markText] C65 42 [.tmp 4] (Tryz.f130.body.getD .skip) B3k B3l).fn x=B3F f_w_markByteS f_w_markText x.1 x.2.1:=by intro x;kernel_rfl
theorem C68:B1 Tryz.prog 130 C66:=sm MO A7 (tc Tryz.call38 B0Y (tc Tryz.call213 W5 A5)) Tryz.func130 (by kernel_rfl) (by decide) (C67 I2 D3)
def D1n:Nat→Option Jn:=B3 [(26,⟨[.t 0 false [.own 1000],.t 1 false [.int .i64],.t 5 false [.int .i64],.r 1000 4 .bool],lt 6 14 [.x 17],false⟩)]
abbrev B88:List PK:= [.val false (.sl 4 .bool) true,.val false (.int .i64) false]
abbrev B89:List RK:= [.val false (.int .i64)]
def B8A(f:A5a):Nat×Fn:=(131,⟨B88,B89,fun x=>f x.1 x.2.1⟩)
def D1o:Fn:=(B8A A5b).2
theorem D1p:∀ x,(B9 cfg [] D1n 21 [.tmp 4] (Tryz.f131.body.getD .skip) B88 B89).fn x=B7B x.1 x.2.1:=by intro x;kernel_rfl
theorem D1q:B1 Tryz.prog 131 D1o:=sm MO A7 A5 Tryz.func131 (by kernel_rfl) (by decide) (D1p)
def D1r:Nat→Option Jn:=B3 [(26,⟨[.t 0 false [.own 1000],.t 1 false [.int .i64],.t 5 false [.int .i64],.r 1000 113 B8],lt 6 45 [.x 15,.x 22,.x 31,.x 39,.x 46],false⟩)]
abbrev B8B:List PK:= [.val false (.sl 113 B8) true,.val false (.int .i64) false]
abbrev B8C:List RK:= [.val false (.int .i64)]
def B8D(f:A5c):Nat×Fn:=(132,⟨B8B,B8C,fun x=>f x.1 x.2.1⟩)
def D1s:Fn:=(B8D A5d).2
theorem D1t(f_w_markByteS:L6)(f_w_markText:D6):∀ x,(B9 cfg [A5s f_w_markByteS,S2 f_w_markText] D1r 52 [.tmp 4] (Tryz.f132.body.getD .skip) B8B B8C).fn x=B7C f_w_markByteS f_w_markText x.1 x.2.1:=by intro x;kernel_rfl
theorem D1u:B1 Tryz.prog 132 D1s:=sm MO A7 (tc Tryz.call38 B0Y (tc Tryz.call213 W5 A5)) Tryz.func132 (by kernel_rfl) (by decide) (D1t I2 D3)
def D5Z:Nat→Option Jn:=B3 [(26,⟨[.t 0 false [.own 1000],.t 1 false [.int .i64],.t 5 false [.int .i64],.r 1000 3 (.int .i64)],lt 6 12 [.x 15],false⟩)]
abbrev C1W:List PK:= [.val false (.sl 3 (.int .i64)) true,.val false (.int .i64) false]
abbrev C1X:List RK:= [.val false (.int .i64)]
def C1Y(f:A78):Nat×Fn:=(133,⟨C1W,C1X,fun x=>f x.1 x.2.1⟩)
def D5a:Fn:=(C1Y A79).2
theorem D5b:∀ x,(B9 cfg [] D5Z 19 [.tmp 4] (Tryz.f133.body.getD .skip) C1W C1X).fn x=C0G x.1 x.2.1:=by intro x;kernel_rfl
theorem D5c:B1 Tryz.prog 133 D5a:=sm MO A7 A5 Tryz.func133 (by kernel_rfl) (by decide) (D5b)
abbrev B8E:List PK:= [.val true Z8 true,.val false (.int .i64) false]
abbrev B8F:List RK:= [.val false (.int .i64)]
def B8G(f:A5e):Nat×Fn:=(55,⟨B8E,B8F,fun x=>f x.1 x.2.1⟩)
def D1v:Fn:=(B8G A23).2
theorem D1w(f_w_markServer:A42)(f_w_markHeldS:A0V)(f_w_markClientS:A2l)(f_w_markBoolS:A5a)(f_w_markWantS:A5c)(f_w_markIntS:A78):∀ x,(B9 cfg [B5y f_w_markServer,B0Z f_w_markHeldS,B3m f_w_markClientS,B8A f_w_markBoolS,B8D f_w_markWantS,C1Y f_w_markIntS] (B3 []) 30 [.tmp 4] (Tryz.f55.body.getD .skip) B8E B8F).fn x=B0I f_w_markServer f_w_markHeldS f_w_markClientS f_w_markBoolS f_w_markWantS f_w_markIntS x.1 x.2.1:=by intro x;kernel_rfl
theorem D1x:B1 Tryz.prog 55 D1v:=sm MO A7 (tc Tryz.call37 C9u (tc Tryz.call103 B87 (tc Tryz.call130 C68 (tc Tryz.call131 D1q (tc Tryz.call132 D1u (tc Tryz.call133 D5c A5)))))) Tryz.func55 (by kernel_rfl) (by decide) (D1w A1E A0W A2m A5b A5d A79)
def C69:Nat→Option Jn:=B3 [(26,⟨[.t 1 false [.int .i64],.t 5 false [.int .i64]],lt 6 15 [],false⟩)]
abbrev B3n:List PK:= [.val false (.rs 9 .str) false,.val false (.int .i64) false]
abbrev B3o:List RK:= [.val false (.int .i64)]
def B3p(f:A2p):Nat×Fn:=(249,⟨B3n,B3o,fun x=>f x.1 x.2.1⟩)
def C6A:Fn:=(B3p V0).2
theorem C6B(f_w_markText:D6):∀ x,(B9 cfg [S2 f_w_markText] C69 22 [.tmp 4] (Tryz.f249.body.getD .skip) B3n B3o).fn x=A6j f_w_markText x.1 x.2.1:=by intro x;kernel_rfl
theorem C6C:B1 Tryz.prog 249 C6A:=sm MO A7 (tc Tryz.call213 W5 A5) Tryz.func249 (by kernel_rfl) (by decide) (C6B D3)
abbrev C1Z:List PK:= [.val true (.pair (.rs 9 .str) (.rs 9 .str)) false,.val false (.int .i64) false]
abbrev C1a:List RK:= [.val false (.int .i64)]
def C1b(f:A7A):Nat×Fn:=(185,⟨C1Z,C1a,fun x=>f x.1 x.2.1⟩)
def D5d:Fn:=(C1b A44).2
theorem D5e(f_w_heldStringS:A2p):∀ x,(B9 cfg [B3p f_w_heldStringS] (B3 []) 18 [.tmp 4] (Tryz.f185.body.getD .skip) C1Z C1a).fn x=B2c f_w_heldStringS x.1 x.2.1:=by intro x;kernel_rfl
theorem D5f:B1 Tryz.prog 185 D5d:=sm MO A7 (tc Tryz.call249 C6C A5) Tryz.func185 (by kernel_rfl) (by decide) (D5e V0)
def D1y:Nat→Option Jn:=B3 [(26,⟨[.t 1 false [.int .i64],.t 5 false [.int .i64]],lt 6 15 [],false⟩)]
abbrev B8H:List PK:= [.val false (.rs 5 (.int .u8)) false,.val false (.int .i64) false]
abbrev B8I:List RK:= [.val false (.int .i64)]
def A5t(f:L7):Nat×Fn:=(214,⟨B8H,B8I,fun x=>f x.1 x.2.1⟩)
def D1z:Fn:=(A5t I3).2
theorem D20:∀ x,(B9 cfg [] D1y 22 [.tmp 4] (Tryz.f214.body.getD .skip) B8H B8I).fn x=B0J x.1 x.2.1:=by intro x;kernel_rfl
theorem B0a:B1 Tryz.prog 214 D1z:=sm MO A7 A5 Tryz.func214 (by kernel_rfl) (by decide) (D20)
def D8u:Nat→Option Jn:=B3 [(26,⟨[.t 1 false [.int .i64],.t 5 false [.int .i64]],lt 6 45 [],false⟩)]
abbrev C4x:List PK:= [.val false (.rs 109 kUp) false,.val false (.int .i64) false]
abbrev C4y:List RK:= [.val false (.int .i64)]
def C4z(f:A97):Nat×Fn:=(186,⟨C4x,C4y,fun x=>f x.1 x.2.1⟩)
def D8v:Fn:=(C4z A98).2
theorem D8w(f_w_markText:D6)(f_w_heldByteS:L7):∀ x,(B9 cfg [S2 f_w_markText,A5t f_w_heldByteS] D8u 52 [.tmp 4] (Tryz.f186.body.getD .skip) C4x C4y).fn x=C3Z f_w_markText f_w_heldByteS x.1 x.2.1:=by intro x;kernel_rfl
theorem D8x:B1 Tryz.prog 186 D8v:=sm MO A7 (tc Tryz.call213 W5 (tc Tryz.call214 B0a A5)) Tryz.func186 (by kernel_rfl) (by decide) (D8w D3 I3)
abbrev B8J:List PK:= [.val true (.pair (.pair (.rs 9 .str) (.rs 9 .str)) (.pair (.int .i64) (.pair (.int .i64) (.rs 109 kUp)))) false,.val false (.int .i64) false]
abbrev B8K:List RK:= [.val false (.int .i64)]
def B8L(f:A5g):Nat×Fn:=(104,⟨B8J,B8K,fun x=>f x.1 x.2.1⟩)
def D21:Fn:=(B8L A24).2
theorem D22(f_w_heldDisk:A7A)(f_w_heldUpS:A97):∀ x,(B9 cfg [C1b f_w_heldDisk,C4z f_w_heldUpS] (B3 []) 18 [.tmp 4] (Tryz.f104.body.getD .skip) B8J B8K).fn x=B0K f_w_heldDisk f_w_heldUpS x.1 x.2.1:=by intro x;kernel_rfl
theorem D23:B1 Tryz.prog 104 D21:=sm MO A7 (tc Tryz.call185 D5f (tc Tryz.call186 D8x A5)) Tryz.func104 (by kernel_rfl) (by decide) (D22 A44 A98)
def D24:Nat→Option Jn:=B3 [(26,⟨[.t 1 false [.int .i64],.t 5 false [.int .i64]],lt 6 35 [],false⟩)]
abbrev B8M:List PK:= [.val false (.rs 130 A9) false,.val false (.int .i64) false]
abbrev B8N:List RK:= [.val false (.int .i64)]
def B0b(f:A0X):Nat×Fn:=(105,⟨B8M,B8N,fun x=>f x.1 x.2.1⟩)
def D25:Fn:=(B0b A0Y).2
theorem D26:∀ x,(B9 cfg [] D24 42 [.tmp 4] (Tryz.f105.body.getD .skip) B8M B8N).fn x=B7D x.1 x.2.1:=by intro x;kernel_rfl
theorem B8O:B1 Tryz.prog 105 D25:=sm MO A7 A5 Tryz.func105 (by kernel_rfl) (by decide) (D26)
abbrev B5z:List PK:= [.val true (.pair (.pair (.pair (.rs 9 .str) (.rs 9 .str)) (.pair (.int .i64) (.pair (.int .i64) (.rs 109 kUp)))) (.rs 130 A9)) false,.val false (.int .i64) false]
abbrev B60:List RK:= [.val false (.int .i64)]
def B61(f:A45):Nat×Fn:=(39,⟨B5z,B60,fun x=>f x.1 x.2.1⟩)
def C9v:Fn:=(B61 A1F).2
theorem C9w(f_w_heldStore:A5g)(f_w_heldHeldS:A0X):∀ x,(B9 cfg [B8L f_w_heldStore,B0b f_w_heldHeldS] (B3 []) 18 [.tmp 4] (Tryz.f39.body.getD .skip) B5z B60).fn x=A8B f_w_heldStore f_w_heldHeldS x.1 x.2.1:=by intro x;kernel_rfl
theorem C9x:B1 Tryz.prog 39 C9v:=sm MO A7 (tc Tryz.call104 D23 (tc Tryz.call105 B8O A5)) Tryz.func39 (by kernel_rfl) (by decide) (C9w A24 A0Y)
def C6D:Nat→Option Jn:=B3 [(26,⟨[.t 1 false [.int .i64],.t 5 false [.int .i64]],lt 6 43 [],false⟩)]
abbrev B3q:List PK:= [.val false (.rs 79 B2) false,.val false (.int .i64) false]
abbrev B3r:List RK:= [.val false (.int .i64)]
def B3s(f:A2s):Nat×Fn:=(134,⟨B3q,B3r,fun x=>f x.1 x.2.1⟩)
def C6E:Fn:=(B3s A2t).2
theorem C6F(f_w_markText:D6)(f_w_heldByteS:L7):∀ x,(B9 cfg [S2 f_w_markText,A5t f_w_heldByteS] C6D 50 [.tmp 4] (Tryz.f134.body.getD .skip) B3q B3r).fn x=B3G f_w_markText f_w_heldByteS x.1 x.2.1:=by intro x;kernel_rfl
theorem C6G:B1 Tryz.prog 134 C6E:=sm MO A7 (tc Tryz.call213 W5 (tc Tryz.call214 B0a A5)) Tryz.func134 (by kernel_rfl) (by decide) (C6F D3 I3)
def D27:Nat→Option Jn:=B3 [(26,⟨[.t 1 false [.int .i64],.t 5 false [.int .i64]],lt 6 16 [],false⟩)]
abbrev B8P:List PK:= [.val false (.rs 4 .bool) false,.val false (.int .i64) false]
abbrev B8Q:List RK:= [.val false (.int .i64)]
def B8R(f:A5h):Nat×Fn:=(135,⟨B8P,B8Q,fun x=>f x.1 x.2.1⟩)
def D28:Fn:=(B8R A5i).2
theorem D29:∀ x,(B9 cfg [] D27 23 [.tmp 4] (Tryz.f135.body.getD .skip) B8P B8Q).fn x=B7E x.1 x.2.1:=by intro x;kernel_rfl
theorem D2A:B1 Tryz.prog 135 D28:=sm MO A7 A5 Tryz.func135 (by kernel_rfl) (by decide) (D29)
def D2B:Nat→Option Jn:=B3 [(26,⟨[.t 1 false [.int .i64],.t 5 false [.int .i64]],lt 6 55 [],false⟩)]
abbrev B8S:List PK:= [.val false (.rs 113 B8) false,.val false (.int .i64) false]
abbrev B8T:List RK:= [.val false (.int .i64)]
def B8U(f:A5j):Nat×Fn:=(136,⟨B8S,B8T,fun x=>f x.1 x.2.1⟩)
def D2C:Fn:=(B8U A5k).2
theorem D2D(f_w_markText:D6)(f_w_heldByteS:L7):∀ x,(B9 cfg [S2 f_w_markText,A5t f_w_heldByteS] D2B 62 [.tmp 4] (Tryz.f136.body.getD .skip) B8S B8T).fn x=B7F f_w_markText f_w_heldByteS x.1 x.2.1:=by intro x;kernel_rfl
theorem D2E:B1 Tryz.prog 136 D2C:=sm MO A7 (tc Tryz.call213 W5 (tc Tryz.call214 B0a A5)) Tryz.func136 (by kernel_rfl) (by decide) (D2D D3 I3)
def D5g:Nat→Option Jn:=B3 [(26,⟨[.t 1 false [.int .i64],.t 5 false [.int .i64]],lt 6 14 [],false⟩)]
abbrev C1c:List PK:= [.val false (.rs 3 (.int .i64)) false,.val false (.int .i64) false]
abbrev C1d:List RK:= [.val false (.int .i64)]
def C1e(f:A7B):Nat×Fn:=(137,⟨C1c,C1d,fun x=>f x.1 x.2.1⟩)
def D5h:Fn:=(C1e A7C).2
theorem D5i:∀ x,(B9 cfg [] D5g 21 [.tmp 4] (Tryz.f137.body.getD .skip) C1c C1d).fn x=C0H x.1 x.2.1:=by intro x;kernel_rfl
theorem D5j:B1 Tryz.prog 137 D5h:=sm MO A7 A5 Tryz.func137 (by kernel_rfl) (by decide) (D5i)
abbrev B8V:List PK:= [.val true (.pair (.pair (.pair (.pair (.rs 9 .str) (.rs 9 .str)) (.pair (.int .i64) (.pair (.int .i64) (.rs 109 kUp)))) (.rs 130 A9)) (.pair (.rs 79 B2) (.pair (.rs 4 .bool) (.pair (.rs 113 B8) (.pair (.rs 130 A9) (.rs 3 (.int .i64))))))) false,.val false (.int .i64) false]
abbrev B8W:List RK:= [.val false (.int .i64)]
def B8X(f:A5l):Nat×Fn:=(56,⟨B8V,B8W,fun x=>f x.1 x.2.1⟩)
def D2F:Fn:=(B8X A25).2
theorem D2G(f_w_heldServer:A45)(f_w_heldHeldS:A0X)(f_w_heldClientS:A2s)(f_w_heldBoolS:A5h)(f_w_heldWantS:A5j)(f_w_heldIntS:A7B):∀ x,(B9 cfg [B61 f_w_heldServer,B0b f_w_heldHeldS,B3s f_w_heldClientS,B8R f_w_heldBoolS,B8U f_w_heldWantS,C1e f_w_heldIntS] (B3 []) 42 [.tmp 4] (Tryz.f56.body.getD .skip) B8V B8W).fn x=B0L f_w_heldServer f_w_heldHeldS f_w_heldClientS f_w_heldBoolS f_w_heldWantS f_w_heldIntS x.1 x.2.1:=by intro x;kernel_rfl
theorem D2H:B1 Tryz.prog 56 D2F:=sm MO A7 (tc Tryz.call39 C9x (tc Tryz.call105 B8O (tc Tryz.call134 C6G (tc Tryz.call135 D2A (tc Tryz.call136 D2E (tc Tryz.call137 D5j A5)))))) Tryz.func56 (by kernel_rfl) (by decide) (D2G A1F A0Y A2t A5i A5k A7C)
abbrev D8y:List PK:= [.val false (.int .i64) false,.val false (.int .i64) false,.val false (.int .i64) false]
abbrev D8z:List RK:= [.val false .bool]
def Q4(f:F0):Nat×Fn:=(120,⟨D8y,D8z,fun x=>f x.1 x.2.1 x.2.2.1⟩)
def E7K:Fn:=(Q4 E4).2
theorem E7L:∀ x,(B9 cfg [] (B3 []) 15 [.tmp 6] (Tryz.f120.body.getD .skip) D8y D8z).fn x=C7S x.1 x.2.1 x.2.2.1:=by intro x;kernel_rfl
theorem R5:B1 Tryz.prog 120 E7K:=sm MO A7 A5 Tryz.func120 (by kernel_rfl) (by decide) (E7L)
abbrev C9y:List PK:= [.val true E8 false]
abbrev C9z:List RK:= [.val false .bool]
def B9n(f:A1G):Nat×Fn:=(158,⟨C9y,C9z,fun x=>f x.1⟩)
def E24:Fn:=(B9n T5).2
theorem E25(f_s_l1In:F0):∀ x,(B9 cfg [Q4 f_s_l1In] (B3 []) 11 [.tmp 2] (Tryz.f158.body.getD .skip) C9y C9z).fn x=B9N f_s_l1In x.1:=by intro x;kernel_rfl
theorem D00:B1 Tryz.prog 158 E24:=sm MO A7 (tc Tryz.call120 R5 A5) Tryz.func158 (by kernel_rfl) (by decide) (E25 E4)
def E26:Nat→Option Jn:=B3 [(3,⟨[],lt 4 13 [],false⟩),(58,⟨[.t 3 false [.int .i64]],lt 17 23 [],false⟩)]
abbrev D01:List PK:= [.val true (.pair (.rs 9 .str) (.rs 9 .str)) false]
abbrev D02:List RK:= [.val false .bool]
def D03(f:B2d):Nat×Fn:=(231,⟨D01,D02,fun x=>f x.1⟩)
def E27:Fn:=(D03 A1H).2
theorem E28:∀ x,(B9 cfg [] E26 40 [.tmp 2] (Tryz.f231.body.getD .skip) D01 D02).fn x=B2e x.1:=by intro x;kernel_rfl
theorem E29:B1 Tryz.prog 231 E27:=sm MO A7 A5 Tryz.func231 (by kernel_rfl) (by decide) (E28)
def E2A:Nat→Option Jn:=B3 [(3,⟨[],lt 10 15 [],false⟩),(15,⟨[.t 8 false [.int .i64]],lt 25 15 [.t 9],true⟩),(122,⟨[.t 8 false [.int .i64],.t 9 false [.int .i64]],lt 25 15 [],false⟩)]
abbrev D04:List PK:= [.val false (.rs 5 (.int .u8)) false,.val false (.int .i64) false,.val false (.int .i64) false]
abbrev D05:List RK:= [.val false (.int .i64),.val false .bool]
def D06(f:B2f):Nat×Fn:=(282,⟨D04,D05,fun x=>f x.1 x.2.1 x.2.2.1⟩)
def E2B:Fn:=(D06 A4w).2
theorem E2C(f_s_l1In:F0):∀ x,(B9 cfg [Q4 f_s_l1In] E2A 41 [.tmp 6,.tmp 7] (Tryz.f282.body.getD .skip) D04 D05).fn x=B9O f_s_l1In x.1 x.2.1 x.2.2.1:=by intro x;kernel_rfl
theorem E2D:B1 Tryz.prog 282 E2B:=sm MO A7 (tc Tryz.call120 R5 A5) Tryz.func282 (by kernel_rfl) (by decide) (E2C E4)
def E52:Nat→Option Jn:=B3 [(3,⟨[],lt 3 21 [],false⟩),(26,⟨[.t 3 false [.int .i64]],lt 4 20 [],false⟩)]
abbrev D3g:List PK:= [.val false .str false]
abbrev D3h:List RK:= [.val false .bool]
def A3Q(f:O2):Nat×Fn:=(160,⟨D3g,D3h,fun x=>f x.1⟩)
def E53:Fn:=(A3Q M7).2
theorem E54(f_s_l1In:F0):∀ x,(B9 cfg [Q4 f_s_l1In] E52 27 [.tmp 2] (Tryz.f160.body.getD .skip) D3g D3h).fn x=C2J f_s_l1In x.1:=by intro x;kernel_rfl
theorem A5B:B1 Tryz.prog 160 E53:=sm MO A7 (tc Tryz.call120 R5 A5) Tryz.func160 (by kernel_rfl) (by decide) (E54 E4)
def E55:Nat→Option Jn:=B3 [(3,⟨[],lt 3 16 [],false⟩),(943,⟨[.t 43 false [.bool]],[.t 44,.t 45],true⟩)]
abbrev D3i:List PK:= [.val true (.pair (.int .i64) (.pair (.int .i64) (.pair (.int .i64) (.pair .str (.pair (.int .i64) (.rs 5 (.int .u8))))))) false]
abbrev D3j:List RK:= [.val false .bool]
def D3k(f:B6c):Nat×Fn:=(283,⟨D3i,D3j,fun x=>f x.1⟩)
def E56:Fn:=(D3k B0y).2
theorem E57(f_s_l1In:F0)(f_s_l11Id:O2):∀ x,(B9 cfg [Q4 f_s_l1In,A3Q f_s_l11Id] E55 55 [.tmp 2] (Tryz.f283.body.getD .skip) D3i D3j).fn x=C2K f_s_l1In f_s_l11Id x.1:=by intro x;kernel_rfl
theorem E58:B1 Tryz.prog 283 E56:=sm MO A7 (tc Tryz.call120 R5 (tc Tryz.call160 A5B A5)) Tryz.func283 (by kernel_rfl) (by decide) (E57 E4 M7)
def E8Z:Nat→Option Jn:=B3 [(7,⟨[.t 3 false [.int .i64]],lt 4 28 [],true⟩),(58,⟨[.t 3 false [.int .i64],.t 4 false [.int .i64]],lt 5 27 [],false⟩),(7462,⟨[.t 3 false [.int .i64],.t 5 false [.int .i64]],lt 20 12 [.t 6],false⟩)]
abbrev E3H:List PK:= [.val false (.rs 5 (.int .u8)) false]
abbrev E3I:List RK:= [.val false (.int .i64)]
def C6g(f:A9A):Nat×Fn:=(152,⟨E3H,E3I,fun x=>f x.1⟩)
def E8a:Fn:=(C6g A7D).2
theorem E8b:∀ x,(B9 cfg [] E8Z 34 [.tmp 2] (Tryz.f152.body.getD .skip) E3H E3I).fn x=D4C x.1:=by intro x;kernel_rfl
theorem D5k:B1 Tryz.prog 152 E8a:=sm MO A7 A5 Tryz.func152 (by kernel_rfl) (by decide) (E8b)
def E2E:Nat→Option Jn:=B3 [(7,⟨[.t 1 false [.int .i64]],[.t 12,.t 13],true⟩),(250,⟨[.t 7 false [.own 100001000],.t 8 false [.int .i64],.r 100001000 5 (.int .u8)],lt 20 13 [.r 11,.r 31,.r 32],false⟩)]
abbrev D07:List PK:= [.val false (.rs 5 (.int .u8)) false,.val false (.int .i64) false,.val false (.int .i64) false]
abbrev D08:List RK:= [.val false (.sl 5 (.int .u8))]
def D09(f:B2g):Nat×Fn:=(306,⟨D07,D08,fun x=>f x.1 x.2.1 x.2.2.1⟩)
def E2F:Fn:=(D09 A8C).2
theorem E2G(f_s_l1In:F0):∀ x,(B9 cfg [Q4 f_s_l1In] E2E 34 [.tmp 6] (Tryz.f306.body.getD .skip) D07 D08).fn x=B9P f_s_l1In x.1 x.2.1 x.2.2.1:=by intro x;kernel_rfl
theorem E2H:B1 Tryz.prog 306 E2F:=sm MO A7 (tc Tryz.call120 R5 A5) Tryz.func306 (by kernel_rfl) (by decide) (E2G E4)
abbrev D0A:List PK:= [.val true (.pair (.int .i64) (.pair (.int .i64) (.pair (.int .i64) (.pair .str (.pair (.int .i64) (.rs 5 (.int .u8))))))) false]
abbrev D0B:List RK:= [.val false .str]
def B9o(f:A4x):Nat×Fn:=(284,⟨D0A,D0B,fun x=>f x.1⟩)
def E2I:Fn:=(B9o A34).2
theorem E2J(f_s_Crc:A9A)(f_s_PutBig:B2g):∀ x,(B9 cfg [C6g f_s_Crc,D09 f_s_PutBig] (B3 []) 38 [.tmp 2] (Tryz.f284.body.getD .skip) D0A D0B).fn x=B9Q f_s_Crc f_s_PutBig x.1:=by intro x;kernel_rfl
theorem D0C:B1 Tryz.prog 284 E2I:=sm MO A7 (tc Tryz.call152 D5k (tc Tryz.call306 E2H A5)) Tryz.func284 (by kernel_rfl) (by decide) (E2J A7D A8C)
def E2K:Nat→Option Jn:=B3 [(255,⟨[],lt 42 21 [],false⟩),(4095,⟨[],lt 87 15 [],false⟩)]
abbrev D0D:List PK:= [.val false .str false]
abbrev D0E:List RK:= [.val true A6y,.val false .bool]
def B9p(f:A1I):Nat×Fn:=(235,⟨D0D,D0E,fun x=>f x.1⟩)
def E2L:Fn:=(B9p N8).2
theorem E2M(f_s_GetBig:B2f)(f_s_RecOk:B6c)(f_s_l13Put:A4x):∀ x,(B9 cfg [D06 f_s_GetBig,D3k f_s_RecOk,B9o f_s_l13Put] E2K 127 [.cell 2 194,.tmp 3] (Tryz.f235.body.getD .skip) D0D D0E).fn x=B9R f_s_GetBig f_s_RecOk f_s_l13Put x.1:=by intro x;kernel_rfl
theorem D0F:B1 Tryz.prog 235 E2L:=sm MO A7 (tc Tryz.call282 E2D (tc Tryz.call283 E58 (tc Tryz.call284 D0C A5))) Tryz.func235 (by kernel_rfl) (by decide) (E2M A4w B0y A34)
def D5l:Nat→Option Jn:=B3 [(122,⟨[.t 3 false [.own 100000000],.t 4 false [.int .i64],.t 5 false [.int .i64],.r 100000000 194 A6y],lt 40 6 (lt 9 30 [.b 6,.r 8,.r 42,.r 43,.r 94213,.t 6,.t 7]),false⟩)]
abbrev C1f:List PK:= [.val true (.pair (.rs 9 .str) (.rs 9 .str)) false]
abbrev C1g:List RK:= [.val false (.sl 194 A6y)]
def C1h(f:A7E):Nat×Fn:=(232,⟨C1f,C1g,fun x=>f x.1⟩)
def D5m:Fn:=(C1h A1j).2
theorem D5n(f_s_GetRec:A1I):∀ x,(B9 cfg [B9p f_s_GetRec] D5l 47 [.tmp 2] (Tryz.f232.body.getD .skip) C1f C1g).fn x=C0I f_s_GetRec x.1:=by intro x;kernel_rfl
theorem D5o:B1 Tryz.prog 232 D5m:=sm MO A7 (tc Tryz.call235 D0F A5) Tryz.func232 (by kernel_rfl) (by decide) (D5n N8)
def E59:Nat→Option Jn:=B3 [(26,⟨[.t 5 false [.int .i64]],lt 6 13 [],false⟩)]
abbrev D3l:List PK:= [.val false (.rs 109 kUp) false,.val false .str false]
abbrev D3m:List RK:= [.val false (.int .i64)]
def A5C(f:Q5):Nat×Fn:=(206,⟨D3l,D3m,fun x=>f x.1 x.2.1⟩)
def E5A:Fn:=(A5C O3).2
theorem E5B:∀ x,(B9 cfg [] E59 20 [.tmp 4] (Tryz.f206.body.getD .skip) D3l D3m).fn x=C2L x.1 x.2.1:=by intro x;kernel_rfl
theorem A7S:B1 Tryz.prog 206 E5A:=sm MO A7 A5 Tryz.func206 (by kernel_rfl) (by decide) (E5B)
def D0G:Nat→Option Jn:=B3 [(58,⟨[.t 3 false [.own 100000000],.t 4 false [.int .i64],.r 100000000 109 kUp],lt 7 19 [.b 5,.r 6,.r 17,.r 20,.r 24,.r 25,.t 5],false⟩)]
abbrev B62:List PK:= [.val false (.rs 109 kUp) false]
abbrev B63:List RK:= [.val false (.sl 109 kUp)]
def A8V(f:L8):Nat×Fn:=(230,⟨B62,B63,fun x=>f x.1⟩)
def D0H:Fn:=(A8V K2).2
theorem D0I:∀ x,(B9 cfg [] D0G 27 [.tmp 2] (Tryz.f230.body.getD .skip) B62 B63).fn x=A48 x.1:=by intro x;kernel_rfl
theorem B64:B1 Tryz.prog 230 D0H:=sm MO A7 A5 Tryz.func230 (by kernel_rfl) (by decide) (D0I)
def A8W:Nat→Option Jn:=B3 [(58,⟨[.t 3 false [.own 100000000],.t 4 false [.int .i64],.r 100000000 109 (.pair .str (.pair (.int .i64) (.pair (.rs 5 (.int .u8)) .bool)))],lt 7 19 [.b 5,.r 6,.r 17,.r 20,.r 24,.r 25,.t 5],false⟩)]
abbrev A1Q:List PK:= [.val false (.rs 109 kUp) false]
abbrev A1R:List RK:= [.val false (.sl 109 (.pair .str (.pair (.int .i64) (.pair (.rs 5 (.int .u8)) .bool))))]
def U1(f:L8):Nat×Fn:=(230,⟨A1Q,A1R,fun x=>f x.1⟩)
def A8X:Fn:=(U1 K2).2
theorem A8Y:∀ x,(B9 C8D [] A8W 27 [.tmp 2] (Tryz.f230.body.getD .skip) A1Q A1R).fn x=A48 x.1:=by intro x;kernel_rfl
theorem A1S:B1 Tryz.prog 230 A8X:=sm MO A5r A5 Tryz.func230 (by kernel_rfl) (by decide) (A8Y)
def B1M:Nat→Option Jn:=B3 [(15,⟨[.t 5 false [.own 11],.t 6 false [.int .i64],.r 11 109 (.pair .str (.pair (.int .i64) (.pair (.rs 5 (.int .u8)) .bool)))],lt 15 23 [.x 21,.x 33,.x 35],true⟩),(60,⟨[.t 5 false [.own 11],.t 6 false [.int .i64],.r 11 109 (.pair .str (.pair (.int .i64) (.pair (.rs 5 (.int .u8)) .bool)))],lt 15 23 [.x 21,.x 33,.x 35],false⟩),(120,⟨[],lt 15 13 [.x 21],false⟩)]
abbrev A3R:List PK:= [.val false (.rs 109 kUp) false,.val true (.pair .str (.pair (.int .i64) (.pair (.rs 5 (.int .u8)) .bool))) false]
abbrev A3S:List RK:= [.val false (.sl 109 (.pair .str (.pair (.int .i64) (.pair (.rs 5 (.int .u8)) .bool))))]
def A3T(f:Q6):Nat×Fn:=(305,⟨A3R,A3S,fun x=>f x.1 x.2.1⟩)
def B1N:Fn:=(A3T M8).2
theorem B1O(f_s_l14CopyUps:L8):∀ x,(B9 C8D [U1 f_s_l14CopyUps] B1M 43 [.tmp 4] (Tryz.f305.body.getD .skip) A3R A3S).fn x=Y1 f_s_l14CopyUps x.1 x.2.1:=by intro x;kernel_rfl
theorem B1P:B1 Tryz.prog 305 B1N:=sm MO A5r (tc Tryz.call230 A1S A5) Tryz.func305 (by kernel_rfl) (by decide) (B1O K2)
def C31:Nat→Option Jn:=B3 [(4074,⟨[],lt 43 27 [],false⟩)]
abbrev B1Q:List PK:= [.val false (.rs 109 kUp) false,.val true (.pair (.int .i64) (.pair (.int .i64) (.pair (.int .i64) (.pair .str (.pair (.int .i64) (.rs 5 (.int .u8))))))) false]
abbrev B1R:List RK:= [.val false (.rs 109 (.pair .str (.pair (.int .i64) (.pair (.rs 5 (.int .u8)) .bool)))),.val false .bool]
def A5D(f:P5):Nat×Fn:=(281,⟨B1Q,B1R,fun x=>f x.1 x.2.1⟩)
def C32:Fn:=(A5D M9).2
theorem C33(f_s_l14At:Q5)(f_s_l14CopyUps:L8)(f_s_l14Make_r98_0_r99_0:Q6):∀ x,(B9 cfg [A5C f_s_l14At,A8V f_s_l14CopyUps,A3T f_s_l14Make_r98_0_r99_0] C31 114 [.tmp 4,.tmp 5] (Tryz.f281.body.getD .skip) B1Q B1R).fn x=A4y f_s_l14At f_s_l14CopyUps f_s_l14Make_r98_0_r99_0 x.1 x.2.1:=by intro x;kernel_rfl
theorem B1S:B1 Tryz.prog 281 C32:=sm MO A7 (tc Tryz.call206 A7S (tc Tryz.call230 B64 (tc Tryz.call305 B1P A5))) Tryz.func281 (by kernel_rfl) (by decide) (C33 O3 K2 M8)
def D0J:Nat→Option Jn:=B3 [(58,⟨[.t 5 false [.int .i64]],lt 11 58 [],false⟩)]
abbrev B65:List PK:= [.val false (.rs 109 kUp) false,.val false (.rs 109 kUp) false]
abbrev B66:List RK:= [.val false .bool]
def B67(f:A49):Nat×Fn:=(234,⟨B65,B66,fun x=>f x.1 x.2.1⟩)
def D0K:Fn:=(B67 A1J).2
theorem D0L:∀ x,(B9 cfg [] D0J 69 [.tmp 4] (Tryz.f234.body.getD .skip) B65 B66).fn x=A8D x.1 x.2.1:=by intro x;kernel_rfl
theorem D0M:B1 Tryz.prog 234 D0K:=sm MO A7 A5 Tryz.func234 (by kernel_rfl) (by decide) (D0L)
def B9q:Nat→Option Jn:=B3 [(7,⟨[.t 4 false [.ro 109 (.pair .str (.pair (.int .i64) (.pair (.rs 5 (.int .u8)) .bool)))]],lt 5 21 [.r 8,.t 27],false⟩),(58,⟨[.t 4 false [.ro 109 (.pair .str (.pair (.int .i64) (.pair (.rs 5 (.int .u8)) .bool)))],.t 5 false [.int .i64]],lt 6 20 [.r 8,.t 27],false⟩)]
abbrev A8Z:List PK:= [.val false (.rs 194 A6y) false]
abbrev A8a:List RK:= [.val false (.rs 109 kUp),.val false .bool]
def A8b(f:A0A):Nat×Fn:=(233,⟨A8Z,A8a,fun x=>f x.1⟩)
def B9r:Fn:=(A8b T6).2
theorem B9s(f_s_l14One_r99_0:P5):∀ x,(B9 cfg [A5D f_s_l14One_r99_0] B9q 29 [.tmp 2,.tmp 3] (Tryz.f233.body.getD .skip) A8Z A8a).fn x=A35 f_s_l14One_r99_0 x.1:=by intro x;kernel_rfl
theorem B9t:B1 Tryz.prog 233 B9r:=sm MO A7 (tc Tryz.call281 B1S A5) Tryz.func233 (by kernel_rfl) (by decide) (B9s M9)
end
end Go.Proofs.YtpdcljonclhhpaaGreat.Ev
