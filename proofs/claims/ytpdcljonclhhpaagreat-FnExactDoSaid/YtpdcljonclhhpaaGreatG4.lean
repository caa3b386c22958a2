/- Each function of the program does what its plain function says. -/
import Derived.Test.YtpdcljonclhhpaaGreatG3
set_option maxRecDepth 100000
namespace Go.Proofs.YtpdcljonclhhpaaGreat.Ev
abbrev D18:List PK:= [.val true E9 false,.val true E9 false]
abbrev D19:List RK:= [.val false .bool]
noncomputable def D1A(f:B3S):Nat×Fn:=(247,⟨D18,D19,fun x=>f x.1 x.2.1⟩)
noncomputable def E3W:Fn:=(D1A A8s).2
theorem E3X:∀ x,(B6 cfg [] (B3 []) 15 [.tmp 4] (Tryz.f247.body.getD .skip) D18 D19).fn x=C0G x.1 x.2.1:=by intro x;kernel_rfl
theorem E3Y:B0 Tryz.prog 247 E3W:=sm MO A6 A5 Tryz.func247 (by kernel_rfl) (by decide) (E3X)
abbrev D1B:List PK:= [.val true A9 false,.val true A9 false]
abbrev D1C:List RK:= [.val false .bool]
noncomputable def D1D(f:A8t):Nat×Fn:=(182,⟨D1B,D1C,fun x=>f x.1 x.2.1⟩)
noncomputable def E3Z:Fn:=(D1D A8u).2
theorem E3a(f_w_eqResp:B3S):∀ x,(B6 cfg [D1A f_w_eqResp] (B3 []) 16 [.tmp 4] (Tryz.f182.body.getD .skip) D1B D1C).fn x=C0H f_w_eqResp x.1 x.2.1:=by intro x;kernel_rfl
theorem E3b:B0 Tryz.prog 182 E3Z:=sm MO A6 (tc Tryz.call247 E3Y A5) Tryz.func182 (by kernel_rfl) (by decide) (E3a A8s)
def E0G:Nat→Option Jn:=B3 [(58,⟨[.t 5 false [.int .i64]],lt 11 16 [],false⟩)]
abbrev C63:List PK:= [.val false (.rs 130 A9) false,.val false (.rs 130 A9) false]
abbrev C64:List RK:= [.val false .bool]
noncomputable def B6o(f:A3e):Nat×Fn:=(101,⟨C63,C64,fun x=>f x.1 x.2.1⟩)
noncomputable def E0H:Fn:=(B6o A1R).2
theorem E0I(f_w_eqHeld:A8t):∀ x,(B6 cfg [D1D f_w_eqHeld] E0G 27 [.tmp 4] (Tryz.f101.body.getD .skip) C63 C64).fn x=B5m f_w_eqHeld x.1 x.2.1:=by intro x;kernel_rfl
theorem C65:B0 Tryz.prog 101 E0H:=sm MO A6 (tc Tryz.call182 E3b A5) Tryz.func101 (by kernel_rfl) (by decide) (E0I A8u)
abbrev C2Y:List PK:= [.val true (.pair (.pair (.pair (.rs 9 .str) (.rs 9 .str)) (.pair (.int .i64) (.pair (.int .i64) (.rs 109 kUp)))) (.rs 130 A9)) false,.val true (.pair (.pair (.pair (.rs 9 .str) (.rs 9 .str)) (.pair (.int .i64) (.pair (.int .i64) (.rs 109 kUp)))) (.rs 130 A9)) false]
abbrev C2Z:List RK:= [.val false .bool]
noncomputable def C2a(f:A7p):Nat×Fn:=(35,⟨C2Y,C2Z,fun x=>f x.1 x.2.1⟩)
noncomputable def D6h:Fn:=(C2a A4U).2
theorem D6i(f_w_eqStore:A9y)(f_w_eqHeldS:A3e):∀ x,(B6 cfg [C62 f_w_eqStore,B6o f_w_eqHeldS] (B3 []) 17 [.tmp 4] (Tryz.f35.body.getD .skip) C2Y C2Z).fn x=B3T f_w_eqStore f_w_eqHeldS x.1 x.2.1:=by intro x;kernel_rfl
theorem D6j:B0 Tryz.prog 35 D6h:=sm MO A6 (tc Tryz.call100 E0F (tc Tryz.call101 C65 A5)) Tryz.func35 (by kernel_rfl) (by decide) (D6i A6n A1R)
abbrev C2b:List PK:= [.val true (.pair .str (.pair (.rs 5 (.int .u8)) E9)) false,.val true (.pair .str (.pair (.rs 5 (.int .u8)) E9)) false]
abbrev C2c:List RK:= [.val false .bool]
noncomputable def C2d(f:A4V):Nat×Fn:=(211,⟨C2b,C2c,fun x=>f x.1 x.2.1⟩)
noncomputable def D6k:Fn:=(C2d A4W).2
theorem D6l(f_w_eqByteS:A04):∀ x,(B6 cfg [B0a f_w_eqByteS] (B3 []) 26 [.tmp 4] (Tryz.f211.body.getD .skip) C2b C2c).fn x=B3U f_w_eqByteS x.1 x.2.1:=by intro x;kernel_rfl
theorem D6m:B0 Tryz.prog 211 D6k:=sm MO A6 (tc Tryz.call36 B6n A5) Tryz.func211 (by kernel_rfl) (by decide) (D6l T3)
def D2d:Nat→Option Jn:=B3 [(58,⟨[.t 5 false [.int .i64]],lt 11 16 [],false⟩)]
abbrev B8q:List PK:= [.val false (.rs 79 B1) false,.val false (.rs 79 B1) false]
abbrev B8r:List RK:= [.val false .bool]
noncomputable def B8s(f:A66):Nat×Fn:=(126,⟨B8q,B8r,fun x=>f x.1 x.2.1⟩)
noncomputable def D2e:Fn:=(B8s A2K).2
theorem D2f(f_w_eqClient:A4V):∀ x,(B6 cfg [C2d f_w_eqClient] D2d 27 [.tmp 4] (Tryz.f126.body.getD .skip) B8q B8r).fn x=B12 f_w_eqClient x.1 x.2.1:=by intro x;kernel_rfl
theorem D2g:B0 Tryz.prog 126 D2e:=sm MO A6 (tc Tryz.call211 D6m A5) Tryz.func126 (by kernel_rfl) (by decide) (D2f A4W)
def E0J:Nat→Option Jn:=B3 [(58,⟨[.t 5 false [.int .i64]],lt 11 15 [],false⟩)]
abbrev C66:List PK:= [.val false (.rs 4 .bool) false,.val false (.rs 4 .bool) false]
abbrev C67:List RK:= [.val false .bool]
noncomputable def B6p(f:A3f):Nat×Fn:=(127,⟨C66,C67,fun x=>f x.1 x.2.1⟩)
noncomputable def E0K:Fn:=(B6p A1S).2
theorem E0L:∀ x,(B6 cfg [] E0J 26 [.tmp 4] (Tryz.f127.body.getD .skip) C66 C67).fn x=B5n x.1 x.2.1:=by intro x;kernel_rfl
theorem C68:B0 Tryz.prog 127 E0K:=sm MO A6 A5 Tryz.func127 (by kernel_rfl) (by decide) (E0L)
abbrev D4l:List PK:= [.val true L5 false,.val true L5 false]
abbrev D4m:List RK:= [.val false .bool]
noncomputable def D4n(f:B7P):Nat×Fn:=(271,⟨D4l,D4m,fun x=>f x.1 x.2.1⟩)
noncomputable def E6V:Fn:=(D4n B1p).2
theorem E6W:∀ x,(B6 cfg [] (B3 []) 20 [.tmp 4] (Tryz.f271.body.getD .skip) D4l D4m).fn x=C3M x.1 x.2.1:=by intro x;kernel_rfl
theorem E6X:B0 Tryz.prog 271 E6V:=sm MO A6 A5 Tryz.func271 (by kernel_rfl) (by decide) (E6W)
abbrev D1E:List PK:= [.val true (.pair (.int .i64) (.pair L5 (.rs 5 (.int .u8)))) false,.val true (.pair (.int .i64) (.pair L5 (.rs 5 (.int .u8)))) false]
abbrev D1F:List RK:= [.val false .bool]
noncomputable def D1G(f:A8v):Nat×Fn:=(212,⟨D1E,D1F,fun x=>f x.1 x.2.1⟩)
noncomputable def E3c:Fn:=(D1G A8w).2
theorem E3d(f_w_eqByteS:A04)(f_w_eqReq:B7P):∀ x,(B6 cfg [B0a f_w_eqByteS,D4n f_w_eqReq] (B3 []) 22 [.tmp 4] (Tryz.f212.body.getD .skip) D1E D1F).fn x=C0I f_w_eqByteS f_w_eqReq x.1 x.2.1:=by intro x;kernel_rfl
theorem E3e:B0 Tryz.prog 212 E3c:=sm MO A6 (tc Tryz.call36 B6n (tc Tryz.call271 E6X A5)) Tryz.func212 (by kernel_rfl) (by decide) (E3d T3 B1p)
def E0M:Nat→Option Jn:=B3 [(58,⟨[.t 5 false [.int .i64]],lt 11 16 [],false⟩)]
abbrev C69:List PK:= [.val false (.rs 113 B7) false,.val false (.rs 113 B7) false]
abbrev C6A:List RK:= [.val false .bool]
noncomputable def C6B(f:A9z):Nat×Fn:=(128,⟨C69,C6A,fun x=>f x.1 x.2.1⟩)
noncomputable def E0N:Fn:=(C6B A6o).2
theorem E0O(f_w_eqWant:A8v):∀ x,(B6 cfg [D1G f_w_eqWant] E0M 27 [.tmp 4] (Tryz.f128.body.getD .skip) C69 C6A).fn x=B5o f_w_eqWant x.1 x.2.1:=by intro x;kernel_rfl
theorem E0P:B0 Tryz.prog 128 E0N:=sm MO A6 (tc Tryz.call212 E3e A5) Tryz.func128 (by kernel_rfl) (by decide) (E0O A8w)
def E3f:Nat→Option Jn:=B3 [(58,⟨[.t 5 false [.int .i64]],lt 11 15 [],false⟩)]
abbrev D1H:List PK:= [.val false (.rs 3 (.int .i64)) false,.val false (.rs 3 (.int .i64)) false]
abbrev D1I:List RK:= [.val false .bool]
noncomputable def D1J(f:B3W):Nat×Fn:=(129,⟨D1H,D1I,fun x=>f x.1 x.2.1⟩)
noncomputable def E3g:Fn:=(D1J A8x).2
theorem E3h:∀ x,(B6 cfg [] E3f 26 [.tmp 4] (Tryz.f129.body.getD .skip) D1H D1I).fn x=C0J x.1 x.2.1:=by intro x;kernel_rfl
theorem E3i:B0 Tryz.prog 129 E3g:=sm MO A6 A5 Tryz.func129 (by kernel_rfl) (by decide) (E3h)
abbrev C6C:List PK:= [.val true (.pair (.pair (.pair (.pair (.rs 9 .str) (.rs 9 .str)) (.pair (.int .i64) (.pair (.int .i64) (.rs 109 kUp)))) (.rs 130 A9)) (.pair (.rs 79 B1) (.pair (.rs 4 .bool) (.pair (.rs 113 B7) (.pair (.rs 130 A9) (.rs 3 (.int .i64))))))) false,.val true (.pair (.pair (.pair (.pair (.rs 9 .str) (.rs 9 .str)) (.pair (.int .i64) (.pair (.int .i64) (.rs 109 kUp)))) (.rs 130 A9)) (.pair (.rs 79 B1) (.pair (.rs 4 .bool) (.pair (.rs 113 B7) (.pair (.rs 130 A9) (.rs 3 (.int .i64))))))) false]
abbrev C6D:List RK:= [.val false .bool]
noncomputable def C6E(f:B00):Nat×Fn:=(54,⟨C6C,C6D,fun x=>f x.1 x.2.1⟩)
noncomputable def E0Q:Fn:=(C6E A6p).2
theorem E0R(f_w_eqServer:A7p)(f_w_eqHeldS:A3e)(f_w_eqClientS:A66)(f_w_eqBoolS:A3f)(f_w_eqWantS:A9z)(f_w_eqIntS:B3W):∀ x,(B6 cfg [C2a f_w_eqServer,B6o f_w_eqHeldS,B8s f_w_eqClientS,B6p f_w_eqBoolS,C6B f_w_eqWantS,D1J f_w_eqIntS] (B3 []) 41 [.tmp 4] (Tryz.f54.body.getD .skip) C6C C6D).fn x=B5p f_w_eqServer f_w_eqHeldS f_w_eqClientS f_w_eqBoolS f_w_eqWantS f_w_eqIntS x.1 x.2.1:=by intro x;kernel_rfl
theorem E0S:B0 Tryz.prog 54 E0Q:=sm MO A6 (tc Tryz.call35 D6j (tc Tryz.call101 C65 (tc Tryz.call126 D2g (tc Tryz.call127 C68 (tc Tryz.call128 E0P (tc Tryz.call129 E3i A5)))))) Tryz.func54 (by kernel_rfl) (by decide) (E0R A4U A1R A2K A1S A6o A8x)
def D6n:Nat→Option Jn:=B3 [(15,⟨[.t 3 false [.str]],lt 6 12 [.r 12,.t 0],true⟩),(60,⟨[.t 0 false [.int .i64],.t 3 false [.str]],lt 6 12 [.r 12],false⟩)]
abbrev C2e:List PK:= [.val false (.int .i64) false]
abbrev C2f:List RK:= [.val false .str]
noncomputable def S8(f:D6):Nat×Fn:=(213,⟨C2e,C2f,fun x=>f x.1⟩)
noncomputable def D6o:Fn:=(S8 D3).2
theorem D6p:∀ x,(B6 cfg [] D6n 20 [.tmp 2] (Tryz.f213.body.getD .skip) C2e C2f).fn x=B3X x.1:=by intro x;kernel_rfl
theorem X4:B0 Tryz.prog 213 D6o:=sm MO A6 A5 Tryz.func213 (by kernel_rfl) (by decide) (D6p)
def C77:Nat→Option Jn:=B3 [(26,⟨[.t 0 false [.own 1000],.t 1 false [.int .i64],.t 5 false [.int .i64],.r 1000 9 .str],lt 6 13 [.x 16],false⟩)]
abbrev B4W:List PK:= [.val false (.sl 9 .str) true,.val false (.int .i64) false]
abbrev B4X:List RK:= [.val false (.int .i64)]
noncomputable def B4Y(f:A2z):Nat×Fn:=(248,⟨B4W,B4X,fun x=>f x.1 x.2.1⟩)
noncomputable def C78:Fn:=(B4Y V5).2
theorem C79(f_w_markText:D6):∀ x,(B6 cfg [S8 f_w_markText] C77 20 [.tmp 4] (Tryz.f248.body.getD .skip) B4W B4X).fn x=A7K f_w_markText x.1 x.2.1:=by intro x;kernel_rfl
theorem C7A:B0 Tryz.prog 248 C78:=sm MO A6 (tc Tryz.call213 X4 A5) Tryz.func248 (by kernel_rfl) (by decide) (C79 D3)
abbrev C2g:List PK:= [.val true A0M true,.val false (.int .i64) false]
abbrev C2h:List RK:= [.val false (.int .i64)]
noncomputable def C2i(f:A7q):Nat×Fn:=(183,⟨C2g,C2h,fun x=>f x.1 x.2.1⟩)
noncomputable def D6q:Fn:=(C2i A4X).2
theorem D6r(f_w_markStringS:A2z):∀ x,(B6 cfg [B4Y f_w_markStringS] (B3 []) 14 [.tmp 4] (Tryz.f183.body.getD .skip) C2g C2h).fn x=B3Y f_w_markStringS x.1 x.2.1:=by intro x;kernel_rfl
theorem D6s:B0 Tryz.prog 183 D6q:=sm MO A6 (tc Tryz.call248 C7A A5) Tryz.func183 (by kernel_rfl) (by decide) (D6r V5)
def D2h:Nat→Option Jn:=B3 [(26,⟨[.t 0 false [.own 1000],.t 1 false [.int .i64],.t 5 false [.int .i64],.r 1000 5 (.int .u8)],lt 6 13 [.x 16],false⟩)]
abbrev B8t:List PK:= [.val false (.sl 5 (.int .u8)) true,.val false (.int .i64) false]
abbrev B8u:List RK:= [.val false (.int .i64)]
noncomputable def A6R(f:L9):Nat×Fn:=(38,⟨B8t,B8u,fun x=>f x.1 x.2.1⟩)
noncomputable def D2i:Fn:=(A6R I7).2
theorem D2j:∀ x,(B6 cfg [] D2h 20 [.tmp 4] (Tryz.f38.body.getD .skip) B8t B8u).fn x=B15 x.1 x.2.1:=by intro x;kernel_rfl
theorem B1N:B0 Tryz.prog 38 D2i:=sm MO A6 A5 Tryz.func38 (by kernel_rfl) (by decide) (D2j)
def E0T:Nat→Option Jn:=B3 [(26,⟨[.t 0 false [.own 1000],.t 1 false [.int .i64],.t 5 false [.int .i64],.r 1000 109 kUp],lt 6 37 [.x 16,.x 23,.x 29,.x 39],false⟩)]
abbrev C6F:List PK:= [.val false (.sl 109 kUp) true,.val false (.int .i64) false]
abbrev C6G:List RK:= [.val false (.int .i64)]
noncomputable def C6H(f:B01):Nat×Fn:=(184,⟨C6F,C6G,fun x=>f x.1 x.2.1⟩)
noncomputable def E0U:Fn:=(C6H B02).2
theorem E0V(f_w_markByteS:L9)(f_w_markText:D6):∀ x,(B6 cfg [A6R f_w_markByteS,S8 f_w_markText] E0T 44 [.tmp 4] (Tryz.f184.body.getD .skip) C6F C6G).fn x=C4V f_w_markByteS f_w_markText x.1 x.2.1:=by intro x;kernel_rfl
theorem E0W:B0 Tryz.prog 184 E0U:=sm MO A6 (tc Tryz.call38 B1N (tc Tryz.call213 X4 A5)) Tryz.func184 (by kernel_rfl) (by decide) (E0V I7 D3)
abbrev B8v:List PK:= [.val true A3z true,.val false (.int .i64) false]
abbrev B8w:List RK:= [.val false (.int .i64)]
noncomputable def B8x(f:A68):Nat×Fn:=(102,⟨B8v,B8w,fun x=>f x.1 x.2.1⟩)
noncomputable def D2k:Fn:=(B8x A2L).2
theorem D2l(f_w_markDisk:A7q)(f_w_markUpS:B01):∀ x,(B6 cfg [C2i f_w_markDisk,C6H f_w_markUpS] (B3 []) 14 [.tmp 4] (Tryz.f102.body.getD .skip) B8v B8w).fn x=B16 f_w_markDisk f_w_markUpS x.1 x.2.1:=by intro x;kernel_rfl
theorem D2m:B0 Tryz.prog 102 D2k:=sm MO A6 (tc Tryz.call183 D6s (tc Tryz.call184 E0W A5)) Tryz.func102 (by kernel_rfl) (by decide) (D2l A4X B02)
def D2n:Nat→Option Jn:=B3 [(26,⟨[.t 0 false [.own 1000],.t 1 false [.int .i64],.t 5 false [.int .i64],.r 1000 130 A9],lt 6 29 [.x 15,.x 22,.x 30],false⟩)]
abbrev B8y:List PK:= [.val false (.sl 130 A9) true,.val false (.int .i64) false]
abbrev B8z:List RK:= [.val false (.int .i64)]
noncomputable def B1O(f:A0d):Nat×Fn:=(103,⟨B8y,B8z,fun x=>f x.1 x.2.1⟩)
noncomputable def D2o:Fn:=(B1O A0e).2
theorem D2p:∀ x,(B6 cfg [] D2n 36 [.tmp 4] (Tryz.f103.body.getD .skip) B8y B8z).fn x=B7v x.1 x.2.1:=by intro x;kernel_rfl
theorem B90:B0 Tryz.prog 103 D2o:=sm MO A6 A5 Tryz.func103 (by kernel_rfl) (by decide) (D2p)
abbrev B6q:List PK:= [.val true A1l true,.val false (.int .i64) false]
abbrev B6r:List RK:= [.val false (.int .i64)]
noncomputable def B6s(f:A4Y):Nat×Fn:=(37,⟨B6q,B6r,fun x=>f x.1 x.2.1⟩)
noncomputable def D1K:Fn:=(B6s A1T).2
theorem D1L(f_w_markStore:A68)(f_w_markHeldS:A0d):∀ x,(B6 cfg [B8x f_w_markStore,B1O f_w_markHeldS] (B3 []) 14 [.tmp 4] (Tryz.f37.body.getD .skip) B6q B6r).fn x=A8z f_w_markStore f_w_markHeldS x.1 x.2.1:=by intro x;kernel_rfl
theorem D1M:B0 Tryz.prog 37 D1K:=sm MO A6 (tc Tryz.call102 D2m (tc Tryz.call103 B90 A5)) Tryz.func37 (by kernel_rfl) (by decide) (D1L A2L A0e)
def C7B:Nat→Option Jn:=B3 [(26,⟨[.t 0 false [.own 1000],.t 1 false [.int .i64],.t 5 false [.int .i64],.r 1000 79 B1],lt 6 35 [.x 16,.x 22,.x 30,.x 37],false⟩)]
abbrev B4Z:List PK:= [.val false (.sl 79 B1) true,.val false (.int .i64) false]
abbrev B4a:List RK:= [.val false (.int .i64)]
noncomputable def B4b(f:A32):Nat×Fn:=(130,⟨B4Z,B4a,fun x=>f x.1 x.2.1⟩)
noncomputable def C7C:Fn:=(B4b A33).2
theorem C7D(f_w_markByteS:L9)(f_w_markText:D6):∀ x,(B6 cfg [A6R f_w_markByteS,S8 f_w_markText] C7B 42 [.tmp 4] (Tryz.f130.body.getD .skip) B4Z B4a).fn x=B46 f_w_markByteS f_w_markText x.1 x.2.1:=by intro x;kernel_rfl
theorem C7E:B0 Tryz.prog 130 C7C:=sm MO A6 (tc Tryz.call38 B1N (tc Tryz.call213 X4 A5)) Tryz.func130 (by kernel_rfl) (by decide) (C7D I7 D3)
def D2q:Nat→Option Jn:=B3 [(26,⟨[.t 0 false [.own 1000],.t 1 false [.int .i64],.t 5 false [.int .i64],.r 1000 4 .bool],lt 6 14 [.x 17],false⟩)]
abbrev B91:List PK:= [.val false (.sl 4 .bool) true,.val false (.int .i64) false]
abbrev B92:List RK:= [.val false (.int .i64)]
noncomputable def B1P(f:A0f):Nat×Fn:=(131,⟨B91,B92,fun x=>f x.1 x.2.1⟩)
noncomputable def D2r:Fn:=(B1P T4).2
theorem D2s:∀ x,(B6 cfg [] D2q 21 [.tmp 4] (Tryz.f131.body.getD .skip) B91 B92).fn x=B7w x.1 x.2.1:=by intro x;kernel_rfl
theorem B93:B0 Tryz.prog 131 D2r:=sm MO A6 A5 Tryz.func131 (by kernel_rfl) (by decide) (D2s)
def D2t:Nat→Option Jn:=B3 [(26,⟨[.t 0 false [.own 1000],.t 1 false [.int .i64],.t 5 false [.int .i64],.r 1000 113 B7],lt 6 45 [.x 15,.x 22,.x 31,.x 39,.x 46],false⟩)]
abbrev B94:List PK:= [.val false (.sl 113 B7) true,.val false (.int .i64) false]
abbrev B95:List RK:= [.val false (.int .i64)]
noncomputable def B96(f:A69):Nat×Fn:=(132,⟨B94,B95,fun x=>f x.1 x.2.1⟩)
noncomputable def D2u:Fn:=(B96 A6A).2
theorem D2v(f_w_markByteS:L9)(f_w_markText:D6):∀ x,(B6 cfg [A6R f_w_markByteS,S8 f_w_markText] D2t 52 [.tmp 4] (Tryz.f132.body.getD .skip) B94 B95).fn x=B7x f_w_markByteS f_w_markText x.1 x.2.1:=by intro x;kernel_rfl
theorem D2w:B0 Tryz.prog 132 D2u:=sm MO A6 (tc Tryz.call38 B1N (tc Tryz.call213 X4 A5)) Tryz.func132 (by kernel_rfl) (by decide) (D2v I7 D3)
def D6t:Nat→Option Jn:=B3 [(26,⟨[.t 0 false [.own 1000],.t 1 false [.int .i64],.t 5 false [.int .i64],.r 1000 3 (.int .i64)],lt 6 12 [.x 15],false⟩)]
abbrev C2j:List PK:= [.val false (.sl 3 (.int .i64)) true,.val false (.int .i64) false]
abbrev C2k:List RK:= [.val false (.int .i64)]
noncomputable def C2l(f:A7r):Nat×Fn:=(133,⟨C2j,C2k,fun x=>f x.1 x.2.1⟩)
noncomputable def D6u:Fn:=(C2l A7s).2
theorem D6v:∀ x,(B6 cfg [] D6t 19 [.tmp 4] (Tryz.f133.body.getD .skip) C2j C2k).fn x=C13 x.1 x.2.1:=by intro x;kernel_rfl
theorem D6w:B0 Tryz.prog 133 D6u:=sm MO A6 A5 Tryz.func133 (by kernel_rfl) (by decide) (D6v)
abbrev B97:List PK:= [.val true A23 true,.val false (.int .i64) false]
abbrev B98:List RK:= [.val false (.int .i64)]
noncomputable def B99(f:A6B):Nat×Fn:=(55,⟨B97,B98,fun x=>f x.1 x.2.1⟩)
noncomputable def D2x:Fn:=(B99 A2M).2
theorem D2y(f_w_markServer:A4Y)(f_w_markHeldS:A0d)(f_w_markClientS:A32)(f_w_markBoolS:A0f)(f_w_markWantS:A69)(f_w_markIntS:A7r):∀ x,(B6 cfg [B6s f_w_markServer,B1O f_w_markHeldS,B4b f_w_markClientS,B1P f_w_markBoolS,B96 f_w_markWantS,C2l f_w_markIntS] (B3 []) 30 [.tmp 4] (Tryz.f55.body.getD .skip) B97 B98).fn x=B17 f_w_markServer f_w_markHeldS f_w_markClientS f_w_markBoolS f_w_markWantS f_w_markIntS x.1 x.2.1:=by intro x;kernel_rfl
theorem D2z:B0 Tryz.prog 55 D2x:=sm MO A6 (tc Tryz.call37 D1M (tc Tryz.call103 B90 (tc Tryz.call130 C7E (tc Tryz.call131 B93 (tc Tryz.call132 D2w (tc Tryz.call133 D6w A5)))))) Tryz.func55 (by kernel_rfl) (by decide) (D2y A1T A0e A33 T4 A6A A7s)
def C7F:Nat→Option Jn:=B3 [(26,⟨[.t 1 false [.int .i64],.t 5 false [.int .i64]],lt 6 15 [],false⟩)]
abbrev B4c:List PK:= [.val false (.rs 9 .str) false,.val false (.int .i64) false]
abbrev B4d:List RK:= [.val false (.int .i64)]
noncomputable def B4e(f:A35):Nat×Fn:=(249,⟨B4c,B4d,fun x=>f x.1 x.2.1⟩)
noncomputable def C7G:Fn:=(B4e V7).2
theorem C7H(f_w_markText:D6):∀ x,(B6 cfg [S8 f_w_markText] C7F 22 [.tmp 4] (Tryz.f249.body.getD .skip) B4c B4d).fn x=A7L f_w_markText x.1 x.2.1:=by intro x;kernel_rfl
theorem C7I:B0 Tryz.prog 249 C7G:=sm MO A6 (tc Tryz.call213 X4 A5) Tryz.func249 (by kernel_rfl) (by decide) (C7H D3)
abbrev C2m:List PK:= [.val true (.pair (.rs 9 .str) (.rs 9 .str)) false,.val false (.int .i64) false]
abbrev C2n:List RK:= [.val false (.int .i64)]
noncomputable def C2o(f:A7t):Nat×Fn:=(185,⟨C2m,C2n,fun x=>f x.1 x.2.1⟩)
noncomputable def D6x:Fn:=(C2o A4a).2
theorem D6y(f_w_heldStringS:A35):∀ x,(B6 cfg [B4e f_w_heldStringS] (B3 []) 18 [.tmp 4] (Tryz.f185.body.getD .skip) C2m C2n).fn x=B3Z f_w_heldStringS x.1 x.2.1:=by intro x;kernel_rfl
theorem D6z:B0 Tryz.prog 185 D6x:=sm MO A6 (tc Tryz.call249 C7I A5) Tryz.func185 (by kernel_rfl) (by decide) (D6y V7)
def D30:Nat→Option Jn:=B3 [(26,⟨[.t 1 false [.int .i64],.t 5 false [.int .i64]],lt 6 15 [],false⟩)]
abbrev B9A:List PK:= [.val false (.rs 5 (.int .u8)) false,.val false (.int .i64) false]
abbrev B9B:List RK:= [.val false (.int .i64)]
noncomputable def A6S(f:M0):Nat×Fn:=(214,⟨B9A,B9B,fun x=>f x.1 x.2.1⟩)
noncomputable def D31:Fn:=(A6S I8).2
theorem D32:∀ x,(B6 cfg [] D30 22 [.tmp 4] (Tryz.f214.body.getD .skip) B9A B9B).fn x=B18 x.1 x.2.1:=by intro x;kernel_rfl
theorem B1Q:B0 Tryz.prog 214 D31:=sm MO A6 A5 Tryz.func214 (by kernel_rfl) (by decide) (D32)
def E0X:Nat→Option Jn:=B3 [(26,⟨[.t 1 false [.int .i64],.t 5 false [.int .i64]],lt 6 45 [],false⟩)]
abbrev C6I:List PK:= [.val false (.rs 109 kUp) false,.val false (.int .i64) false]
abbrev C6J:List RK:= [.val false (.int .i64)]
noncomputable def C6K(f:B03):Nat×Fn:=(186,⟨C6I,C6J,fun x=>f x.1 x.2.1⟩)
noncomputable def E0Y:Fn:=(C6K B04).2
theorem E0Z(f_w_markText:D6)(f_w_heldByteS:M0):∀ x,(B6 cfg [S8 f_w_markText,A6S f_w_heldByteS] E0X 52 [.tmp 4] (Tryz.f186.body.getD .skip) C6I C6J).fn x=C4W f_w_markText f_w_heldByteS x.1 x.2.1:=by intro x;kernel_rfl
theorem E0a:B0 Tryz.prog 186 E0Y:=sm MO A6 (tc Tryz.call213 X4 (tc Tryz.call214 B1Q A5)) Tryz.func186 (by kernel_rfl) (by decide) (E0Z D3 I8)
abbrev B9C:List PK:= [.val true (.pair (.pair (.rs 9 .str) (.rs 9 .str)) (.pair (.int .i64) (.pair (.int .i64) (.rs 109 kUp)))) false,.val false (.int .i64) false]
abbrev B9D:List RK:= [.val false (.int .i64)]
noncomputable def B9E(f:A6D):Nat×Fn:=(104,⟨B9C,B9D,fun x=>f x.1 x.2.1⟩)
noncomputable def D33:Fn:=(B9E A2N).2
theorem D34(f_w_heldDisk:A7t)(f_w_heldUpS:B03):∀ x,(B6 cfg [C2o f_w_heldDisk,C6K f_w_heldUpS] (B3 []) 18 [.tmp 4] (Tryz.f104.body.getD .skip) B9C B9D).fn x=B19 f_w_heldDisk f_w_heldUpS x.1 x.2.1:=by intro x;kernel_rfl
theorem D35:B0 Tryz.prog 104 D33:=sm MO A6 (tc Tryz.call185 D6z (tc Tryz.call186 E0a A5)) Tryz.func104 (by kernel_rfl) (by decide) (D34 A4a B04)
def D36:Nat→Option Jn:=B3 [(26,⟨[.t 1 false [.int .i64],.t 5 false [.int .i64]],lt 6 35 [],false⟩)]
abbrev B9F:List PK:= [.val false (.rs 130 A9) false,.val false (.int .i64) false]
abbrev B9G:List RK:= [.val false (.int .i64)]
noncomputable def B1R(f:A0g):Nat×Fn:=(105,⟨B9F,B9G,fun x=>f x.1 x.2.1⟩)
noncomputable def D37:Fn:=(B1R A0h).2
theorem D38:∀ x,(B6 cfg [] D36 42 [.tmp 4] (Tryz.f105.body.getD .skip) B9F B9G).fn x=B7y x.1 x.2.1:=by intro x;kernel_rfl
theorem B9H:B0 Tryz.prog 105 D37:=sm MO A6 A5 Tryz.func105 (by kernel_rfl) (by decide) (D38)
abbrev B6t:List PK:= [.val true (.pair (.pair (.pair (.rs 9 .str) (.rs 9 .str)) (.pair (.int .i64) (.pair (.int .i64) (.rs 109 kUp)))) (.rs 130 A9)) false,.val false (.int .i64) false]
abbrev B6u:List RK:= [.val false (.int .i64)]
noncomputable def B6v(f:A4b):Nat×Fn:=(39,⟨B6t,B6u,fun x=>f x.1 x.2.1⟩)
noncomputable def D1N:Fn:=(B6v A1U).2
theorem D1O(f_w_heldStore:A6D)(f_w_heldHeldS:A0g):∀ x,(B6 cfg [B9E f_w_heldStore,B1R f_w_heldHeldS] (B3 []) 18 [.tmp 4] (Tryz.f39.body.getD .skip) B6t B6u).fn x=A90 f_w_heldStore f_w_heldHeldS x.1 x.2.1:=by intro x;kernel_rfl
theorem D1P:B0 Tryz.prog 39 D1N:=sm MO A6 (tc Tryz.call104 D35 (tc Tryz.call105 B9H A5)) Tryz.func39 (by kernel_rfl) (by decide) (D1O A2N A0h)
def C7J:Nat→Option Jn:=B3 [(26,⟨[.t 1 false [.int .i64],.t 5 false [.int .i64]],lt 6 43 [],false⟩)]
abbrev B4f:List PK:= [.val false (.rs 79 B1) false,.val false (.int .i64) false]
abbrev B4g:List RK:= [.val false (.int .i64)]
noncomputable def B4h(f:A38):Nat×Fn:=(134,⟨B4f,B4g,fun x=>f x.1 x.2.1⟩)
noncomputable def C7K:Fn:=(B4h A39).2
theorem C7L(f_w_markText:D6)(f_w_heldByteS:M0):∀ x,(B6 cfg [S8 f_w_markText,A6S f_w_heldByteS] C7J 50 [.tmp 4] (Tryz.f134.body.getD .skip) B4f B4g).fn x=B47 f_w_markText f_w_heldByteS x.1 x.2.1:=by intro x;kernel_rfl
theorem C7M:B0 Tryz.prog 134 C7K:=sm MO A6 (tc Tryz.call213 X4 (tc Tryz.call214 B1Q A5)) Tryz.func134 (by kernel_rfl) (by decide) (C7L D3 I8)
def D39:Nat→Option Jn:=B3 [(26,⟨[.t 1 false [.int .i64],.t 5 false [.int .i64]],lt 6 16 [],false⟩)]
abbrev B9I:List PK:= [.val false (.rs 4 .bool) false,.val false (.int .i64) false]
abbrev B9J:List RK:= [.val false (.int .i64)]
noncomputable def B9K(f:A6E):Nat×Fn:=(135,⟨B9I,B9J,fun x=>f x.1 x.2.1⟩)
noncomputable def D3A:Fn:=(B9K A6F).2
theorem D3B:∀ x,(B6 cfg [] D39 23 [.tmp 4] (Tryz.f135.body.getD .skip) B9I B9J).fn x=B7z x.1 x.2.1:=by intro x;kernel_rfl
theorem D3C:B0 Tryz.prog 135 D3A:=sm MO A6 A5 Tryz.func135 (by kernel_rfl) (by decide) (D3B)
def D3D:Nat→Option Jn:=B3 [(26,⟨[.t 1 false [.int .i64],.t 5 false [.int .i64]],lt 6 55 [],false⟩)]
abbrev B9L:List PK:= [.val false (.rs 113 B7) false,.val false (.int .i64) false]
abbrev B9M:List RK:= [.val false (.int .i64)]
noncomputable def B9N(f:A6G):Nat×Fn:=(136,⟨B9L,B9M,fun x=>f x.1 x.2.1⟩)
noncomputable def D3E:Fn:=(B9N A6H).2
theorem D3F(f_w_markText:D6)(f_w_heldByteS:M0):∀ x,(B6 cfg [S8 f_w_markText,A6S f_w_heldByteS] D3D 62 [.tmp 4] (Tryz.f136.body.getD .skip) B9L B9M).fn x=B80 f_w_markText f_w_heldByteS x.1 x.2.1:=by intro x;kernel_rfl
theorem D3G:B0 Tryz.prog 136 D3E:=sm MO A6 (tc Tryz.call213 X4 (tc Tryz.call214 B1Q A5)) Tryz.func136 (by kernel_rfl) (by decide) (D3F D3 I8)
def D70:Nat→Option Jn:=B3 [(26,⟨[.t 1 false [.int .i64],.t 5 false [.int .i64]],lt 6 14 [],false⟩)]
abbrev C2p:List PK:= [.val false (.rs 3 (.int .i64)) false,.val false (.int .i64) false]
abbrev C2q:List RK:= [.val false (.int .i64)]
noncomputable def C2r(f:A7u):Nat×Fn:=(137,⟨C2p,C2q,fun x=>f x.1 x.2.1⟩)
noncomputable def D71:Fn:=(C2r A7v).2
theorem D72:∀ x,(B6 cfg [] D70 21 [.tmp 4] (Tryz.f137.body.getD .skip) C2p C2q).fn x=C14 x.1 x.2.1:=by intro x;kernel_rfl
theorem D73:B0 Tryz.prog 137 D71:=sm MO A6 A5 Tryz.func137 (by kernel_rfl) (by decide) (D72)
abbrev B9O:List PK:= [.val true (.pair (.pair (.pair (.pair (.rs 9 .str) (.rs 9 .str)) (.pair (.int .i64) (.pair (.int .i64) (.rs 109 kUp)))) (.rs 130 A9)) (.pair (.rs 79 B1) (.pair (.rs 4 .bool) (.pair (.rs 113 B7) (.pair (.rs 130 A9) (.rs 3 (.int .i64))))))) false,.val false (.int .i64) false]
abbrev B9P:List RK:= [.val false (.int .i64)]
noncomputable def B9Q(f:A6I):Nat×Fn:=(56,⟨B9O,B9P,fun x=>f x.1 x.2.1⟩)
noncomputable def D3H:Fn:=(B9Q A2O).2
theorem D3I(f_w_heldServer:A4b)(f_w_heldHeldS:A0g)(f_w_heldClientS:A38)(f_w_heldBoolS:A6E)(f_w_heldWantS:A6G)(f_w_heldIntS:A7u):∀ x,(B6 cfg [B6v f_w_heldServer,B1R f_w_heldHeldS,B4h f_w_heldClientS,B9K f_w_heldBoolS,B9N f_w_heldWantS,C2r f_w_heldIntS] (B3 []) 42 [.tmp 4] (Tryz.f56.body.getD .skip) B9O B9P).fn x=B1A f_w_heldServer f_w_heldHeldS f_w_heldClientS f_w_heldBoolS f_w_heldWantS f_w_heldIntS x.1 x.2.1:=by intro x;kernel_rfl
theorem D3J:B0 Tryz.prog 56 D3H:=sm MO A6 (tc Tryz.call39 D1P (tc Tryz.call105 B9H (tc Tryz.call134 C7M (tc Tryz.call135 D3C (tc Tryz.call136 D3G (tc Tryz.call137 D73 A5)))))) Tryz.func56 (by kernel_rfl) (by decide) (D3I A1U A0h A39 A6F A6H A7v)
abbrev C6L:List PK:= [.val true (.pair (.int .i64) (.pair (.int .i64) (.rs 4 .bool))) false,.val false (.int .i64) false]
abbrev C6M:List RK:= [.val false (.int .i64)]
noncomputable def C6N(f:B05):Nat×Fn:=(58,⟨C6L,C6M,fun x=>f x.1 x.2.1⟩)
noncomputable def E0b:Fn:=(C6N A6q).2
theorem E0c(f_w_szBoolS:A3b):∀ x,(B6 cfg [B6j f_w_szBoolS] (B3 []) 12 [.tmp 4] (Tryz.f58.body.getD .skip) C6L C6M).fn x=B5q f_w_szBoolS x.1 x.2.1:=by intro x;kernel_rfl
theorem E0d:B0 Tryz.prog 58 E0b:=sm MO A6 (tc Tryz.call117 C5a A5) Tryz.func58 (by kernel_rfl) (by decide) (E0c A1O)
abbrev C6O:List PK:= [.val true (.pair (.int .i64) (.pair (.int .i64) (.rs 4 .bool))) false]
abbrev C6P:List RK:= [.val true A5J]
noncomputable def C6Q(f:B06):Nat×Fn:=(59,⟨C6O,C6P,fun x=>f x.1⟩)
noncomputable def E0e:Fn:=(C6Q A6r).2
theorem E0f(f_w_toBoolS:A3d):∀ x,(B6 cfg [B6m f_w_toBoolS] (B3 []) 15 [.cell 2 77] (Tryz.f59.body.getD .skip) C6O C6P).fn x=B5r f_w_toBoolS x.1:=by intro x;kernel_rfl
theorem E0g:B0 Tryz.prog 59 E0e:=sm MO A6 (tc Tryz.call123 C5r A5) Tryz.func59 (by kernel_rfl) (by decide) (E0f A1Q)
abbrev C6R:List PK:= [.val true (.pair (.int .i64) (.pair (.int .i64) (.rs 4 .bool))) false,.val true (.pair (.int .i64) (.pair (.int .i64) (.rs 4 .bool))) false]
abbrev C6S:List RK:= [.val false .bool]
noncomputable def C6T(f:B07):Nat×Fn:=(60,⟨C6R,C6S,fun x=>f x.1 x.2.1⟩)
noncomputable def E0h:Fn:=(C6T A6s).2
theorem E0i(f_w_eqBoolS:A3f):∀ x,(B6 cfg [B6p f_w_eqBoolS] (B3 []) 21 [.tmp 4] (Tryz.f60.body.getD .skip) C6R C6S).fn x=B5s f_w_eqBoolS x.1 x.2.1:=by intro x;kernel_rfl
theorem E0j:B0 Tryz.prog 60 E0h:=sm MO A6 (tc Tryz.call127 C68 A5) Tryz.func60 (by kernel_rfl) (by decide) (E0i A1S)
abbrev B9R:List PK:= [.val true A5J true,.val false (.int .i64) false]
abbrev B9S:List RK:= [.val false (.int .i64)]
noncomputable def B9T(f:A6J):Nat×Fn:=(61,⟨B9R,B9S,fun x=>f x.1 x.2.1⟩)
noncomputable def D3K:Fn:=(B9T A6K).2
theorem D3L(f_w_markBoolS:A0f):∀ x,(B6 cfg [B1P f_w_markBoolS] (B3 []) 10 [.tmp 4] (Tryz.f61.body.getD .skip) B9R B9S).fn x=B1B f_w_markBoolS x.1 x.2.1:=by intro x;kernel_rfl
theorem D3M:B0 Tryz.prog 61 D3K:=sm MO A6 (tc Tryz.call131 B93 A5) Tryz.func61 (by kernel_rfl) (by decide) (D3L T4)
def C2s:Nat→Option Jn:=B3 [(31,⟨[.t 9 false [.int .i64],.b 8 [.int .i64,.int .i64],.b 10 [.own 100000000,.own 100000001,.int .i64,.int .i64,.ro 109 kUp],.r 100000000 9 .str,.r 100000001 9 .str],lt 19 51 [.r 114688,.r 114689,.r 167936,.r 167937,.r 237568,.r 237569,.r 274432,.r 274433,.t 13,.t 14],false⟩)]
abbrev B0b:List PK:= [.val true (.pair (.pair (.rs 9 .str) (.rs 9 .str)) (.pair (.int .i64) (.pair (.int .i64) (.rs 109 kUp)))) false,.val true L5 false,.val false (.rs 5 (.int .u8)) false]
abbrev B0c:List RK:= [.val true (.pair (.pair (.rs 9 .str) (.rs 9 .str)) (.pair (.int .i64) (.pair (.int .i64) (.rs 109 kUp)))),.val true E9]
noncomputable def B0d(f:A0t):Nat×Fn:=(92,⟨B0b,B0c,fun x=>f x.1 x.2.1 x.2.2.1⟩)
noncomputable def C2t:Fn:=(B0d X0).2
theorem C2u(f_s_MakeUp_r99_0:A1y)(f_s_PutUp_r99_0:A2v)(f_s_DoneUp_r99_0:A1z)(f_s_DropUp_r99_0:A20)(f_s_l15Looks:A7j)(f_s_l15Bad:B3E):∀ x,(B6 cfg [B2J f_s_MakeUp_r99_0,B4V f_s_PutUp_r99_0,B2M f_s_DoneUp_r99_0,B2P f_s_DropUp_r99_0,C2C f_s_l15Looks,D0d f_s_l15Bad] C2s 80 [.cell 6 29,.cell 7 126] (Tryz.f92.body.getD .skip) B0b B0c).fn x=A4d f_s_MakeUp_r99_0 f_s_PutUp_r99_0 f_s_DoneUp_r99_0 f_s_DropUp_r99_0 f_s_l15Looks f_s_l15Bad x.1 x.2.1 x.2.2.1:=by intro x;kernel_rfl
theorem C2v:B0 Tryz.prog 92 C2t:=sm MO A6 (tc Tryz.call162 C47 (tc Tryz.call163 C76 (tc Tryz.call164 C4B (tc Tryz.call165 C4F (tc Tryz.call166 D6M (tc Tryz.call167 E31 A5)))))) Tryz.func92 (by kernel_rfl) (by decide) (C2u Z3 A0T Z4 Z5 A4M A8e)
def D1Q:Nat→Option Jn:=B3 [(3,⟨[],lt 8 18 [],false⟩)]
abbrev B6w:List PK:= [.ptr (.pair (.pair (.pair (.pair (.rs 9 .str) (.rs 9 .str)) (.pair (.int .i64) (.pair (.int .i64) (.rs 109 (.pair .str (.pair (.int .i64) (.pair (.rs 5 (.int .u8)) .bool))))))) (.sl 130 A9)) (.pair (.sl 79 (.pair .str (.pair (.rs 5 (.int .u8)) E9))) (.pair (.sl 4 .bool) (.pair (.sl 113 (.pair (.int .i64) (.pair L5 (.rs 5 (.int .u8))))) (.pair (.sl 130 A9) (.sl 3 (.int .i64))))))),.val false (.int .i64) false]
abbrev B6x:List RK:= [.val false .bool]
noncomputable def B6y(f:A4e):Nat×Fn:=(195,⟨B6w,B6x,fun x=>f x.1 x.2.1⟩)
noncomputable def D1R:Fn:=(B6y A1V).2
theorem D1S(f_s_l15Does_r99_0:A0t)(f_s_l1In:E5):∀ x,(B6 C3c [B0d f_s_l15Does_r99_0,P7 f_s_l1In] D1Q 85 [.tmp 4] (Tryz.f195.body.getD .skip) B6w B6x).fn x=A91 f_s_l15Does_r99_0 f_s_l1In x.1 x.2.1:=by intro x;kernel_rfl
theorem D1T:B0 Tryz.prog 195 D1R:=sm MO A3C (tc Tryz.call92 C2v (tc Tryz.call120 R0 A5)) Tryz.func195 (by kernel_rfl) (by decide) (D1S X0 E3)
abbrev B9U:List PK:= [.ptr (.pair (.pair (.pair (.pair (.rs 9 .str) (.rs 9 .str)) (.pair (.int .i64) (.pair (.int .i64) (.rs 109 (.pair .str (.pair (.int .i64) (.pair (.rs 5 (.int .u8)) .bool))))))) (.sl 130 A9)) (.pair (.sl 79 (.pair .str (.pair (.rs 5 (.int .u8)) E9))) (.pair (.sl 4 .bool) (.pair (.sl 113 (.pair (.int .i64) (.pair L5 (.rs 5 (.int .u8))))) (.pair (.sl 130 A9) (.sl 3 (.int .i64)))))))]
abbrev B9V:List RK:= [.val false .bool]
noncomputable def B9W(f:A9o):Nat×Fn:=(196,⟨B9U,B9V,fun x=>f x.1⟩)
noncomputable def D3N:Fn:=(B9W A6e).2
theorem D3O(f_s_FlushDisk:A5v):∀ x,(B6 C3c [B8U f_s_FlushDisk] (B3 []) 46 [.tmp 2] (Tryz.f196.body.getD .skip) B9U B9V).fn x=B5N f_s_FlushDisk x.1:=by intro x;kernel_rfl
theorem D3P:B0 Tryz.prog 196 D3N:=sm MO A3C (tc Tryz.call252 D2A A5) Tryz.func196 (by kernel_rfl) (by decide) (D3O A2C)
def D3Q:Nat→Option Jn:=B3 [(501,⟨[.b 1000 [.ro 9 .str,.ro 9 .str,.int .i64,.int .i64,.ro 109 (.pair .str (.pair (.int .i64) (.pair (.rs 5 (.int .u8)) .bool))),.own 1005,.own 1006,.own 1007,.own 1008,.own 38,.own 1010],.r 38 130 A9,.r 1005 130 A9,.r 1006 79 (.pair .str (.pair (.rs 5 (.int .u8)) E9)),.r 1007 4 .bool,.r 1008 113 (.pair (.int .i64) (.pair L5 (.rs 5 (.int .u8)))),.r 1010 3 (.int .i64)],lt 56 28 [.x 62,.x 78,.x 83],true⟩)]
abbrev B9X:List PK:= [.ptr (.pair (.pair (.pair (.pair (.rs 9 .str) (.rs 9 .str)) (.pair (.int .i64) (.pair (.int .i64) (.rs 109 (.pair .str (.pair (.int .i64) (.pair (.rs 5 (.int .u8)) .bool))))))) (.sl 130 A9)) (.pair (.sl 79 (.pair .str (.pair (.rs 5 (.int .u8)) E9))) (.pair (.sl 4 .bool) (.pair (.sl 113 (.pair (.int .i64) (.pair L5 (.rs 5 (.int .u8))))) (.pair (.sl 130 A9) (.sl 3 (.int .i64))))))),.val false (.int .i64) false]
abbrev B9Y:List RK:= [.val false .bool]
noncomputable def B9Z(f:A6L):Nat×Fn:=(197,⟨B9X,B9Y,fun x=>f x.1 x.2.1⟩)
noncomputable def D3R:Fn:=(B9Z A2P).2
theorem D3S(f_s_l1In:E5)(f_s_l17Over:A3Z)(f_s_l17Hear:A9q):∀ x,(B6 C3c [P7 f_s_l1In,B6g f_s_l17Over,B0X f_s_l17Hear] D3Q 106 [.tmp 4] (Tryz.f197.body.getD .skip) B9X B9Y).fn x=B1C f_s_l1In f_s_l17Over f_s_l17Hear x.1 x.2.1:=by intro x;kernel_rfl
theorem D3T:B0 Tryz.prog 197 D3R:=sm MO A3C (tc Tryz.call120 R0 (tc Tryz.call253 C5M (tc Tryz.call254 C2F A5))) Tryz.func197 (by kernel_rfl) (by decide) (D3S E3 A1L A6g)
def D74:Nat→Option Jn:=B3 [(15,⟨[.t 5 false [.own 100000000],.r 100000000 113 (.pair (.int .i64) (.pair L5 (.rs 5 (.int .u8))))],lt 17 29 [.r 16,.r 44,.r 45,.t 6,.x 31,.x 42],true⟩),(122,⟨[.t 5 false [.own 100000000],.t 6 false [.int .i64],.r 100000000 113 (.pair (.int .i64) (.pair L5 (.rs 5 (.int .u8))))],lt 17 29 [.r 16,.r 44,.r 45,.x 31,.x 42],false⟩)]
abbrev C2w:List PK:= [.ptr (.pair (.pair (.pair (.pair (.rs 9 .str) (.rs 9 .str)) (.pair (.int .i64) (.pair (.int .i64) (.rs 109 (.pair .str (.pair (.int .i64) (.pair (.rs 5 (.int .u8)) .bool))))))) (.sl 130 A9)) (.pair (.sl 79 (.pair .str (.pair (.rs 5 (.int .u8)) E9))) (.pair (.sl 4 .bool) (.pair (.sl 113 (.pair (.int .i64) (.pair L5 (.rs 5 (.int .u8))))) (.pair (.sl 130 A9) (.sl 3 (.int .i64))))))),.val false (.int .i64) false]
abbrev C2x:List RK:= [.val false .bool]
noncomputable def C2y(f:A7w):Nat×Fn:=(198,⟨C2w,C2x,fun x=>f x.1 x.2.1⟩)
noncomputable def D75:Fn:=(C2y A4f).2
theorem D76(f_s_l1In:E5)(f_s_l18Others:A5w)(f_s_CutOff:A3K):∀ x,(B6 C3c [P7 f_s_l1In,B8X f_s_l18Others,C0i f_s_CutOff] D74 90 [.tmp 4] (Tryz.f198.body.getD .skip) C2w C2x).fn x=B3a f_s_l1In f_s_l18Others f_s_CutOff x.1 x.2.1:=by intro x;kernel_rfl
theorem D77:B0 Tryz.prog 198 D75:=sm MO A3C (tc Tryz.call120 R0 (tc Tryz.call255 D2E (tc Tryz.call256 D0g A5))) Tryz.func198 (by kernel_rfl) (by decide) (D76 E3 A2D A1M)
def D1U:Nat→Option Jn:=B3 [(1018,⟨[.t 7 false [.int .i64],.b 1000 [.own 73728,.own 73729,.int .i64,.int .i64,.ro 109 kUp,.nil,.own 1006,.own 1007,.own 28,.own 32,.own 1010],.r 28 113 (.pair (.int .i64) (.pair L5 (.rs 5 (.int .u8)))),.r 32 130 A9,.r 1006 79 (.pair .str (.pair (.rs 5 (.int .u8)) E9)),.r 1007 4 .bool,.r 1010 3 (.int .i64),.r 73728 9 .str,.r 73729 9 .str],lt 35 29 [.r 233473,.x 54,.x 57,.x 63],false⟩)]
abbrev B6z:List PK:= [.ptr (.pair (.pair (.pair (.pair (.rs 9 .str) (.rs 9 .str)) (.pair (.int .i64) (.pair (.int .i64) (.rs 109 (.pair .str (.pair (.int .i64) (.pair (.rs 5 (.int .u8)) .bool))))))) (.sl 130 A9)) (.pair (.sl 79 (.pair .str (.pair (.rs 5 (.int .u8)) E9))) (.pair (.sl 4 .bool) (.pair (.sl 113 (.pair (.int .i64) (.pair L5 (.rs 5 (.int .u8))))) (.pair (.sl 130 A9) (.sl 3 (.int .i64))))))),.val false (.rs 4 .bool) false]
abbrev B70:List RK:= [.val false .bool]
noncomputable def B71(f:A4g):Nat×Fn:=(199,⟨B6z,B70,fun x=>f x.1 x.2.1⟩)
noncomputable def D1V:Fn:=(B71 A1X).2
theorem D1W(f_s_CutOff:A3K)(f_s_OpenStore_r99_0:Y7)(f_s_FallDisk:A7l):∀ x,(B6 C3c [C0i f_s_CutOff,A7X f_s_OpenStore_r99_0,C2L f_s_FallDisk] D1U 64 [.tmp 4] (Tryz.f199.body.getD .skip) B6z B70).fn x=A92 f_s_CutOff f_s_OpenStore_r99_0 f_s_FallDisk x.1 x.2.1:=by intro x;kernel_rfl
theorem D1X:B0 Tryz.prog 199 D1V:=sm MO A3C (tc Tryz.call256 D0g (tc Tryz.call257 B7m (tc Tryz.call258 D6U A5))) Tryz.func199 (by kernel_rfl) (by decide) (D1W A1M E7 A0J)
abbrev C6U:List PK:= [.ptr (.pair (.pair (.pair (.pair (.rs 9 .str) (.rs 9 .str)) (.pair (.int .i64) (.pair (.int .i64) (.rs 109 (.pair .str (.pair (.int .i64) (.pair (.rs 5 (.int .u8)) .bool))))))) (.sl 130 A9)) (.pair (.sl 79 (.pair .str (.pair (.rs 5 (.int .u8)) E9))) (.pair (.sl 4 .bool) (.pair (.sl 113 (.pair (.int .i64) (.pair L5 (.rs 5 (.int .u8))))) (.pair (.sl 130 A9) (.sl 3 (.int .i64))))))),.val true (.pair (.int .i64) (.pair (.int .i64) (.rs 4 .bool))) false]
abbrev C6V:List RK:= [.val false .bool]
noncomputable def C6W(f:B08):Nat×Fn:=(111,⟨C6U,C6V,fun x=>f x.1 x.2.1⟩)
noncomputable def E0k:Fn:=(C6W A6t).2
theorem E0l(f_s_l18Send_W:A5x)(f_s_l18Serve_W:A4e)(f_s_l18Sync:A9o)(f_s_l18Tell_W:A6L)(f_s_l18Cut_W:A7w)(f_s_l18Crash_W:A4g):∀ x,(B6 C3c [B8a f_s_l18Send_W,B6y f_s_l18Serve_W,B9W f_s_l18Sync,B9Z f_s_l18Tell_W,C2y f_s_l18Cut_W,B71 f_s_l18Crash_W] (B3 []) 41 [.tmp 4] (Tryz.f111.body.getD .skip) C6U C6V).fn x=B5t f_s_l18Send_W f_s_l18Serve_W f_s_l18Sync f_s_l18Tell_W f_s_l18Cut_W f_s_l18Crash_W x.1 x.2.1:=by intro x;kernel_rfl
theorem E0m:B0 Tryz.prog 111 E0k:=sm MO A3C (tc Tryz.call194 D2I (tc Tryz.call195 D1T (tc Tryz.call196 D3P (tc Tryz.call197 D3T (tc Tryz.call198 D77 (tc Tryz.call199 D1X A5)))))) Tryz.func111 (by kernel_rfl) (by decide) (E0l A2E A1V A6e A2P A4f A1X)
abbrev C2z:List PK:= [.val true (.pair (.pair (.pair (.pair (.rs 9 .str) (.rs 9 .str)) (.pair (.int .i64) (.pair (.int .i64) (.rs 109 kUp)))) (.rs 130 A9)) (.pair (.rs 79 B1) (.pair (.rs 4 .bool) (.pair (.rs 113 B7) (.pair (.rs 130 A9) (.rs 3 (.int .i64))))))) false,.val true (.pair (.int .i64) (.pair (.int .i64) (.rs 4 .bool))) false]
abbrev C30:List RK:= [.val true (.pair (.pair (.pair (.pair (.rs 9 .str) (.rs 9 .str)) (.pair (.int .i64) (.pair (.int .i64) (.rs 109 (.pair .str (.pair (.int .i64) (.pair (.rs 5 (.int .u8)) .bool))))))) (.sl 130 A9)) (.pair (.sl 79 (.pair .str (.pair (.rs 5 (.int .u8)) E9))) (.pair (.sl 4 .bool) (.pair (.sl 113 (.pair (.int .i64) (.pair L5 (.rs 5 (.int .u8))))) (.pair (.sl 130 A9) (.sl 3 (.int .i64))))))),.val false .bool]
noncomputable def C31(f:A7x):Nat×Fn:=(50,⟨C2z,C30,fun x=>f x.1 x.2.1⟩)
noncomputable def D78:Fn:=(C31 A4h).2
theorem D79(f_s_WorldOk:A9i)(f_s_l18Copy:A9m)(f_s_l18Do_W:B08):∀ x,(B6 cfg [C57 f_s_WorldOk,A3w f_s_l18Copy,C6W f_s_l18Do_W] (B3 []) 20 [.cell 4 38,.tmp 5] (Tryz.f50.body.getD .skip) C2z C30).fn x=B3b f_s_WorldOk f_s_l18Copy f_s_l18Do_W x.1 x.2.1:=by intro x;kernel_rfl
theorem D7A:B0 Tryz.prog 50 D78:=sm MO A6 (tc Tryz.call70 D97 (tc Tryz.call109 B2c (tc Tryz.call111 E0m A5))) Tryz.func50 (by kernel_rfl) (by decide) (D79 A01 A6c A6t)
def D3U:Nat→Option Jn:=B3 [(2047,⟨[],lt 45 9 [],false⟩),(131071,⟨[],lt 70 13 [],false⟩),(33554431,⟨[],lt 102 9 [],false⟩)]
abbrev A6T:List PK:= [.val true (.pair (.pair (.pair (.pair (.rs 9 .str) (.rs 9 .str)) (.pair (.int .i64) (.pair (.int .i64) (.rs 248 kUp)))) (.rs 203 A9)) (.pair (.rs 218 B1) (.pair (.rs 4 .bool) (.pair (.rs 221 B7) (.pair (.rs 203 A9) (.rs 3 (.int .i64))))))) false,.val true (.pair (.int .i64) (.pair (.int .i64) (.rs 4 .bool))) false]
abbrev B9a:List RK:= [.val false .bool]
noncomputable def D3V(f:B81):Nat×Fn:=(13,⟨A6T,B9a,fun x=>f x.1 x.2.1⟩)
noncomputable def F_w_FnExactDo:Fn:=(D3V B1E).2
theorem D3W(f_i_Do:D5A)(f_s_Do_r99_0:A7x)(f_w_szWorld:A9u)(f_w_toWorld:A9x)(f_w_eqWorld:B00)(f_w_markWorld:A6B)(f_w_heldWorld:A6I)(f_w_szEvent:B05)(f_w_toEvent:B06)(f_w_eqEvent:B07)(f_w_markEvent:A6J):∀ x,(B6 cfg [E8S f_i_Do,C31 f_s_Do_r99_0,C5g f_w_szWorld,C5x f_w_toWorld,C6E f_w_eqWorld,B99 f_w_markWorld,B9Q f_w_heldWorld,C6N f_w_szEvent,C6Q f_w_toEvent,C6T f_w_eqEvent,B9T f_w_markEvent] D3U 119 [.tmp 4] (Tryz.f13.body.getD .skip) A6T B9a).fn x=B1D f_i_Do f_s_Do_r99_0 f_w_szWorld f_w_toWorld f_w_eqWorld f_w_markWorld f_w_heldWorld f_w_szEvent f_w_toEvent f_w_eqEvent f_w_markEvent x.1 x.2.1:=by intro x;kernel_rfl
theorem D3X:B0 Tryz.prog 13 F_w_FnExactDo:=sm MO A6 (tc Tryz.call46 F0q (tc Tryz.call50 D7A (tc Tryz.call51 D9k (tc Tryz.call53 E06 (tc Tryz.call54 E0S (tc Tryz.call55 D2z (tc Tryz.call56 D3J (tc Tryz.call58 E0d (tc Tryz.call59 E0g (tc Tryz.call60 E0j (tc Tryz.call61 D3M A5))))))))))) Tryz.func13 (by kernel_rfl) (by decide) (D3W C8M A4h A6j A6m A6p A2M A2O A6q A6r A6s A6K)
end Go.Proofs.YtpdcljonclhhpaaGreat.Ev
