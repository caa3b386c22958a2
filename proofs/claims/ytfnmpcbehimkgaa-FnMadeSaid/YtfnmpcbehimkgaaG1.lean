/- Each function of the program does what its plain function says. -/
import Derived.Test.YtfnmpcbehimkgaaTy
import Derived.Test.YtfnmpcbehimkgaaPu
import Derived.Test.YtfnmpcbehimkgaaIns
set_option linter.unusedVariables false
set_option maxRecDepth 100000
namespace Go.Proofs.Ytfnmpcbehimkgaa.Ev
noncomputable section
abbrev B3V:List PK:= [.val false (.int .i64) false]
abbrev B3W:List RK:= [.val false .str]
def A7I(f:A0h):Nat×Fn:=(25,⟨B3V,B3W,fun x=>f x.1⟩)
def B3X:Fn:=(A7I A37).2
theorem B3Y:B3 Try.prog 25 B3X:=fun x y h=>by cases h
abbrev A15:List PK:= [.val false (.sl 36 kUp) false,.val false (.int .i64) false,.val false (.sl 36 kUp) false]
abbrev A16:List RK:= [.val false (.sl 36 kUp)]
def P6(f:G4):Nat×Fn:=(86,⟨A15,A16,fun x=>f x.1 x.2.1 x.2.2.1⟩)
def A17:Fn:=(P6 G5).2
theorem A18:B3 Try.prog 86 A17:=B6b kUp (by decide)
abbrev A19:List PK:= [.val false (.sl 36 kUp) false,.val false (.int .i64) false,.val false (.int .i64) false]
abbrev A1A:List RK:= [.val false (.sl 36 kUp)]
def P7(f:G6):Nat×Fn:=(87,⟨A19,A1A,fun x=>f x.1 x.2.1 x.2.2.1⟩)
def A1B:Fn:=(P7 G7).2
theorem A1C:B3 Try.prog 87 A1B:=B6Z kUp (by decide)
abbrev C1N:List PK:= [.val false (.rs 5 (.int .u8)) false]
abbrev C1O:List RK:= [.val false .bool]
def C1P(f:B2L):Nat×Fn:=(5,⟨C1N,C1O,fun x=>f x.1⟩)
def C5Q:Fn:=(C1P B2M).2
theorem C5R:∀ x,(D5 cfg [] (B6 []) 6 [.tmp 2] (Try.f5.body.getD .skip) C1N C1O).fn x=B6G x.1:=by intro x;kernel_rfl
theorem C5S:B3 Try.prog 5 C5Q:=sm MO B4 A8 Try.func5 (by kernel_rfl) (by decide) (C5R)
abbrev B1X:List PK:= [.val true (.pair (.rs 9 .str) (.rs 9 .str)) false]
abbrev B1Y:List RK:= [.val true Z4]
def A46(f:R4):Nat×Fn:=(60,⟨B1X,B1Y,fun x=>f x.1⟩)
def B84:Fn:=(A46 O7).2
theorem B85:∀ x,(D5 cfg [] (B6 []) 12 [.cell 2 26] (Try.f60.body.getD .skip) B1X B1Y).fn x=A6t x.1:=by intro x;kernel_rfl
theorem A7J:B3 Try.prog 60 B84:=sm MO B4 A8 Try.func60 (by kernel_rfl) (by decide) (B85)
def B3Z:Nat→Option Jn:=B6 [(58,⟨[.t 3 false [.own 100000000],.t 4 false [.int .i64],.r 100000000 36 kUp],lt 7 19 [.b 5,.r 6,.r 17,.r 20,.r 24,.r 25,.t 5],false⟩)]
abbrev A7K:List PK:= [.val false (.rs 36 kUp) false]
abbrev A7L:List RK:= [.val false (.sl 36 kUp)]
def A7M(f:J0):Nat×Fn:=(61,⟨A7K,A7L,fun x=>f x.1⟩)
def B3a:Fn:=(A7M H8).2
theorem B3b:∀ x,(D5 cfg [] B3Z 27 [.tmp 2] (Try.f61.body.getD .skip) A7K A7L).fn x=A0i x.1:=by intro x;kernel_rfl
theorem B3c:B3 Try.prog 61 B3a:=sm MO B4 A8 Try.func61 (by kernel_rfl) (by decide) (B3b)
abbrev B86:List PK:= [.val false (.int .i64) false,.val false (.int .i64) false,.val false (.int .i64) false]
abbrev B87:List RK:= [.val false .bool]
def A28(f:L4):Nat×Fn:=(33,⟨B86,B87,fun x=>f x.1 x.2.1 x.2.2.1⟩)
def C4G:Fn:=(A28 K5).2
theorem C4H:∀ x,(D5 cfg [] (B6 []) 15 [.tmp 6] (Try.f33.body.getD .skip) B86 B87).fn x=B36 x.1 x.2.1 x.2.2.1:=by intro x;kernel_rfl
theorem A3P:B3 Try.prog 33 C4G:=sm MO B4 A8 Try.func33 (by kernel_rfl) (by decide) (C4H)
def B9o:Nat→Option Jn:=B6 [(3,⟨[],lt 4 13 [],false⟩),(58,⟨[.t 3 false [.int .i64]],lt 17 23 [],false⟩)]
abbrev B3d:List PK:= [.val true (.pair (.rs 9 .str) (.rs 9 .str)) false]
abbrev B3e:List RK:= [.val false .bool]
def A5z(f:V7):Nat×Fn:=(62,⟨B3d,B3e,fun x=>f x.1⟩)
def B9p:Fn:=(A5z M2).2
theorem B9q:∀ x,(D5 cfg [] B9o 40 [.tmp 2] (Try.f62.body.getD .skip) B3d B3e).fn x=A5X x.1:=by intro x;kernel_rfl
theorem A99:B3 Try.prog 62 B9p:=sm MO B4 A8 Try.func62 (by kernel_rfl) (by decide) (B9q)
def B9r:Nat→Option Jn:=B6 [(7,⟨[.t 1 false [.int .i64]],[.t 12,.t 13],true⟩),(250,⟨[.t 7 false [.own 100001000],.t 8 false [.int .i64],.r 100001000 5 (.int .u8)],lt 20 13 [.r 11,.r 31,.r 32],false⟩)]
abbrev B3f:List PK:= [.val false (.rs 5 (.int .u8)) false,.val false (.int .i64) false,.val false (.int .i64) false]
abbrev B3g:List RK:= [.val false (.sl 5 (.int .u8))]
def B3h(f:A5Y):Nat×Fn:=(80,⟨B3f,B3g,fun x=>f x.1 x.2.1 x.2.2.1⟩)
def B9s:Fn:=(B3h A38).2
theorem B9t(f_s_l1In:L4):∀ x,(D5 cfg [A28 f_s_l1In] B9r 34 [.tmp 6] (Try.f80.body.getD .skip) B3f B3g).fn x=A8p f_s_l1In x.1 x.2.1 x.2.2.1:=by intro x;kernel_rfl
theorem B9u:B3 Try.prog 80 B9s:=sm MO B4 (tc Try.call33 A3P A8) Try.func80 (by kernel_rfl) (by decide) (B9t K5)
def C5T:Nat→Option Jn:=B6 [(7,⟨[.t 3 false [.int .i64]],lt 4 28 [],true⟩),(58,⟨[.t 3 false [.int .i64],.t 4 false [.int .i64]],lt 5 27 [],false⟩),(7462,⟨[.t 3 false [.int .i64],.t 5 false [.int .i64]],lt 20 12 [.t 6],false⟩)]
abbrev C1Q:List PK:= [.val false (.rs 5 (.int .u8)) false]
abbrev C1R:List RK:= [.val false (.int .i64)]
def B2R(f:A3p):Nat×Fn:=(81,⟨C1Q,C1R,fun x=>f x.1⟩)
def C5U:Fn:=(B2R A2h).2
theorem C5V:∀ x,(D5 cfg [] C5T 34 [.tmp 2] (Try.f81.body.getD .skip) C1Q C1R).fn x=B6H x.1:=by intro x;kernel_rfl
theorem B6c:B3 Try.prog 81 C5U:=sm MO B4 A8 Try.func81 (by kernel_rfl) (by decide) (C5V)
abbrev B3i:List PK:= [.val true (.pair (.int .i64) (.pair (.int .i64) (.pair (.int .i64) (.pair .str (.pair (.int .i64) (.rs 5 (.int .u8))))))) false]
abbrev B3j:List RK:= [.val false .str]
def A9A(f:A1Q):Nat×Fn:=(67,⟨B3i,B3j,fun x=>f x.1⟩)
def B9v:Fn:=(A9A A0F).2
theorem B9w(f_s_PutBig:A5Y)(f_s_Crc:A3p):∀ x,(D5 cfg [B3h f_s_PutBig,B2R f_s_Crc] (B6 []) 38 [.tmp 2] (Try.f67.body.getD .skip) B3i B3j).fn x=A8q f_s_PutBig f_s_Crc x.1:=by intro x;kernel_rfl
theorem B3k:B3 Try.prog 67 B9v:=sm MO B4 (tc Try.call80 B9u (tc Try.call81 B6c A8)) Try.func67 (by kernel_rfl) (by decide) (B9w A38 A2h)
def B9x:Nat→Option Jn:=B6 [(3,⟨[],lt 10 15 [],false⟩),(15,⟨[.t 8 false [.int .i64]],lt 25 15 [.t 9],true⟩),(122,⟨[.t 8 false [.int .i64],.t 9 false [.int .i64]],lt 25 15 [],false⟩)]
abbrev B3l:List PK:= [.val false (.rs 5 (.int .u8)) false,.val false (.int .i64) false,.val false (.int .i64) false]
abbrev B3m:List RK:= [.val false (.int .i64),.val false .bool]
def B3n(f:A5Z):Nat×Fn:=(78,⟨B3l,B3m,fun x=>f x.1 x.2.1 x.2.2.1⟩)
def B9y:Fn:=(B3n A1R).2
theorem B9z(f_s_l1In:L4):∀ x,(D5 cfg [A28 f_s_l1In] B9x 41 [.tmp 6,.tmp 7] (Try.f78.body.getD .skip) B3l B3m).fn x=A8r f_s_l1In x.1 x.2.1 x.2.2.1:=by intro x;kernel_rfl
theorem C00:B3 Try.prog 78 B9y:=sm MO B4 (tc Try.call33 A3P A8) Try.func78 (by kernel_rfl) (by decide) (B9z K5)
def C2P:Nat→Option Jn:=B6 [(3,⟨[],lt 3 21 [],false⟩),(26,⟨[.t 3 false [.int .i64]],lt 4 20 [],false⟩)]
abbrev B5l:List PK:= [.val false .str false]
abbrev B5m:List RK:= [.val false .bool]
def A2v(f:O5):Nat×Fn:=(32,⟨B5l,B5m,fun x=>f x.1⟩)
def C2Q:Fn:=(A2v N3).2
theorem C2R(f_s_l1In:L4):∀ x,(D5 cfg [A28 f_s_l1In] C2P 27 [.tmp 2] (Try.f32.body.getD .skip) B5l B5m).fn x=B0U f_s_l1In x.1:=by intro x;kernel_rfl
theorem A4o:B3 Try.prog 32 C2Q:=sm MO B4 (tc Try.call33 A3P A8) Try.func32 (by kernel_rfl) (by decide) (C2R K5)
def C2S:Nat→Option Jn:=B6 [(3,⟨[],lt 3 16 [],false⟩),(943,⟨[.t 43 false [.bool]],[.t 44,.t 45],true⟩)]
abbrev B5n:List PK:= [.val true (.pair (.int .i64) (.pair (.int .i64) (.pair (.int .i64) (.pair .str (.pair (.int .i64) (.rs 5 (.int .u8))))))) false]
abbrev B5o:List RK:= [.val false .bool]
def B5p(f:A7z):Nat×Fn:=(79,⟨B5n,B5o,fun x=>f x.1⟩)
def C2T:Fn:=(B5p A4g).2
theorem C2U(f_s_l11Id:O5)(f_s_l1In:L4):∀ x,(D5 cfg [A2v f_s_l11Id,A28 f_s_l1In] C2S 55 [.tmp 2] (Try.f79.body.getD .skip) B5n B5o).fn x=B0V f_s_l11Id f_s_l1In x.1:=by intro x;kernel_rfl
theorem C2V:B3 Try.prog 79 C2T:=sm MO B4 (tc Try.call32 A4o (tc Try.call33 A3P A8)) Try.func79 (by kernel_rfl) (by decide) (C2U N3 K5)
def C01:Nat→Option Jn:=B6 [(255,⟨[],lt 42 21 [],false⟩),(4095,⟨[],lt 87 15 [],false⟩)]
abbrev B3o:List PK:= [.val false .str false]
abbrev B3p:List RK:= [.val true A2g,.val false .bool]
def A3Q(f:M3):Nat×Fn:=(66,⟨B3o,B3p,fun x=>f x.1⟩)
def C02:Fn:=(A3Q F8).2
theorem C03(f_s_l13Put:A1Q)(f_s_GetBig:A5Z)(f_s_RecOk:A7z):∀ x,(D5 cfg [A9A f_s_l13Put,B3n f_s_GetBig,B5p f_s_RecOk] C01 127 [.cell 2 66,.tmp 3] (Try.f66.body.getD .skip) B3o B3p).fn x=A8s f_s_l13Put f_s_GetBig f_s_RecOk x.1:=by intro x;kernel_rfl
theorem A60:B3 Try.prog 66 C02:=sm MO B4 (tc Try.call67 B3k (tc Try.call78 C00 (tc Try.call79 C2V A8))) Try.func66 (by kernel_rfl) (by decide) (C03 A0F A1R A4g)
def B6d:Nat→Option Jn:=B6 [(122,⟨[.t 3 false [.own 100000000],.t 4 false [.int .i64],.t 5 false [.int .i64],.r 100000000 66 A2g],lt 40 6 (lt 9 30 [.b 6,.r 8,.r 42,.r 43,.r 94213,.t 6,.t 7]),false⟩)]
abbrev A9z:List PK:= [.val true (.pair (.rs 9 .str) (.rs 9 .str)) false]
abbrev B00:List RK:= [.val false (.sl 66 A2g)]
def B01(f:S4):Nat×Fn:=(63,⟨A9z,B00,fun x=>f x.1⟩)
def B6e:Fn:=(B01 M8).2
theorem B6f(f_s_GetRec:M3):∀ x,(D5 cfg [A3Q f_s_GetRec] B6d 47 [.tmp 2] (Try.f63.body.getD .skip) A9z B00).fn x=A5a f_s_GetRec x.1:=by intro x;kernel_rfl
theorem B6g:B3 Try.prog 63 B6e:=sm MO B4 (tc Try.call66 A60 A8) Try.func63 (by kernel_rfl) (by decide) (B6f F8)
def C2W:Nat→Option Jn:=B6 [(26,⟨[.t 5 false [.int .i64]],lt 6 13 [],false⟩)]
abbrev B5q:List PK:= [.val false (.rs 36 kUp) false,.val false .str false]
abbrev B5r:List RK:= [.val false (.int .i64)]
def A1i(f:L8):Nat×Fn:=(34,⟨B5q,B5r,fun x=>f x.1 x.2.1⟩)
def C2X:Fn:=(A1i J3).2
theorem C2Y:∀ x,(D5 cfg [] C2W 20 [.tmp 4] (Try.f34.body.getD .skip) B5q B5r).fn x=B0W x.1 x.2.1:=by intro x;kernel_rfl
theorem A2w:B3 Try.prog 34 C2X:=sm MO B4 A8 Try.func34 (by kernel_rfl) (by decide) (C2Y)
def A3R:Nat→Option Jn:=B6 [(58,⟨[.t 3 false [.own 100000000],.t 4 false [.int .i64],.r 100000000 36 (.pair .str (.pair (.int .i64) (.pair (.rs 5 (.int .u8)) .bool)))],lt 7 19 [.b 5,.r 6,.r 17,.r 20,.r 24,.r 25,.t 5],false⟩)]
abbrev X2:List PK:= [.val false (.rs 36 kUp) false]
abbrev X3:List RK:= [.val false (.sl 36 (.pair .str (.pair (.int .i64) (.pair (.rs 5 (.int .u8)) .bool))))]
def N9(f:J0):Nat×Fn:=(61,⟨X2,X3,fun x=>f x.1⟩)
def A3S:Fn:=(N9 H8).2
theorem A3T:∀ x,(D5 A89 [] A3R 27 [.tmp 2] (Try.f61.body.getD .skip) X2 X3).fn x=A0i x.1:=by intro x;kernel_rfl
theorem X4:B3 Try.prog 61 A3S:=sm MO S9 A8 Try.func61 (by kernel_rfl) (by decide) (A3T)
def A4p:Nat→Option Jn:=B6 [(15,⟨[.t 5 false [.own 11],.t 6 false [.int .i64],.r 11 36 (.pair .str (.pair (.int .i64) (.pair (.rs 5 (.int .u8)) .bool)))],lt 15 23 [.x 21,.x 33,.x 35],true⟩),(60,⟨[.t 5 false [.own 11],.t 6 false [.int .i64],.r 11 36 (.pair .str (.pair (.int .i64) (.pair (.rs 5 (.int .u8)) .bool)))],lt 15 23 [.x 21,.x 33,.x 35],false⟩),(120,⟨[],lt 15 13 [.x 21],false⟩)]
abbrev A0Y:List PK:= [.val false (.rs 36 kUp) false,.val true (.pair .str (.pair (.int .i64) (.pair (.rs 5 (.int .u8)) .bool))) false]
abbrev A0Z:List RK:= [.val false (.sl 36 (.pair .str (.pair (.int .i64) (.pair (.rs 5 (.int .u8)) .bool))))]
def A0a(f:L9):Nat×Fn:=(82,⟨A0Y,A0Z,fun x=>f x.1 x.2.1⟩)
def A4q:Fn:=(A0a I6).2
theorem A4r(f_s_l14CopyUps:J0):∀ x,(D5 A89 [N9 f_s_l14CopyUps] A4p 43 [.tmp 4] (Try.f82.body.getD .skip) A0Y A0Z).fn x=Q1 f_s_l14CopyUps x.1 x.2.1:=by intro x;kernel_rfl
theorem A4s:B3 Try.prog 82 A4q:=sm MO S9 (tc Try.call61 X4 A8) Try.func82 (by kernel_rfl) (by decide) (A4r H8)
def A61:Nat→Option Jn:=B6 [(4074,⟨[],lt 43 27 [],false⟩)]
abbrev A0y:List PK:= [.val false (.sl 36 (.pair .str (.pair (.int .i64) (.pair (.rs 5 (.int .u8)) .bool)))) false,.val true (.pair (.int .i64) (.pair (.int .i64) (.pair (.int .i64) (.pair .str (.pair (.int .i64) (.rs 5 (.int .u8))))))) false]
abbrev A0z:List RK:= [.val false (.sl 36 (.pair .str (.pair (.int .i64) (.pair (.rs 5 (.int .u8)) .bool)))),.val false .bool]
def T0(f:E9):Nat×Fn:=(68,⟨A0y,A0z,fun x=>f x.1 x.2.1⟩)
def A62:Fn:=(T0 D7).2
theorem A63(f_s_l14At:L8)(f_s_l14CopyUps:J0)(f_s_l14Make_r98_0_r99_0:L9):∀ x,(D5 cfg [A1i f_s_l14At,A7M f_s_l14CopyUps,A0a f_s_l14Make_r98_0_r99_0] A61 114 [.tmp 4,.tmp 5] (Try.f68.body.getD .skip) A0y A0z).fn x=S5 f_s_l14At f_s_l14CopyUps f_s_l14Make_r98_0_r99_0 x.1 x.2.1:=by intro x;kernel_rfl
theorem A10:B3 Try.prog 68 A62:=sm MO B4 (tc Try.call34 A2w (tc Try.call61 B3c (tc Try.call82 A4s A8))) Try.func68 (by kernel_rfl) (by decide) (A63 J3 H8 I6)
def B3q:Nat→Option Jn:=B6 [(58,⟨[.t 5 false [.int .i64]],lt 11 58 [],false⟩)]
abbrev A7N:List PK:= [.val false (.rs 36 kUp) false,.val false (.rs 36 kUp) false]
abbrev A7O:List RK:= [.val false .bool]
def A7P(f:A0k):Nat×Fn:=(65,⟨A7N,A7O,fun x=>f x.1 x.2.1⟩)
def B3r:Fn:=(A7P V8).2
theorem B3s:∀ x,(D5 cfg [] B3q 69 [.tmp 4] (Try.f65.body.getD .skip) A7N A7O).fn x=A39 x.1 x.2.1:=by intro x;kernel_rfl
theorem B3t:B3 Try.prog 65 B3r:=sm MO B4 A8 Try.func65 (by kernel_rfl) (by decide) (B3s)
def A9B:Nat→Option Jn:=B6 [(7,⟨[.t 4 false [.own 100000000],.r 100000000 36 (.pair .str (.pair (.int .i64) (.pair (.rs 5 (.int .u8)) .bool)))],lt 9 17 (lt 5 3 [.r 8,.r 90112,.t 27]),false⟩),(58,⟨[.t 4 false [.own 100000000],.t 5 false [.int .i64],.r 100000000 36 (.pair .str (.pair (.int .i64) (.pair (.rs 5 (.int .u8)) .bool)))],lt 9 17 [.r 8,.r 90112,.t 6,.t 7,.t 27],false⟩)]
abbrev A3U:List PK:= [.val false (.rs 66 A2g) false]
abbrev A3V:List RK:= [.val false (.sl 36 (.pair .str (.pair (.int .i64) (.pair (.rs 5 (.int .u8)) .bool)))),.val false .bool]
def A0O(f:L3):Nat×Fn:=(64,⟨A3U,A3V,fun x=>f x.1⟩)
def A9C:Fn:=(A0O I2).2
theorem A9D(f_s_l14One_r93_0_r94_0:E9):∀ x,(D5 A89 [T0 f_s_l14One_r93_0_r94_0] A9B 29 [.tmp 2,.tmp 3] (Try.f64.body.getD .skip) A3U A3V).fn x=A0G f_s_l14One_r93_0_r94_0 x.1:=by intro x;kernel_rfl
theorem A3W:B3 Try.prog 64 A9C:=sm MO S9 (tc Try.call68 A10 A8) Try.func64 (by kernel_rfl) (by decide) (A9D D7)
def B88:Nat→Option Jn:=B6 [(3,⟨[],lt 9 10 [],false⟩),(31,⟨[],lt 27 33 [],false⟩),(506,⟨[.t 6 false [.int .i64]],lt 62 26 [.b 7,.r 319493,.t 7,.t 8],false⟩)]
abbrev B1Z:List PK:= [.val true (.pair (.pair (.rs 9 .str) (.rs 9 .str)) (.pair (.int .i64) (.pair (.int .i64) (.rs 36 kUp)))) false]
abbrev B1a:List RK:= [.val false .bool]
def A0b(f:J9):Nat×Fn:=(31,⟨B1Z,B1a,fun x=>f x.1⟩)
def B89:Fn:=(A0b C9).2
theorem B8A(f_s_l1In:L4)(f_s_DiskOk:V7)(f_s_ScanRecs:S4)(f_s_FoldRecs_r98_0:L3)(f_s_l14SameUps:A0k)(f_s_GetRec:M3):∀ x,(D5 cfg [A28 f_s_l1In,A5z f_s_DiskOk,B01 f_s_ScanRecs,A0O f_s_FoldRecs_r98_0,A7P f_s_l14SameUps,A3Q f_s_GetRec] B88 88 [.tmp 2] (Try.f31.body.getD .skip) B1Z B1a).fn x=A3s f_s_l1In f_s_DiskOk f_s_ScanRecs f_s_FoldRecs_r98_0 f_s_l14SameUps f_s_GetRec x.1:=by intro x;kernel_rfl
theorem A29:B3 Try.prog 31 B89:=sm MO B4 (tc Try.call33 A3P (tc Try.call62 A99 (tc Try.call63 B6g (tc Try.call64 A3W (tc Try.call65 B3t (tc Try.call66 A60 A8)))))) Try.func31 (by kernel_rfl) (by decide) (B8A K5 M2 M8 I2 V8 F8)
abbrev B1b:List PK:= [.val true (.pair (.pair (.rs 9 .str) (.rs 9 .str)) (.pair (.int .i64) (.pair (.int .i64) (.rs 36 kUp)))) false]
abbrev B1c:List RK:= [.val false (.int .i64)]
def A2A(f:N2):Nat×Fn:=(35,⟨B1b,B1c,fun x=>f x.1⟩)
def B8B:Fn:=(A2A L6).2
theorem B8C:∀ x,(D5 cfg [] (B6 []) 10 [.tmp 2] (Try.f35.body.getD .skip) B1b B1c).fn x=A6v x.1:=by intro x;kernel_rfl
theorem A47:B3 Try.prog 35 B8B:=sm MO B4 A8 Try.func35 (by kernel_rfl) (by decide) (B8C)
abbrev A3X:List PK:= [.ptr (.pair Z4 (.pair (.int .i64) (.pair (.int .i64) (.sl 36 (.pair .str (.pair (.int .i64) (.pair (.rs 5 (.int .u8)) .bool))))))),.val true (.pair (.int .i64) (.pair (.int .i64) (.pair (.int .i64) (.pair .str (.pair (.int .i64) (.rs 5 (.int .u8))))))) false]
abbrev A3Y:List RK:= []
def O0(f:D4):Nat×Fn:=(36,⟨A3X,A3Y,fun x=>f x.1 x.2.1⟩)
def A9E:Fn:=(O0 C3).2
theorem A9F(f_s_l13Put:A1Q)(f_s_l14One_r93_0_r94_0:E9):∀ x,(D5 cfg [A9A f_s_l13Put,T0 f_s_l14One_r93_0_r94_0] (B6 []) 46 [] (Try.f36.body.getD .skip) A3X A3Y).fn x=A0H f_s_l13Put f_s_l14One_r93_0_r94_0 x.1 x.2.1:=by intro x;kernel_rfl
theorem T1:B3 Try.prog 36 A9E:=sm MO B4 (tc Try.call67 B3k (tc Try.call68 A10 A8)) Try.func36 (by kernel_rfl) (by decide) (A9F A0F D7)
def B8D:Nat→Option Jn:=B6 [(58,⟨[.t 4 false [.int .i64],.b 3 [.own 100000000,.own 100000001],.r 100000000 9 .str,.r 100000001 9 .str],lt 6 19 [.r 17,.r 18,.r 22,.r 23],false⟩),(116,⟨[],lt 6 7 [],false⟩)]
abbrev B1d:List PK:= [.val false (.int .i64) false]
abbrev B1e:List RK:= [.val true Z4]
def B1f(f:A3t):Nat×Fn:=(51,⟨B1d,B1e,fun x=>f x.1⟩)
def B8E:Fn:=(B1f A21).2
theorem B8F:∀ x,(D5 cfg [] B8D 26 [.cell 2 26] (Try.f51.body.getD .skip) B1d B1e).fn x=A6y x.1:=by intro x;kernel_rfl
theorem B8G:B3 Try.prog 51 B8E:=sm MO B4 A8 Try.func51 (by kernel_rfl) (by decide) (B8F)
abbrev B8H:List PK:= [.val true (.pair (.pair (.rs 9 .str) (.rs 9 .str)) (.pair (.int .i64) (.pair (.int .i64) (.rs 36 kUp)))) false,.val false .str false]
abbrev B8I:List RK:= [.val true kUp,.val false .bool]
def B8J(f:A9e):Nat×Fn:=(46,⟨B8H,B8I,fun x=>f x.1 x.2.1⟩)
def C4I:Fn:=(B8J A6z).2
theorem C4J(f_s_l14At:L8):∀ x,(D5 cfg [A1i f_s_l14At] (B6 []) 26 [.cell 4 36,.tmp 5] (Try.f46.body.getD .skip) B8H B8I).fn x=B37 f_s_l14At x.1 x.2.1:=by intro x;kernel_rfl
theorem C4K:B3 Try.prog 46 C4I:=sm MO B4 (tc Try.call34 A2w A8) Try.func46 (by kernel_rfl) (by decide) (C4J J3)
abbrev A8U:List PK:= [.val true (.pair (.rs 9 .str) (.rs 9 .str)) false]
abbrev A8V:List RK:= [.val true Z4]
def A8W(f:A1l):Nat×Fn:=(99,⟨A8U,A8V,fun x=>f x.1⟩)
def B4q:Fn:=(A8W Z6).2
theorem B4r:∀ x,(D5 cfg [] (B6 []) 12 [.cell 2 26] (Try.f99.body.getD .skip) A8U A8V).fn x=A4E x.1:=by intro x;kernel_rfl
theorem B4s:B3 Try.prog 99 B4q:=sm MO B4 A8 Try.func99 (by kernel_rfl) (by decide) (B4r)
def B6h:Nat→Option Jn:=B6 [(58,⟨[.t 3 false [.int .i64],.t 4 false [.int .i64]],lt 5 27 [.b 5,.r 86021],false⟩)]
abbrev B02:List PK:= [.val true (.pair (.rs 9 .str) (.rs 9 .str)) false]
abbrev B03:List RK:= [.val false (.int .i64)]
def B04(f:A2j):Nat×Fn:=(100,⟨B02,B03,fun x=>f x.1⟩)
def B6i:Fn:=(B04 A0m).2
theorem B6j(f_s_GetRec:M3):∀ x,(D5 cfg [A3Q f_s_GetRec] B6h 33 [.tmp 2] (Try.f100.body.getD .skip) B02 B03).fn x=A5b f_s_GetRec x.1:=by intro x;kernel_rfl
theorem B6k:B3 Try.prog 100 B6i:=sm MO B4 (tc Try.call66 A60 A8) Try.func100 (by kernel_rfl) (by decide) (B6j F8)
def B6l:Nat→Option Jn:=B6 [(122,⟨[.t 6 false [.int .i64],.b 5 [.own 36864,.own 36865],.r 36864 9 .str,.r 36865 9 .str],lt 13 35 [.x 36,.x 38,.x 45,.x 47],false⟩),(1956,⟨[.t 29 false [.bool]],lt 20 9 [],true⟩)]
abbrev B05:List PK:= [.val true (.pair (.rs 9 .str) (.rs 9 .str)) false,.val false (.rs 4 .bool) false]
abbrev B06:List RK:= [.val true Z4]
def B07(f:A2k):Nat×Fn:=(93,⟨B05,B06,fun x=>f x.1 x.2.1⟩)
def B6m:Fn:=(B07 Y2).2
theorem B6n(f_s_l12Copy:R4)(f_s_DiskOk:V7):∀ x,(D5 cfg [A46 f_s_l12Copy,A5z f_s_DiskOk] B6l 49 [.cell 4 26] (Try.f93.body.getD .skip) B05 B06).fn x=A5c f_s_l12Copy f_s_DiskOk x.1 x.2.1:=by intro x;kernel_rfl
theorem B6o:B3 Try.prog 93 B6m:=sm MO B4 (tc Try.call60 A7J (tc Try.call62 A99 A8)) Try.func93 (by kernel_rfl) (by decide) (B6n O7 M2)
abbrev A0c:List PK:= [.val true (.pair (.pair (.rs 9 .str) (.rs 9 .str)) (.pair (.int .i64) (.pair (.int .i64) (.rs 36 kUp)))) false]
abbrev A0d:List RK:= [.val true (.pair Z4 (.pair (.int .i64) (.pair (.int .i64) (.sl 36 (.pair .str (.pair (.int .i64) (.pair (.rs 5 (.int .u8)) .bool)))))))]
def G3(f:J8):Nat×Fn:=(30,⟨A0c,A0d,fun x=>f x.1⟩)
def A4t:Fn:=(G3 I5).2
theorem A4u(f_s_l12Copy:R4)(f_s_l14CopyUps:J0):∀ x,(D5 A89 [A46 f_s_l12Copy,N9 f_s_l14CopyUps] (B6 []) 14 [.cell 2 29] (Try.f30.body.getD .skip) A0c A0d).fn x=A6u f_s_l12Copy f_s_l14CopyUps x.1:=by intro x;kernel_rfl
theorem I8:B3 Try.prog 30 A4t:=sm MO S9 (tc Try.call60 A7J (tc Try.call61 X4 A8)) Try.func30 (by kernel_rfl) (by decide) (A4u O7 H8)
def B0m:Nat→Option Jn:=B6 [(7,⟨[],lt 33 10 (lt 26 6 (lt 11 14 [])),false⟩),(28,⟨[.t 11 false [.bool]],lt 12 13 [],true⟩)]
abbrev A4v:List PK:= [.val true (.pair (.pair (.rs 9 .str) (.rs 9 .str)) (.pair (.int .i64) (.pair (.int .i64) (.rs 36 kUp)))) false,.val false .str false,.val false (.int .i64) false]
abbrev A4w:List RK:= [.val true (.pair Z4 (.pair (.int .i64) (.pair (.int .i64) (.sl 36 (.pair .str (.pair (.int .i64) (.pair (.rs 5 (.int .u8)) .bool))))))),.val false (.int .i64)]
def Z1(f:H2):Nat×Fn:=(8,⟨A4v,A4w,fun x=>f x.1 x.2.1 x.2.2.1⟩)
def B0n:Fn:=(Z1 D3).2
theorem B0o(f_s_l14Copy:J8)(f_s_StoreOk:J9)(f_s_l11Id:O5)(f_s_l1In:L4)(f_s_l14At:L8)(f_s_l14Left:N2)(f_s_l14Write_r96_0:D4):∀ x,(D5 A89 [G3 f_s_l14Copy,A0b f_s_StoreOk,A2v f_s_l11Id,A28 f_s_l1In,A1i f_s_l14At,A2A f_s_l14Left,O0 f_s_l14Write_r96_0] B0m 49 [.cell 6 29,.tmp 7] (Try.f8.body.getD .skip) A4v A4w).fn x=Y3 f_s_l14Copy f_s_StoreOk f_s_l11Id f_s_l1In f_s_l14At f_s_l14Left f_s_l14Write_r96_0 x.1 x.2.1 x.2.2.1:=by intro x;kernel_rfl
theorem A1j:B3 Try.prog 8 B0n:=sm MO S9 (tc Try.call30 I8 (tc Try.call31 A29 (tc Try.call32 A4o (tc Try.call33 A3P (tc Try.call34 A2w (tc Try.call35 A47 (tc Try.call36 T1 A8))))))) Try.func8 (by kernel_rfl) (by decide) (B0o I5 C9 N3 K5 J3 L6 C3)
abbrev A3Z:List PK:= [.val false (.int .i64) false]
abbrev A3a:List RK:= [.val true (.pair Z4 (.pair (.int .i64) (.pair (.int .i64) (.sl 36 (.pair .str (.pair (.int .i64) (.pair (.rs 5 (.int .u8)) .bool)))))))]
def A0P(f:Y1):Nat×Fn:=(23,⟨A3Z,A3a,fun x=>f x.1⟩)
def A9G:Fn:=(A0P O9).2
theorem A9H(f_s_DiskNew:A3t):∀ x,(D5 A89 [B1f f_s_DiskNew] (B6 []) 6 [.cell 2 29] (Try.f23.body.getD .skip) A3Z A3a).fn x=A2i f_s_DiskNew x.1:=by intro x;kernel_rfl
theorem A3b:B3 Try.prog 23 A9G:=sm MO S9 (tc Try.call51 B8G A8) Try.func23 (by kernel_rfl) (by decide) (A9H A21)
def B1x:Nat→Option Jn:=B6 [(7,⟨[],lt 17 14 [],false⟩),(127,⟨[],lt 64 9 (lt 44 19 []),false⟩),(255,⟨[.b 10 [.own 100003000,.own 100003001,.int .i64,.int .i64,.own 100003002],.r 100003000 9 .str,.r 100003001 9 .str,.r 100003002 36 (.pair .str (.pair (.int .i64) (.pair (.rs 5 (.int .u8)) .bool)))],lt 74 26 [.r 92,.r 97,.r 69632,.r 69633,.r 69636,.r 411648,.r 411649,.r 411652,.t 13,.t 14],true⟩),(508,⟨[.t 44 false [.bool]],lt 45 18 [],true⟩),(2042,⟨[.t 13 false [.int .i64],.b 10 [.own 100003000,.own 100003001,.int .i64,.int .i64,.own 100003002],.r 100003000 9 .str,.r 100003001 9 .str,.r 100003002 36 (.pair .str (.pair (.int .i64) (.pair (.rs 5 (.int .u8)) .bool)))],lt 74 26 [.r 92,.r 97,.r 69632,.r 69633,.r 69636,.r 411648,.r 411649,.r 411652,.t 14],false⟩),(65353,⟨[.t 14 false [.int .i64]],lt 82 6 [],true⟩)]
abbrev A6C:List PK:= [.val true (.pair (.pair (.rs 9 .str) (.rs 9 .str)) (.pair (.int .i64) (.pair (.int .i64) (.rs 36 kUp)))) false,.val false .str false,.val false (.int .i64) false,.val false (.rs 5 (.int .u8)) false]
abbrev A6D:List RK:= [.val true (.pair Z4 (.pair (.int .i64) (.pair (.int .i64) (.sl 36 (.pair .str (.pair (.int .i64) (.pair (.rs 5 (.int .u8)) .bool))))))),.val false (.int .i64)]
def A6E(f:A0A):Nat×Fn:=(15,⟨A6C,A6D,fun x=>f x.1 x.2.1 x.2.2.1 x.2.2.2.1⟩)
def B1y:Fn:=(A6E T3).2
theorem B1z(f_s_l14Copy:J8)(f_s_StoreOk:J9)(f_s_l11Id:O5)(f_s_l1In:L4)(f_s_l14At:L8)(f_s_l14Left:N2)(f_s_l14Write_r96_0:D4):∀ x,(D5 A89 [G3 f_s_l14Copy,A0b f_s_StoreOk,A2v f_s_l11Id,A28 f_s_l1In,A1i f_s_l14At,A2A f_s_l14Left,O0 f_s_l14Write_r96_0] B1x 101 [.cell 8 29,.tmp 9] (Try.f15.body.getD .skip) A6C A6D).fn x=A2H f_s_l14Copy f_s_StoreOk f_s_l11Id f_s_l1In f_s_l14At f_s_l14Left f_s_l14Write_r96_0 x.1 x.2.1 x.2.2.1 x.2.2.2.1:=by intro x;kernel_rfl
theorem B20:B3 Try.prog 15 B1y:=sm MO S9 (tc Try.call30 I8 (tc Try.call31 A29 (tc Try.call32 A4o (tc Try.call33 A3P (tc Try.call34 A2w (tc Try.call35 A47 (tc Try.call36 T1 A8))))))) Try.func15 (by kernel_rfl) (by decide) (B1z I5 C9 N3 K5 J3 L6 C3)
def B0p:Nat→Option Jn:=B6 [(7,⟨[],lt 13 8 [],false⟩)]
abbrev A4x:List PK:= [.val true (.pair (.pair (.rs 9 .str) (.rs 9 .str)) (.pair (.int .i64) (.pair (.int .i64) (.rs 36 kUp)))) false,.val false .str false,.val false (.int .i64) false]
abbrev A4y:List RK:= [.val true (.pair Z4 (.pair (.int .i64) (.pair (.int .i64) (.sl 36 (.pair .str (.pair (.int .i64) (.pair (.rs 5 (.int .u8)) .bool))))))),.val false (.int .i64)]
def A4z(f:Y4):Nat×Fn:=(89,⟨A4x,A4y,fun x=>f x.1 x.2.1 x.2.2.1⟩)
def B0q:Fn:=(A4z Q3).2
theorem B0r(f_s_l14Copy:J8)(f_s_StoreOk:J9)(f_s_l11Id:O5)(f_s_l14At:L8)(f_s_l14Left:N2)(f_s_l14Write_r96_0:D4)(f_s_Crc:A3p):∀ x,(D5 A89 [G3 f_s_l14Copy,A0b f_s_StoreOk,A2v f_s_l11Id,A1i f_s_l14At,A2A f_s_l14Left,O0 f_s_l14Write_r96_0,B2R f_s_Crc] B0p 62 [.cell 6 29,.tmp 7] (Try.f89.body.getD .skip) A4x A4y).fn x=A1U f_s_l14Copy f_s_StoreOk f_s_l11Id f_s_l14At f_s_l14Left f_s_l14Write_r96_0 f_s_Crc x.1 x.2.1 x.2.2.1:=by intro x;kernel_rfl
theorem B0s:B3 Try.prog 89 B0q:=sm MO S9 (tc Try.call30 I8 (tc Try.call31 A29 (tc Try.call32 A4o (tc Try.call34 A2w (tc Try.call35 A47 (tc Try.call36 T1 (tc Try.call81 B6c A8))))))) Try.func89 (by kernel_rfl) (by decide) (B0r I5 C9 N3 J3 L6 C3 A2h)
def B0t:Nat→Option Jn:=B6 [(7,⟨[],lt 26 4 (lt 19 6 (lt 9 9 [])),false⟩),(28,⟨[.t 9 false [.bool]],lt 10 8 [],true⟩)]
abbrev A50:List PK:= [.val true (.pair (.pair (.rs 9 .str) (.rs 9 .str)) (.pair (.int .i64) (.pair (.int .i64) (.rs 36 kUp)))) false,.val false .str false]
abbrev A51:List RK:= [.val true (.pair Z4 (.pair (.int .i64) (.pair (.int .i64) (.sl 36 (.pair .str (.pair (.int .i64) (.pair (.rs 5 (.int .u8)) .bool))))))),.val false (.int .i64)]
def A52(f:Y5):Nat×Fn:=(90,⟨A50,A51,fun x=>f x.1 x.2.1⟩)
def B0u:Fn:=(A52 Q4).2
theorem B0v(f_s_l14Copy:J8)(f_s_StoreOk:J9)(f_s_l11Id:O5)(f_s_l14At:L8)(f_s_l14Left:N2)(f_s_l14Write_r96_0:D4):∀ x,(D5 A89 [G3 f_s_l14Copy,A0b f_s_StoreOk,A2v f_s_l11Id,A1i f_s_l14At,A2A f_s_l14Left,O0 f_s_l14Write_r96_0] B0t 35 [.cell 4 29,.tmp 5] (Try.f90.body.getD .skip) A50 A51).fn x=A1V f_s_l14Copy f_s_StoreOk f_s_l11Id f_s_l14At f_s_l14Left f_s_l14Write_r96_0 x.1 x.2.1:=by intro x;kernel_rfl
theorem B0w:B3 Try.prog 90 B0u:=sm MO S9 (tc Try.call30 I8 (tc Try.call31 A29 (tc Try.call32 A4o (tc Try.call34 A2w (tc Try.call35 A47 (tc Try.call36 T1 A8)))))) Try.func90 (by kernel_rfl) (by decide) (B0v I5 C9 N3 J3 L6 C3)
abbrev A2V:List PK:= [.val true (.pair (.pair (.rs 9 .str) (.rs 9 .str)) (.pair (.int .i64) (.pair (.int .i64) (.rs 36 kUp)))) false]
abbrev A2W:List RK:= [.val true (.pair Z4 (.pair (.int .i64) (.pair (.int .i64) (.sl 36 (.pair .str (.pair (.int .i64) (.pair (.rs 5 (.int .u8)) .bool)))))))]
def A2X(f:A1m):Nat×Fn:=(91,⟨A2V,A2W,fun x=>f x.1⟩)
def A8A:Fn:=(A2X A1n).2
theorem A8B(f_s_l14Copy:J8)(f_s_StoreOk:J9)(f_s_FlushDisk:A1l):∀ x,(D5 A89 [G3 f_s_l14Copy,A0b f_s_StoreOk,A8W f_s_FlushDisk] (B6 []) 13 [.cell 2 29] (Try.f91.body.getD .skip) A2V A2W).fn x=A4F f_s_l14Copy f_s_StoreOk f_s_FlushDisk x.1:=by intro x;kernel_rfl
theorem A8C:B3 Try.prog 91 A8A:=sm MO S9 (tc Try.call30 I8 (tc Try.call31 A29 (tc Try.call99 B4s A8))) Try.func91 (by kernel_rfl) (by decide) (A8B I5 C9 Z6)
def A4M:Nat→Option Jn:=B6 [(122,⟨[.t 3 false [.own 100000000],.t 4 false [.int .i64],.t 5 false [.int .i64],.r 100000000 66 (.pair (.int .i64) (.pair (.int .i64) (.pair (.int .i64) (.pair .str (.pair (.int .i64) (.rs 5 (.int .u8)))))))],lt 40 6 (lt 9 30 [.b 6,.r 8,.r 42,.r 43,.r 94213,.t 6,.t 7]),false⟩)]
abbrev A01:List PK:= [.val true (.pair (.rs 9 .str) (.rs 9 .str)) false]
abbrev A02:List RK:= [.val false (.sl 66 (.pair (.int .i64) (.pair (.int .i64) (.pair (.int .i64) (.pair .str (.pair (.int .i64) (.rs 5 (.int .u8))))))))]
def A03(f:S4):Nat×Fn:=(63,⟨A01,A02,fun x=>f x.1⟩)
def A4N:Fn:=(A03 M8).2
theorem A4O(f_s_GetRec:M3):∀ x,(D5 A89 [A3Q f_s_GetRec] A4M 47 [.tmp 2] (Try.f63.body.getD .skip) A01 A02).fn x=A5a f_s_GetRec x.1:=by intro x;kernel_rfl
theorem A4P:B3 Try.prog 63 A4N:=sm MO S9 (tc Try.call66 A60 A8) Try.func63 (by kernel_rfl) (by decide) (A4O F8)
def A8D:Nat→Option Jn:=B6 [(63,⟨[],lt 22 6 [],false⟩)]
abbrev A2Y:List PK:= [.val true (.pair (.rs 9 .str) (.rs 9 .str)) false]
abbrev A2Z:List RK:= [.val true (.pair Z4 (.pair (.int .i64) (.pair (.int .i64) (.sl 36 (.pair .str (.pair (.int .i64) (.pair (.rs 5 (.int .u8)) .bool))))))),.val false .bool]
def A2a(f:P8):Nat×Fn:=(92,⟨A2Y,A2Z,fun x=>f x.1⟩)
def A8E:Fn:=(A2a J4).2
theorem A8F(f_s_l12Copy:R4)(f_s_DiskOk:V7)(f_s_ScanRecs:S4)(f_s_FoldRecs_r98_0:L3)(f_s_TopEpoch:A2j):∀ x,(D5 A89 [A46 f_s_l12Copy,A5z f_s_DiskOk,A03 f_s_ScanRecs,A0O f_s_FoldRecs_r98_0,B04 f_s_TopEpoch] A8D 36 [.cell 2 29,.tmp 3] (Try.f92.body.getD .skip) A2Y A2Z).fn x=Z2 f_s_l12Copy f_s_DiskOk f_s_ScanRecs f_s_FoldRecs_r98_0 f_s_TopEpoch x.1:=by intro x;kernel_rfl
theorem A8G:B3 Try.prog 92 A8E:=sm MO S9 (tc Try.call60 A7J (tc Try.call62 A99 (tc Try.call63 A4P (tc Try.call64 A3W (tc Try.call100 B6k A8))))) Try.func92 (by kernel_rfl) (by decide) (A8F O7 M2 M8 I2 A0m)
abbrev B3u:List PK:= [.val false (.rs 5 (.int .u8)) false,.val false (.int .i64) false]
abbrev B3v:List RK:= [.val false (.int .i64)]
def B3w(f:A5d):Nat×Fn:=(21,⟨B3u,B3v,fun x=>f x.1 x.2.1⟩)
def C04:Fn:=(B3w A3A).2
theorem C05:∀ x,(D5 cfg [] (B6 []) 15 [.tmp 4] (Try.f21.body.getD .skip) B3u B3v).fn x=A8v x.1 x.2.1:=by intro x;kernel_rfl
theorem C06:B3 Try.prog 21 C04:=sm MO B4 A8 Try.func21 (by kernel_rfl) (by decide) (C05)
abbrev B3x:List PK:= [.val false (.int .i64) false]
abbrev B3y:List RK:= [.val false .str]
def B3z(f:A3B):Nat×Fn:=(25,⟨B3x,B3y,fun x=>f x.1⟩)
def C07:Fn:=(B3z A0J).2
theorem C08(f_s_l1Text_nil:A0h):∀ x,(D5 cfg [A7I f_s_l1Text_nil] (B6 []) 20 [.tmp 2] (Try.f25.body.getD .skip) B3x B3y).fn x=A8w f_s_l1Text_nil x.1:=by intro x;kernel_rfl
theorem C09:B3 Try.prog 25 C07:=sm MO B4 (tc Try.call25 B3Y A8) Try.func25 (by kernel_rfl) (by decide) (C08 A37)
abbrev B1g:List PK:= [.val false (.int .i64) false,.val false (.int .i64) false,.val false (.int .i64) false]
abbrev B1h:List RK:= [.val false .bool]
def A0e(f:K0):Nat×Fn:=(56,⟨B1g,B1h,fun x=>f x.1 x.2.1 x.2.2.1⟩)
def B8K:Fn:=(A0e K1).2
theorem B8L:∀ x,(D5 cfg [] (B6 []) 15 [.tmp 6] (Try.f56.body.getD .skip) B1g B1h).fn x=B1P x.1 x.2.1 x.2.2.1:=by intro x;kernel_rfl
theorem A2B:B3 Try.prog 56 B8K:=sm MO B4 A8 Try.func56 (by kernel_rfl) (by decide) (B8L)
abbrev B1i:List PK:= [.val false (.int .i64) false]
abbrev B1j:List RK:= [.val false .bool]
def A7Q(f:A0U):Nat×Fn:=(39,⟨B1i,B1j,fun x=>f x.1⟩)
def B8M:Fn:=(A7Q W0).2
theorem B8N(f_i_inRange:K0):∀ x,(D5 cfg [A0e f_i_inRange] (B6 []) 5 [.tmp 2] (Try.f39.body.getD .skip) B1i B1j).fn x=A3u f_i_inRange x.1:=by intro x;kernel_rfl
theorem B1k:B3 Try.prog 39 B8M:=sm MO B4 (tc Try.call56 A2B A8) Try.func39 (by kernel_rfl) (by decide) (B8N K1)
def C0A:Nat→Option Jn:=B6 [(3,⟨[],lt 4 13 [],false⟩),(58,⟨[.t 20 false [.int .i64]],lt 21 19 [.t 3],false⟩)]
abbrev B40:List PK:= [.val true (.pair (.rs 9 .str) (.rs 9 .str)) false]
abbrev B41:List RK:= [.val false .bool]
def B42(f:A5e):Nat×Fn:=(40,⟨B40,B41,fun x=>f x.1⟩)
def C0B:Fn:=(B42 A5f).2
theorem C0C:∀ x,(D5 cfg [] C0A 40 [.tmp 2] (Try.f40.body.getD .skip) B40 B41).fn x=B38 x.1:=by intro x;kernel_rfl
theorem C0D:B3 Try.prog 40 C0B:=sm MO B4 A8 Try.func40 (by kernel_rfl) (by decide) (C0C)
def C5W:Nat→Option Jn:=B6 [(7,⟨[.t 3 false [.int .u32]],lt 5 24 [],true⟩),(58,⟨[.t 3 false [.int .u32],.t 9 false [.int .i64]],lt 10 19 [.t 5,.t 6],false⟩),(29902,⟨[.t 3 false [.int .u32],.t 17 false [.int .i64]],lt 18 10 [.t 6],false⟩)]
abbrev C1S:List PK:= [.val false (.rs 5 (.int .u8)) false]
abbrev C1T:List RK:= [.val false (.int .i64)]
def C1U(f:B2N):Nat×Fn:=(18,⟨C1S,C1T,fun x=>f x.1⟩)
def C5X:Fn:=(C1U A9f).2
theorem C5Y:∀ x,(D5 cfg [] C5W 32 [.tmp 2] (Try.f18.body.getD .skip) C1S C1T).fn x=B6J x.1:=by intro x;kernel_rfl
theorem C5Z:B3 Try.prog 18 C5X:=sm MO B4 A8 Try.func18 (by kernel_rfl) (by decide) (C5Y)
def C4L:Nat→Option Jn:=B6 [(3,⟨[],lt 3 30 [],false⟩),(26,⟨[.t 3 false [.int .i64]],lt 4 29 [],false⟩)]
abbrev B8O:List PK:= [.val false .str false]
abbrev B8P:List RK:= [.val false .bool]
def B08(f:A22):Nat×Fn:=(55,⟨B8O,B8P,fun x=>f x.1⟩)
def C4M:Fn:=(B08 A0o).2
theorem C4N(f_i_inRange:K0):∀ x,(D5 cfg [A0e f_i_inRange] C4L 36 [.tmp 2] (Try.f55.body.getD .skip) B8O B8P).fn x=B39 f_i_inRange x.1:=by intro x;kernel_rfl
theorem B43:B3 Try.prog 55 C4M:=sm MO B4 (tc Try.call56 A2B A8) Try.func55 (by kernel_rfl) (by decide) (C4N K1)
def C2Z:Nat→Option Jn:=B6 [(3,⟨[],lt 3 22 [],false⟩)]
abbrev B5s:List PK:= [.val true (.pair (.int .i64) (.pair (.int .i64) (.pair (.int .i64) (.pair .str (.pair (.int .i64) (.rs 5 (.int .u8))))))) false]
abbrev B5t:List RK:= [.val false .bool]
def B0x(f:A2r):Nat×Fn:=(85,⟨B5s,B5t,fun x=>f x.1⟩)
def C2a:Fn:=(B0x A1W).2
theorem C2b(f_i_isEpoch:A0U)(f_i_idOk:A22)(f_i_inRange:K0):∀ x,(D5 cfg [A7Q f_i_isEpoch,B08 f_i_idOk,A0e f_i_inRange] C2Z 58 [.tmp 2] (Try.f85.body.getD .skip) B5s B5t).fn x=B0b f_i_isEpoch f_i_idOk f_i_inRange x.1:=by intro x;kernel_rfl
theorem B5u:B3 Try.prog 85 C2a:=sm MO B4 (tc Try.call39 B1k (tc Try.call55 B43 (tc Try.call56 A2B A8))) Try.func85 (by kernel_rfl) (by decide) (C2b W0 A0o K1)
def C0E:Nat→Option Jn:=B6 [(58,⟨[.t 0 false [.own 100000000],.t 7 false [.int .i64],.r 100000000 5 (.int .u8)],lt 12 13 [.r 23,.r 24,.r 1000],false⟩)]
abbrev B44:List PK:= [.val false (.sl 5 (.int .u8)) false,.val false (.int .i64) false,.val false (.int .i64) false]
abbrev B45:List RK:= [.val false (.sl 5 (.int .u8))]
def B46(f:A5i):Nat×Fn:=(95,⟨B44,B45,fun x=>f x.1 x.2.1 x.2.2.1⟩)
def C0F:Fn:=(B46 A3C).2
theorem C0G:∀ x,(D5 cfg [] C0E 26 [.tmp 6] (Try.f95.body.getD .skip) B44 B45).fn x=A8x x.1 x.2.1 x.2.2.1:=by intro x;kernel_rfl
theorem C0H:B3 Try.prog 95 C0F:=sm MO B4 A8 Try.func95 (by kernel_rfl) (by decide) (C0G)
abbrev B47:List PK:= [.val true (.pair (.int .i64) (.pair (.int .i64) (.pair (.int .i64) (.pair .str (.pair (.int .i64) (.rs 5 (.int .u8))))))) false]
abbrev B48:List RK:= [.val false .str]
def A9I(f:A1X):Nat×Fn:=(77,⟨B47,B48,fun x=>f x.1⟩)
def C0I:Fn:=(A9I A0K).2
theorem C0J(f_i_Crc:B2N)(f_i_RecOk:A2r)(f_i_putBig:A5i):∀ x,(D5 cfg [C1U f_i_Crc,B0x f_i_RecOk,B46 f_i_putBig] (B6 []) 45 [.tmp 2] (Try.f77.body.getD .skip) B47 B48).fn x=A8y f_i_Crc f_i_RecOk f_i_putBig x.1:=by intro x;kernel_rfl
theorem B49:B3 Try.prog 77 C0I:=sm MO B4 (tc Try.call18 C5Z (tc Try.call85 B5u (tc Try.call95 C0H A8))) Try.func77 (by kernel_rfl) (by decide) (C0J A9f A1W A3C)
def C0K:Nat→Option Jn:=B6 [(3,⟨[],lt 11 15 [],false⟩),(15,⟨[.t 8 false [.int .i64]],lt 26 17 [.t 10],true⟩),(122,⟨[.t 8 false [.int .i64],.t 33 false [.int .i64]],lt 34 9 [.t 10],false⟩)]
abbrev B4A:List PK:= [.val false (.rs 5 (.int .u8)) false,.val false (.int .i64) false,.val false (.int .i64) false]
abbrev B4B:List RK:= [.val false (.int .i64),.val false .bool]
def B4C(f:A5j):Nat×Fn:=(96,⟨B4A,B4B,fun x=>f x.1 x.2.1 x.2.2.1⟩)
def C0L:Fn:=(B4C A3D).2
theorem C0M(f_i_inRange:K0):∀ x,(D5 cfg [A0e f_i_inRange] C0K 44 [.tmp 6,.tmp 7] (Try.f96.body.getD .skip) B4A B4B).fn x=A8z f_i_inRange x.1 x.2.1 x.2.2.1:=by intro x;kernel_rfl
theorem C0N:B3 Try.prog 96 C0L:=sm MO B4 (tc Try.call56 A2B A8) Try.func96 (by kernel_rfl) (by decide) (C0M K1)
def A6Q:Nat→Option Jn:=B6 [(7,⟨[],lt 20 8 [],false⟩)]
abbrev A1D:List PK:= [.ptr A3o,.val false (.int .i64) false]
abbrev A1E:List RK:= [.val false (.int .i64)]
def A1F(f:O1):Nat×Fn:=(83,⟨A1D,A1E,fun x=>f x.1 x.2.1⟩)
def A6R:Fn:=(A1F B8).2
theorem A6S(f_i_GetBig:A5j):∀ x,(D5 cfg [B4C f_i_GetBig] A6Q 40 [.tmp 4] (Try.f83.body.getD .skip) A1D A1E).fn x=K6 f_i_GetBig x.1 x.2.1:=by intro x;kernel_rfl
theorem A6T:B3 Try.prog 83 A6R:=sm MO B4 (tc Try.call96 C0N A8) Try.func83 (by kernel_rfl) (by decide) (A6S A3D)
abbrev A04:List PK:= [.val false (.rs 5 (.int .u8)) false]
abbrev A05:List RK:= [.val false (.sl 5 (.int .u8))]
def P5(f:F7):Nat×Fn:=(69,⟨A04,A05,fun x=>f x.1⟩)
def A4Q:Fn:=(P5 E1).2
theorem A4R:∀ x,(D5 cfg [] (B6 []) 8 [.tmp 2] (Try.f69.body.getD .skip) A04 A05).fn x=P2 x.1:=by intro x;kernel_rfl
theorem A06:B3 Try.prog 69 A4Q:=sm MO B4 A8 Try.func69 (by kernel_rfl) (by decide) (A4R)
def A8H:Nat→Option Jn:=B6 [(3,⟨[],lt 5 18 [],false⟩)]
abbrev A2b:List PK:= [.ptr A3o,.val false (.int .i64) false]
abbrev A2c:List RK:= [.val false (.sl 5 (.int .u8))]
def A2d(f:P9):Nat×Fn:=(84,⟨A2b,A2c,fun x=>f x.1 x.2.1⟩)
def A8I:Fn:=(A2d E6).2
theorem A8J(f_slices_Clone_byte_byte:F7):∀ x,(D5 cfg [P5 f_slices_Clone_byte_byte] A8H 50 [.tmp 4] (Try.f84.body.getD .skip) A2b A2c).fn x=M7 f_slices_Clone_byte_byte x.1 x.2.1:=by intro x;kernel_rfl
theorem A8K:B3 Try.prog 84 A8I:=sm MO B4 (tc Try.call69 A06 A8) Try.func84 (by kernel_rfl) (by decide) (A8J E1)
abbrev B4D:List PK:= [.val false .str false]
abbrev B4E:List RK:= [.val true A2g,.val false .bool]
def A9J(f:W3):Nat×Fn:=(70,⟨B4D,B4E,fun x=>f x.1⟩)
def C0O:Fn:=(A9J S7).2
theorem C0P(f_i_PutRec:A1X)(f_i_byteReader_number:O1)(f_i_byteReader_take:P9)(f_i_RecOk:A2r):∀ x,(D5 cfg [A9I f_i_PutRec,A1F f_i_byteReader_number,A2d f_i_byteReader_take,B0x f_i_RecOk] (B6 []) 42 [.cell 2 66,.tmp 3] (Try.f70.body.getD .skip) B4D B4E).fn x=A90 f_i_PutRec f_i_byteReader_number f_i_byteReader_take f_i_RecOk x.1:=by intro x;kernel_rfl
theorem B4F:B3 Try.prog 70 C0O:=sm MO B4 (tc Try.call77 B49 (tc Try.call83 A6T (tc Try.call84 A8K (tc Try.call85 B5u A8)))) Try.func70 (by kernel_rfl) (by decide) (C0P A0K B8 E6 A1W)
def B6p:Nat→Option Jn:=B6 [(122,⟨[.t 3 false [.own 100000000],.t 4 false [.int .i64],.t 12 false [.int .i64],.r 100000000 66 A2g],lt 13 30 (lt 5 4 [.b 7,.r 38,.r 39,.r 81925]),false⟩)]
abbrev B09:List PK:= [.val true (.pair (.rs 9 .str) (.rs 9 .str)) false]
abbrev B0A:List RK:= [.val false (.sl 66 A2g)]
def B0B(f:A2l):Nat×Fn:=(41,⟨B09,B0A,fun x=>f x.1⟩)
def B6q:Fn:=(B0B A0r).2
theorem B6r(f_i_GetRec:W3):∀ x,(D5 cfg [A9J f_i_GetRec] B6p 44 [.tmp 2] (Try.f41.body.getD .skip) B09 B0A).fn x=A5k f_i_GetRec x.1:=by intro x;kernel_rfl
theorem B6s:B3 Try.prog 41 B6q:=sm MO B4 (tc Try.call70 B4F A8) Try.func41 (by kernel_rfl) (by decide) (B6r S7)
def C4O:Nat→Option Jn:=B6 [(7,⟨[.t 6 false [.int .i64]],lt 7 15 [],true⟩),(28,⟨[.t 6 false [.int .i64]],lt 7 15 [],false⟩)]
abbrev B8Q:List PK:= [.val false (.rs 36 kUp) false,.val false .str false]
abbrev B8R:List RK:= [.val false (.int .i64),.val false .bool]
def B8S(f:A9g):Nat×Fn:=(76,⟨B8Q,B8R,fun x=>f x.1 x.2.1⟩)
def C4P:Fn:=(B8S W4).2
theorem C4Q:∀ x,(D5 cfg [] C4O 36 [.tmp 4,.tmp 5] (Try.f76.body.getD .skip) B8Q B8R).fn x=A9h x.1 x.2.1:=by intro x;kernel_rfl
theorem B8T:B3 Try.prog 76 C4P:=sm MO B4 A8 Try.func76 (by kernel_rfl) (by decide) (C4Q)
def C4R:Nat→Option Jn:=B6 [(58,⟨[],lt 19 6 [],false⟩),(2026,⟨[],lt 43 30 [],false⟩)]
abbrev B8U:List PK:= [.val false (.sl 36 kUp) false,.val true (.pair (.int .i64) (.pair (.int .i64) (.pair (.int .i64) (.pair .str (.pair (.int .i64) (.rs 5 (.int .u8))))))) false]
abbrev B8V:List RK:= [.val false (.sl 36 kUp),.val false .bool]
def B4G(f:A3F):Nat×Fn:=(71,⟨B8U,B8V,fun x=>f x.1 x.2.1⟩)
def C4S:Fn:=(B4G A23).2
theorem C4T(f_i_upAt:A9g)(f_slices_Insert_impl_Up_impl_Up:G4)(f_slices_Delete_impl_Up_impl_Up:G6):∀ x,(D5 cfg [B8S f_i_upAt,P6 f_slices_Insert_impl_Up_impl_Up,P7 f_slices_Delete_impl_Up_impl_Up] C4R 113 [.tmp 4,.tmp 5] (Try.f71.body.getD .skip) B8U B8V).fn x=B3A f_i_upAt f_slices_Insert_impl_Up_impl_Up f_slices_Delete_impl_Up_impl_Up x.1 x.2.1:=by intro x;kernel_rfl
theorem B8W:B3 Try.prog 71 C4S:=sm MO B4 (tc Try.call76 B8T (tc Try.call86 A18 (tc Try.call87 A1C A8))) Try.func71 (by kernel_rfl) (by decide) (C4T W4 G5 G7)
def B6t:Nat→Option Jn:=B6 [(7,⟨[.t 4 false [.own 100000000],.r 100000000 36 kUp],lt 6 19 [.b 6,.r 77824],false⟩),(58,⟨[.t 4 false [.own 100000000],.t 11 false [.int .i64],.r 100000000 36 kUp],lt 12 13 (lt 6 3 [.b 6,.r 77824]),false⟩)]
abbrev B0C:List PK:= [.val false (.rs 66 A2g) false]
abbrev B0D:List RK:= [.val false (.sl 36 kUp),.val false .bool]
def B0E(f:A2m):Nat×Fn:=(42,⟨B0C,B0D,fun x=>f x.1⟩)
def B6u:Fn:=(B0E A0t).2
theorem B6v(f_i_fold:A3F):∀ x,(D5 cfg [B4G f_i_fold] B6t 26 [.tmp 2,.tmp 3] (Try.f42.body.getD .skip) B0C B0D).fn x=A5l f_i_fold x.1:=by intro x;kernel_rfl
theorem B6w:B3 Try.prog 42 B6u:=sm MO B4 (tc Try.call71 B8W A8) Try.func42 (by kernel_rfl) (by decide) (B6v A23)
def B8X:Nat→Option Jn:=B6 [(58,⟨[.t 3 false [.int .i64],.t 10 false [.int .i64]],lt 11 14 (lt 5 3 [.b 6,.r 69637]),false⟩)]
abbrev B1l:List PK:= [.val false (.rs 9 .str) false]
abbrev B1m:List RK:= [.val false (.int .i64)]
def B1n(f:A3v):Nat×Fn:=(45,⟨B1l,B1m,fun x=>f x.1⟩)
def B8Y:Fn:=(B1n A24).2
theorem B8Z(f_i_GetRec:W3):∀ x,(D5 cfg [A9J f_i_GetRec] B8X 26 [.tmp 2] (Try.f45.body.getD .skip) B1l B1m).fn x=A70 f_i_GetRec x.1:=by intro x;kernel_rfl
theorem B8a:B3 Try.prog 45 B8Y:=sm MO B4 (tc Try.call70 B4F A8) Try.func45 (by kernel_rfl) (by decide) (B8Z S7)
abbrev A8X:List PK:= [.val false (.rs 5 (.int .u8)) false,.val false (.rs 5 (.int .u8)) false]
abbrev A8Y:List RK:= [.val false .bool]
def A8Z(f:A1p):Nat×Fn:=(72,⟨A8X,A8Y,fun x=>f x.1 x.2.1⟩)
def B4t:Fn:=(A8Z A1q).2
theorem B4u:∀ x,(D5 cfg [] (B6 []) 10 [.tmp 4] (Try.f72.body.getD .skip) A8X A8Y).fn x=A4G x.1 x.2.1:=by intro x;kernel_rfl
theorem B4v:B3 Try.prog 72 B4t:=sm MO B4 A8 Try.func72 (by kernel_rfl) (by decide) (B4u)
abbrev B4H:List PK:= [.val true (.pair .str (.pair (.int .i64) (.pair (.rs 5 (.int .u8)) .bool))) false,.val true (.pair .str (.pair (.int .i64) (.pair (.rs 5 (.int .u8)) .bool))) false]
abbrev B4I:List RK:= [.val false .bool]
def B4J(f:A3G):Nat×Fn:=(44,⟨B4H,B4I,fun x=>f x.1 x.2.1⟩)
def C0Q:Fn:=(B4J A3H).2
theorem C0R(f_bytes_Equal:A1p):∀ x,(D5 cfg [A8Z f_bytes_Equal] (B6 []) 31 [.tmp 4] (Try.f44.body.getD .skip) B4H B4I).fn x=A91 f_bytes_Equal x.1 x.2.1:=by intro x;kernel_rfl
theorem C0S:B3 Try.prog 44 C0Q:=sm MO B4 (tc Try.call72 B4v A8) Try.func44 (by kernel_rfl) (by decide) (C0R A1q)
def K8:Nat→Option Jn:=B6 [(58,⟨[.t 17 false [.int .i64]],lt 18 14 (lt 7 3 [.b 8,.b 9]),false⟩)]
abbrev E3:List PK:= [.val false (.rs 36 kUp) false,.val false (.rs 36 kUp) false,.val false (.fnc 44) false]
abbrev E4:List RK:= [.val false .bool]
def E5(f:B5):Nat×Fn:=(43,⟨E3,E4,fun x=>f x.1 x.2.1 x.2.2.1⟩)
def K9:Fn:=(E5 B1).2
theorem L0(f_i_sameUp:A3G):∀ x,(D5 cfg [B4J f_i_sameUp] K8 32 [.tmp 6] (Try.f43.body.getD .skip) E3 E4).fn x=C6 f_i_sameUp x.1 x.2.1 x.2.2.1:=by intro x;kernel_rfl
theorem L1:B3 Try.prog 43 K9:=sm MO B4 (tc Try.call44 C0S A8) Try.func43 (by kernel_rfl) (by decide) (L0 A3H)
end
end Go.Proofs.Ytfnmpcbehimkgaa.Ev
