/- Each function of the program does what its plain function says. -/
import Derived.Test.YthnfghmjipikhaaGreatDoorTy
import Derived.Test.YthnfghmjipikhaaGreatDoorPu
import Derived.Test.YthnfghmjipikhaaGreatDoorIns
import Derived.Test.YthnfghmjipikhaaGreatDoorGone
import Derived.Test.YthnfghmjipikhaaGreatDoorLibT
import Derived.Test.YthnfghmjipikhaaGreatDoorLibB
import Derived.Test.YthnfghmjipikhaaGreatDoorUnHuff
set_option linter.unusedVariables false
set_option maxRecDepth 100000
namespace Go.Proofs.YthnfghmjipikhaaGreatDoor.Ev
noncomputable section
abbrev D1T:List PK:= [.val false .str false,.val false .str false]
abbrev D1U:List RK:= [.val false (.sl 9 .str)]
def B0f(f:A0w):Nat×Fn:=(231,⟨D1T,D1U,fun x=>f x.1 x.2.1⟩)
def D1V:Fn:=(B0f A2k).2
theorem B8p:B0 Tryz.prog 231 D1V:=E4D
abbrev D6o:List PK:= [.val false .str false,.val false .str false]
abbrev D6p:List RK:= [.val false .str,.val false .str,.val false .bool]
def C2c(f:A5L):Nat×Fn:=(232,⟨D6o,D6p,fun x=>f x.1 x.2.1⟩)
def D6q:Fn:=(C2c B50).2
theorem D6r:B0 Tryz.prog 232 D6q:=F2D
abbrev D4C:List PK:= [.val false .str false]
abbrev D4D:List RK:= [.val false (.int .i64),.val false (.fnc 999999999)]
def C0Q(f:A3n):Nat×Fn:=(233,⟨D4C,D4D,fun x=>f x.1⟩)
def D4E:Fn:=(C0Q B2M).2
theorem D4F:B0 Tryz.prog 233 D4E:=E7N
abbrev A4h:List PK:= [.val false (.sl 150 A5) false,.val false (.int .i64) false,.val false (.sl 150 A5) false]
abbrev A4i:List RK:= [.val false (.sl 150 A5)]
def W7(f:I6):Nat×Fn:=(194,⟨A4h,A4i,fun x=>f x.1 x.2.1 x.2.2.1⟩)
def A4j:Fn:=(W7 F9).2
theorem A4k:B0 Tryz.prog 194 A4j:=C4l A5 (by decide)
abbrev D4G:List PK:= [.val false (.int .i64) false]
abbrev D4H:List RK:= [.val false .str]
def C0R(f:A71):Nat×Fn:=(142,⟨D4G,D4H,fun x=>f x.1⟩)
def D4I:Fn:=(C0R A3o).2
theorem D4J:B0 Tryz.prog 142 D4I:=E7M
abbrev A6p:List PK:= [.val false (.sl 113 B7) false,.val false (.int .i64) false,.val false (.int .i64) false]
abbrev A6q:List RK:= [.val false (.sl 113 B7)]
def A0t(f:L2):Nat×Fn:=(86,⟨A6p,A6q,fun x=>f x.1 x.2.1 x.2.2.1⟩)
def A6r:Fn:=(A0t H5).2
theorem A6s:B0 Tryz.prog 86 A6r:=C8j B7 (by decide)
abbrev B63:List PK:= [.val false (.sl 5 (.int .u8)) false,.val false (.int .i64) false]
abbrev B64:List RK:= [.val false (.sl 5 (.int .u8))]
def A6h(f:W4):Nat×Fn:=(153,⟨B63,B64,fun x=>f x.1 x.2.1⟩)
def B65:Fn:=(A6h W5).2
theorem B66:B0 Tryz.prog 153 B65:=D1S
abbrev C8k:List PK:= [.ptr (.pair (.pair (.int .i64) (.pair (.sl 5 (.int .u8)) (.pair O5 (.pair (.pair (.int .i64) (.rs 150 A5)) (.pair P0 (.pair (.sl 113 B7) G4)))))) (.pair (.sl 75 G2) (.sl 5 (.int .u8)))),.val false (.int .i64) false]
abbrev C8l:List RK:= []
def B67(f:A4H):Nat×Fn:=(227,⟨C8k,C8l,fun x=>f x.1 x.2.1⟩)
def C8m:Fn:=(B67 A1w).2
theorem C8n:B0 Tryz.prog 227 C8m:=E7L _ _ _ _ _ _ _ _ rfl rfl rfl rfl rfl rfl
def E4F:Nat->Option Jn:=B4 [(58,⟨[.t 3 false [.own 7],.t 4 false [.int .i64],.r 7 5 (.int .u8)],lt 8 13 [.x 20],false⟩)]
abbrev D03:List PK:= [.val false (.rs 5 (.int .u8)) false]
abbrev D04:List RK:= [.val false (.sl 5 (.int .u8))]
def B0L(f:A0V):Nat×Fn:=(14,⟨D03,D04,fun x=>f x.1⟩)
def E4G:Fn:=(B0L T5).2
theorem E4H:∀ x,(C7 cfg [] E4F 22 [.tmp 2] (Tryz.f14.body.getD .skip) D03 D04).fn x=B9d x.1:=by intro x;kernel_rfl
theorem B4A:B0 Tryz.prog 14 E4G:=sm MO A8 A6 Tryz.func14 (by kernel_rfl) (by decide) (E4H)
def E4I:Nat->Option Jn:=B4 [(58,⟨[.t 5 false [.int .i64]],lt 11 15 [],false⟩)]
abbrev D05:List PK:= [.val false (.rs 5 (.int .u8)) false,.val false (.rs 5 (.int .u8)) false]
abbrev D06:List RK:= [.val false .bool]
def A6i(f:T6):Nat×Fn:=(16,⟨D05,D06,fun x=>f x.1 x.2.1⟩)
def E4J:Fn:=(A6i Q6).2
theorem E4K:∀ x,(C7 cfg [] E4I 26 [.tmp 4] (Tryz.f16.body.getD .skip) D05 D06).fn x=B9e x.1 x.2.1:=by intro x;kernel_rfl
theorem B0M:B0 Tryz.prog 16 E4J:=sm MO A8 A6 Tryz.func16 (by kernel_rfl) (by decide) (E4K)
def D6s:Nat->Option Jn:=B4 [(26,⟨[.t 0 false [.own 1000],.t 1 false [.int .i64],.t 5 false [.int .i64],.r 1000 5 (.int .u8)],lt 6 13 [.x 16],false⟩)]
abbrev C2d:List PK:= [.val false (.sl 5 (.int .u8)) true,.val false (.int .i64) false]
abbrev C2e:List RK:= [.val false (.int .i64)]
def A3H(f:J4):Nat×Fn:=(19,⟨C2d,C2e,fun x=>f x.1 x.2.1⟩)
def D6t:Fn:=(A3H H3).2
theorem D6u:∀ x,(C7 cfg [] D6s 20 [.tmp 4] (Tryz.f19.body.getD .skip) C2d C2e).fn x=B51 x.1 x.2.1:=by intro x;kernel_rfl
theorem A5d:B0 Tryz.prog 19 D6t:=sm MO A8 A6 Tryz.func19 (by kernel_rfl) (by decide) (D6u)
def D6v:Nat->Option Jn:=B4 [(26,⟨[.t 1 false [.int .i64],.t 5 false [.int .i64]],lt 6 15 [],false⟩)]
abbrev C2f:List PK:= [.val false (.rs 5 (.int .u8)) false,.val false (.int .i64) false]
abbrev C2g:List RK:= [.val false (.int .i64)]
def A3I(f:J5):Nat×Fn:=(20,⟨C2f,C2g,fun x=>f x.1 x.2.1⟩)
def D6w:Fn:=(A3I H4).2
theorem D70:∀ x,(C7 cfg [] D6v 22 [.tmp 4] (Tryz.f20.body.getD .skip) C2f C2g).fn x=B52 x.1 x.2.1:=by intro x;kernel_rfl
theorem A5e:B0 Tryz.prog 20 D6w:=sm MO A8 A6 Tryz.func20 (by kernel_rfl) (by decide) (D70)
abbrev D07:List PK:= [.val true A5 false,.val false (.int .i64) false]
abbrev D08:List RK:= [.val false (.int .i64)]
def D09(f:A9r):Nat×Fn:=(125,⟨D07,D08,fun x=>f x.1 x.2.1⟩)
def E4L:Fn:=(D09 A3p).2
theorem E4M:∀ x,(C7 cfg [] (B4 []) 20 [.tmp 4] (Tryz.f125.body.getD .skip) D07 D08).fn x=B9f x.1 x.2.1:=by intro x;kernel_rfl
theorem E4N:B0 Tryz.prog 125 E4L:=sm MO A8 A6 Tryz.func125 (by kernel_rfl) (by decide) (E4M)
def E17:Nat->Option Jn:=B4 [(122,⟨[.t 1 false [.int .i64],.t 5 false [.int .i64]],lt 12 14 [],false⟩)]
abbrev C6A:List PK:= [.val false (.rs 161 A5) false,.val false (.int .i64) false]
abbrev C6B:List RK:= [.val false (.int .i64)]
def C6C(f:B19):Nat×Fn:=(50,⟨C6A,C6B,fun x=>f x.1 x.2.1⟩)
def E18:Fn:=(C6C A73).2
theorem E19(A6j:A9r):∀ x,(C7 cfg [D09 A6j] E17 27 [.tmp 4] (Tryz.f50.body.getD .skip) C6A C6B).fn x=B70 A6j x.1 x.2.1:=by intro x;kernel_rfl
theorem E1A:B0 Tryz.prog 50 E18:=sm MO A8 (tc Tryz.call125 E4N A6) Tryz.func50 (by kernel_rfl) (by decide) (E19 A3p)
abbrev D0A:List PK:= [.val true (.pair (.int .i64) (.rs 161 A5)) false,.val false (.int .i64) false]
abbrev D0B:List RK:= [.val false (.int .i64)]
def D0C(f:B3j):Nat×Fn:=(9,⟨D0A,D0B,fun x=>f x.1 x.2.1⟩)
def E4O:Fn:=(D0C A9s).2
theorem E4P(B1l:B19):∀ x,(C7 cfg [C6C B1l] (B4 []) 12 [.tmp 4] (Tryz.f9.body.getD .skip) D0A D0B).fn x=B9g B1l x.1 x.2.1:=by intro x;kernel_rfl
theorem E4Q:B0 Tryz.prog 9 E4O:=sm MO A8 (tc Tryz.call50 E1A A6) Tryz.func9 (by kernel_rfl) (by decide) (E4P A73)
abbrev D0D:List PK:= [.val false (.rs 5 (.int .u8)) false,.val false (.int .i64) false]
abbrev D0E:List RK:= [.val false (.int .i64)]
def B4B(f:A2G):Nat×Fn:=(73,⟨D0D,D0E,fun x=>f x.1 x.2.1⟩)
def E4R:Fn:=(B4B A0W).2
theorem E4S:∀ x,(C7 cfg [] (B4 []) 12 [.tmp 4] (Tryz.f73.body.getD .skip) D0D D0E).fn x=B9h x.1 x.2.1:=by intro x;kernel_rfl
theorem C0S:B0 Tryz.prog 73 E4R:=sm MO A8 A6 Tryz.func73 (by kernel_rfl) (by decide) (E4S)
abbrev C6D:List PK:= [.val true (.pair (.int .i64) (.pair .bool (.rs 5 (.int .u8)))) false,.val false (.int .i64) false]
abbrev C6E:List RK:= [.val false (.int .i64)]
def C6F(f:B1A):Nat×Fn:=(74,⟨C6D,C6E,fun x=>f x.1 x.2.1⟩)
def E1B:Fn:=(C6F A74).2
theorem E1C(O7:A2G):∀ x,(C7 cfg [B4B O7] (B4 []) 12 [.tmp 4] (Tryz.f74.body.getD .skip) C6D C6E).fn x=B71 O7 x.1 x.2.1:=by intro x;kernel_rfl
theorem E1D:B0 Tryz.prog 74 E1B:=sm MO A8 (tc Tryz.call73 C0S A6) Tryz.func74 (by kernel_rfl) (by decide) (E1C A0W)
abbrev D9F:List PK:= [.val true B2L false,.val false (.int .i64) false]
abbrev D9G:List RK:= [.val false (.int .i64)]
def D9H(f:C1c):Nat×Fn:=(10,⟨D9F,D9G,fun x=>f x.1 x.2.1⟩)
def F2F:Fn:=(D9H B5j).2
theorem F2G:∀ x,(C7 cfg [] (B4 []) 13 [.tmp 4] (Tryz.f10.body.getD .skip) D9F D9G).fn x=C8J x.1 x.2.1:=by intro x;kernel_rfl
theorem F2H:B0 Tryz.prog 10 F2F:=sm MO A8 A6 Tryz.func10 (by kernel_rfl) (by decide) (F2G)
abbrev D9I:List PK:= [.val true (.pair (.int .i64) (.pair (.int .i64) (.pair B2L (.rs 5 (.int .u8))))) false,.val false (.int .i64) false]
abbrev D9J:List RK:= [.val false (.int .i64)]
def D9K(f:B5k):Nat×Fn:=(147,⟨D9I,D9J,fun x=>f x.1 x.2.1⟩)
def F2I:Fn:=(D9K A8V).2
theorem F2J(C1m:C1c)(O7:A2G):∀ x,(C7 cfg [D9H C1m,B4B O7] (B4 []) 18 [.tmp 4] (Tryz.f147.body.getD .skip) D9I D9J).fn x=C8K C1m O7 x.1 x.2.1:=by intro x;kernel_rfl
theorem F2K:B0 Tryz.prog 147 F2I:=sm MO A8 (tc Tryz.call10 F2H (tc Tryz.call73 C0S A6)) Tryz.func147 (by kernel_rfl) (by decide) (F2J B5j A0W)
def E7O:Nat->Option Jn:=B4 [(122,⟨[.t 1 false [.int .i64],.t 5 false [.int .i64]],lt 12 14 [],false⟩)]
abbrev D4K:List PK:= [.val false (.rs 180 B7) false,.val false (.int .i64) false]
abbrev D4L:List RK:= [.val false (.int .i64)]
def D4M(f:B72):Nat×Fn:=(75,⟨D4K,D4L,fun x=>f x.1 x.2.1⟩)
def E7P:Fn:=(D4M B2N).2
theorem E7Q(B2A:B5k):∀ x,(C7 cfg [D9K B2A] E7O 27 [.tmp 4] (Tryz.f75.body.getD .skip) D4K D4L).fn x=C46 B2A x.1 x.2.1:=by intro x;kernel_rfl
theorem E7R:B0 Tryz.prog 75 E7P:=sm MO A8 (tc Tryz.call147 F2K A6) Tryz.func75 (by kernel_rfl) (by decide) (E7Q A8V)
abbrev D4N:List PK:= [.val true (.pair (.int .i64) (.pair (.rs 5 (.int .u8)) (.pair (.pair (.int .i64) (.pair .bool (.rs 5 (.int .u8)))) (.pair (.pair (.int .i64) (.rs 161 A5)) (.pair (.pair (.int .i64) (.rs 161 A5)) (.pair (.rs 180 B7) G4)))))) false,.val false (.int .i64) false]
abbrev D4O:List RK:= [.val false (.int .i64)]
def D4P(f:B73):Nat×Fn:=(22,⟨D4N,D4O,fun x=>f x.1 x.2.1⟩)
def E7S:Fn:=(D4P B2O).2
theorem E7T(B0R:B3j)(O7:A2G)(B1m:B1A)(B8O:B72):∀ x,(C7 cfg [D0C B0R,B4B O7,C6F B1m,D4M B8O] (B4 []) 36 [.tmp 4] (Tryz.f22.body.getD .skip) D4N D4O).fn x=C47 B0R O7 B1m B8O x.1 x.2.1:=by intro x;kernel_rfl
theorem E7U:B0 Tryz.prog 22 E7S:=sm MO A8 (tc Tryz.call9 E4Q (tc Tryz.call73 C0S (tc Tryz.call74 E1D (tc Tryz.call75 E7R A6)))) Tryz.func22 (by kernel_rfl) (by decide) (E7T A9s A0W A74 B2N)
abbrev D0F:List PK:= [.val true A5 false]
abbrev D0G:List RK:= [.val true A5]
def D0H(f:A9t):Nat×Fn:=(135,⟨D0F,D0G,fun x=>f x.1⟩)
def E4T:Fn:=(D0H A9u).2
theorem E4U:∀ x,(C7 cfg [] (B4 []) 11 [.cell 2 150] (Tryz.f135.body.getD .skip) D0F D0G).fn x=B9i x.1:=by intro x;kernel_rfl
theorem E4V:B0 Tryz.prog 135 E4T:=sm MO A8 A6 Tryz.func135 (by kernel_rfl) (by decide) (E4U)
def E1E:Nat->Option Jn:=B4 [(58,⟨[.t 3 false [.own 7],.t 4 false [.int .i64],.r 7 150 A5],lt 8 14 [.x 21],false⟩)]
abbrev C6G:List PK:= [.val false (.rs 161 A5) false]
abbrev C6H:List RK:= [.val false (.sl 150 A5)]
def C6I(f:B1C):Nat×Fn:=(60,⟨C6G,C6H,fun x=>f x.1⟩)
def E1F:Fn:=(C6I A75).2
theorem E1G(A6k:A9t):∀ x,(C7 cfg [D0H A6k] E1E 23 [.tmp 2] (Tryz.f60.body.getD .skip) C6G C6H).fn x=B74 A6k x.1:=by intro x;kernel_rfl
theorem E1H:B0 Tryz.prog 60 E1F:=sm MO A8 (tc Tryz.call135 E4V A6) Tryz.func60 (by kernel_rfl) (by decide) (E1G A9u)
abbrev D0I:List PK:= [.val true (.pair (.int .i64) (.rs 161 A5)) false]
abbrev D0J:List RK:= [.val true P0]
def D0K(f:B3k):Nat×Fn:=(12,⟨D0I,D0J,fun x=>f x.1⟩)
def E4W:Fn:=(D0K A9v).2
theorem E4a(B1n:B1C):∀ x,(C7 cfg [C6I B1n] (B4 []) 12 [.cell 2 32] (Tryz.f12.body.getD .skip) D0I D0J).fn x=B9j B1n x.1:=by intro x;kernel_rfl
theorem E4b:B0 Tryz.prog 12 E4W:=sm MO A8 (tc Tryz.call60 E1H A6) Tryz.func12 (by kernel_rfl) (by decide) (E4a A75)
abbrev C6J:List PK:= [.val true (.pair (.int .i64) (.pair .bool (.rs 5 (.int .u8)))) false]
abbrev C6K:List RK:= [.val true O5]
def C6L(f:B1D):Nat×Fn:=(80,⟨C6J,C6K,fun x=>f x.1⟩)
def E1I:Fn:=(C6L A76).2
theorem E1J(G1:A0V):∀ x,(C7 cfg [B0L G1] (B4 []) 15 [.cell 2 52] (Tryz.f80.body.getD .skip) C6J C6K).fn x=B75 G1 x.1:=by intro x;kernel_rfl
theorem E1K:B0 Tryz.prog 80 E1I:=sm MO A8 (tc Tryz.call14 B4A A6) Tryz.func80 (by kernel_rfl) (by decide) (E1J T5)
abbrev D9L:List PK:= [.val true B2L false]
abbrev D9M:List RK:= [.val true B2L]
def D9N(f:C1d):Nat×Fn:=(13,⟨D9L,D9M,fun x=>f x.1⟩)
def F2L:Fn:=(D9N B5l).2
theorem F2M:∀ x,(C7 cfg [] (B4 []) 14 [.cell 2 36] (Tryz.f13.body.getD .skip) D9L D9M).fn x=C8L x.1:=by intro x;kernel_rfl
theorem F2N:B0 Tryz.prog 13 F2L:=sm MO A8 A6 Tryz.func13 (by kernel_rfl) (by decide) (F2M)
abbrev D9O:List PK:= [.val true (.pair (.int .i64) (.pair (.int .i64) (.pair B2L (.rs 5 (.int .u8))))) false]
abbrev D9P:List RK:= [.val true B7]
def D9Q(f:B5m):Nat×Fn:=(149,⟨D9O,D9P,fun x=>f x.1⟩)
def F2O:Fn:=(D9Q B5n).2
theorem F2P(C1n:C1d)(G1:A0V):∀ x,(C7 cfg [D9N C1n,B0L G1] (B4 []) 19 [.cell 2 113] (Tryz.f149.body.getD .skip) D9O D9P).fn x=C8M C1n G1 x.1:=by intro x;kernel_rfl
theorem F2Q:B0 Tryz.prog 149 F2O:=sm MO A8 (tc Tryz.call13 F2N (tc Tryz.call14 B4A A6)) Tryz.func149 (by kernel_rfl) (by decide) (F2P B5l T5)
def E7V:Nat->Option Jn:=B4 [(58,⟨[.t 3 false [.own 7],.t 4 false [.int .i64],.r 7 113 B7],lt 8 14 [.r 86021,.x 21],false⟩)]
abbrev D4Q:List PK:= [.val false (.rs 180 B7) false]
abbrev D4R:List RK:= [.val false (.sl 113 B7)]
def D4S(f:B77):Nat×Fn:=(81,⟨D4Q,D4R,fun x=>f x.1⟩)
def E7W:Fn:=(D4S B2Q).2
theorem E7a(B2B:B5m):∀ x,(C7 cfg [D9Q B2B] E7V 23 [.tmp 2] (Tryz.f81.body.getD .skip) D4Q D4R).fn x=C48 B2B x.1:=by intro x;kernel_rfl
theorem E7b:B0 Tryz.prog 81 E7W:=sm MO A8 (tc Tryz.call149 F2Q A6) Tryz.func81 (by kernel_rfl) (by decide) (E7a B5n)
abbrev D4T:List PK:= [.val true (.pair (.int .i64) (.pair (.rs 5 (.int .u8)) (.pair (.pair (.int .i64) (.pair .bool (.rs 5 (.int .u8)))) (.pair (.pair (.int .i64) (.rs 161 A5)) (.pair (.pair (.int .i64) (.rs 161 A5)) (.pair (.rs 180 B7) G4)))))) false]
abbrev D4U:List RK:= [.val true B5i]
def D4V(f:B78):Nat×Fn:=(24,⟨D4T,D4U,fun x=>f x.1⟩)
def E7c:Fn:=(D4V B2R).2
theorem E7d(B0S:B3k)(G1:A0V)(B1o:B1D)(B8P:B77):∀ x,(C7 cfg [D0K B0S,B0L G1,C6L B1o,D4S B8P] (B4 []) 34 [.cell 2 55] (Tryz.f24.body.getD .skip) D4T D4U).fn x=C49 B0S G1 B1o B8P x.1:=by intro x;kernel_rfl
theorem E7e:B0 Tryz.prog 24 E7c:=sm MO A8 (tc Tryz.call12 E4b (tc Tryz.call14 B4A (tc Tryz.call80 E1K (tc Tryz.call81 E7b A6)))) Tryz.func24 (by kernel_rfl) (by decide) (E7d A9v T5 A76 B2Q)
abbrev D0L:List PK:= [.val true A5 false,.val true A5 false]
abbrev D0M:List RK:= [.val false .bool]
def D0N(f:A9w):Nat×Fn:=(146,⟨D0L,D0M,fun x=>f x.1 x.2.1⟩)
def E4c:Fn:=(D0N B00).2
theorem E4d:∀ x,(C7 cfg [] (B4 []) 15 [.tmp 4] (Tryz.f146.body.getD .skip) D0L D0M).fn x=B9k x.1 x.2.1:=by intro x;kernel_rfl
theorem E4e:B0 Tryz.prog 146 E4c:=sm MO A8 A6 Tryz.func146 (by kernel_rfl) (by decide) (E4d)
def E1L:Nat->Option Jn:=B4 [(58,⟨[.t 5 false [.int .i64]],lt 11 16 [],false⟩)]
abbrev C6M:List PK:= [.val false (.rs 150 A5) false,.val false (.rs 150 A5) false]
abbrev C6N:List RK:= [.val false .bool]
def C6O(f:B1E):Nat×Fn:=(70,⟨C6M,C6N,fun x=>f x.1 x.2.1⟩)
def E1M:Fn:=(C6O A77).2
theorem E1N(A6l:A9w):∀ x,(C7 cfg [D0N A6l] E1L 27 [.tmp 4] (Tryz.f70.body.getD .skip) C6M C6N).fn x=B79 A6l x.1 x.2.1:=by intro x;kernel_rfl
theorem E1O:B0 Tryz.prog 70 E1M:=sm MO A8 (tc Tryz.call146 E4e A6) Tryz.func70 (by kernel_rfl) (by decide) (E1N B00)
abbrev D0O:List PK:= [.val true (.pair (.int .i64) (.rs 150 A5)) false,.val true (.pair (.int .i64) (.rs 150 A5)) false]
abbrev D0P:List RK:= [.val false .bool]
def D0Q(f:B3l):Nat×Fn:=(17,⟨D0O,D0P,fun x=>f x.1 x.2.1⟩)
def E4f:Fn:=(D0Q B01).2
theorem E4g(B1p:B1E):∀ x,(C7 cfg [C6O B1p] (B4 []) 16 [.tmp 4] (Tryz.f17.body.getD .skip) D0O D0P).fn x=B9l B1p x.1 x.2.1:=by intro x;kernel_rfl
theorem E4h:B0 Tryz.prog 17 E4f:=sm MO A8 (tc Tryz.call70 E1O A6) Tryz.func17 (by kernel_rfl) (by decide) (E4g A77)
abbrev C6P:List PK:= [.val true (.pair (.int .i64) (.pair .bool (.rs 5 (.int .u8)))) false,.val true (.pair (.int .i64) (.pair .bool (.rs 5 (.int .u8)))) false]
abbrev C6Q:List RK:= [.val false .bool]
def C6R(f:B1F):Nat×Fn:=(87,⟨C6P,C6Q,fun x=>f x.1 x.2.1⟩)
def E1P:Fn:=(C6R B1G).2
theorem E1Q(F0:T6):∀ x,(C7 cfg [A6i F0] (B4 []) 21 [.tmp 4] (Tryz.f87.body.getD .skip) C6P C6Q).fn x=B7A F0 x.1 x.2.1:=by intro x;kernel_rfl
theorem E1R:B0 Tryz.prog 87 E1P:=sm MO A8 (tc Tryz.call16 B0M A6) Tryz.func87 (by kernel_rfl) (by decide) (E1Q Q6)
abbrev D9R:List PK:= [.val true B2L false,.val true B2L false]
abbrev D9S:List RK:= [.val false .bool]
def C8o(f:B26):Nat×Fn:=(172,⟨D9R,D9S,fun x=>f x.1 x.2.1⟩)
def F2R:Fn:=(C8o A8W).2
theorem F2S:∀ x,(C7 cfg [] (B4 []) 20 [.tmp 4] (Tryz.f172.body.getD .skip) D9R D9S).fn x=C8N x.1 x.2.1:=by intro x;kernel_rfl
theorem D9T:B0 Tryz.prog 172 F2R:=sm MO A8 A6 Tryz.func172 (by kernel_rfl) (by decide) (F2S)
abbrev D9U:List PK:= [.val true (.pair (.int .i64) (.pair (.int .i64) (.pair B2L (.rs 5 (.int .u8))))) false,.val true (.pair (.int .i64) (.pair (.int .i64) (.pair B2L (.rs 5 (.int .u8))))) false]
abbrev D9V:List RK:= [.val false .bool]
def D9W(f:B5o):Nat×Fn:=(150,⟨D9U,D9V,fun x=>f x.1 x.2.1⟩)
def F2T:Fn:=(D9W B5p).2
theorem F2U(F0:T6)(A4m:B26):∀ x,(C7 cfg [A6i F0,C8o A4m] (B4 []) 27 [.tmp 4] (Tryz.f150.body.getD .skip) D9U D9V).fn x=C8O F0 A4m x.1 x.2.1:=by intro x;kernel_rfl
theorem F2V:B0 Tryz.prog 150 F2T:=sm MO A8 (tc Tryz.call16 B0M (tc Tryz.call172 D9T A6)) Tryz.func150 (by kernel_rfl) (by decide) (F2U Q6 A8W)
def E7f:Nat->Option Jn:=B4 [(58,⟨[.t 5 false [.int .i64]],lt 11 16 [],false⟩)]
abbrev D4W:List PK:= [.val false (.rs 113 B7) false,.val false (.rs 113 B7) false]
abbrev D4a:List RK:= [.val false .bool]
def D4b(f:B7C):Nat×Fn:=(88,⟨D4W,D4a,fun x=>f x.1 x.2.1⟩)
def E7g:Fn:=(D4b B2T).2
theorem E7h(B2C:B5o):∀ x,(C7 cfg [D9W B2C] E7f 27 [.tmp 4] (Tryz.f88.body.getD .skip) D4W D4a).fn x=C4A B2C x.1 x.2.1:=by intro x;kernel_rfl
theorem E7i:B0 Tryz.prog 88 E7g:=sm MO A8 (tc Tryz.call150 F2V A6) Tryz.func88 (by kernel_rfl) (by decide) (E7h B5p)
abbrev D4c:List PK:= [.val true (.pair (.int .i64) (.pair (.rs 5 (.int .u8)) (.pair (.pair (.int .i64) (.pair .bool (.rs 5 (.int .u8)))) (.pair (.pair (.int .i64) (.rs 150 A5)) (.pair (.pair (.int .i64) (.rs 150 A5)) (.pair (.rs 113 B7) G4)))))) false,.val true (.pair (.int .i64) (.pair (.rs 5 (.int .u8)) (.pair (.pair (.int .i64) (.pair .bool (.rs 5 (.int .u8)))) (.pair (.pair (.int .i64) (.rs 150 A5)) (.pair (.pair (.int .i64) (.rs 150 A5)) (.pair (.rs 113 B7) G4)))))) false]
abbrev D4d:List RK:= [.val false .bool]
def D4e(f:B7D):Nat×Fn:=(27,⟨D4c,D4d,fun x=>f x.1 x.2.1⟩)
def E7j:Fn:=(D4e B2U).2
theorem E7k(F0:T6)(B0T:B3l)(B1q:B1F)(B8Q:B7C):∀ x,(C7 cfg [A6i F0,D0Q B0T,C6R B1q,D4b B8Q] (B4 []) 50 [.tmp 4] (Tryz.f27.body.getD .skip) D4c D4d).fn x=C4B F0 B0T B1q B8Q x.1 x.2.1:=by intro x;kernel_rfl
theorem E7l:B0 Tryz.prog 27 E7j:=sm MO A8 (tc Tryz.call16 B0M (tc Tryz.call17 E4h (tc Tryz.call87 E1R (tc Tryz.call88 E7i A6)))) Tryz.func27 (by kernel_rfl) (by decide) (E7k Q6 B01 B1G B2T)
def E1S:Nat->Option Jn:=B4 [(15,⟨[.t 3 false [.str]],lt 6 12 [.r 12,.t 0],true⟩),(60,⟨[.t 0 false [.int .i64],.t 3 false [.str]],lt 6 12 [.r 12],false⟩)]
abbrev C6S:List PK:= [.val false (.int .i64) false]
abbrev C6T:List RK:= [.val false .str]
def A2i(f:G0):Nat×Fn:=(124,⟨C6S,C6T,fun x=>f x.1⟩)
def E1T:Fn:=(A2i F2).2
theorem E1U:∀ x,(C7 cfg [] E1S 20 [.tmp 2] (Tryz.f124.body.getD .skip) C6S C6T).fn x=B7E x.1:=by intro x;kernel_rfl
theorem A4l:B0 Tryz.prog 124 E1T:=sm MO A8 A6 Tryz.func124 (by kernel_rfl) (by decide) (E1U)
def D4f:Nat->Option Jn:=B4 [(26,⟨[.t 0 false [.own 1000],.t 1 false [.int .i64],.t 5 false [.int .i64],.r 1000 150 A5],lt 6 22 [.x 16,.x 24],false⟩)]
abbrev C0T:List PK:= [.val false (.sl 150 A5) true,.val false (.int .i64) false]
abbrev C0U:List RK:= [.val false (.int .i64)]
def C0V(f:A78):Nat×Fn:=(71,⟨C0T,C0U,fun x=>f x.1 x.2.1⟩)
def D4g:Fn:=(C0V A3q).2
theorem D4h(C2:G0):∀ x,(C7 cfg [A2i C2] D4f 29 [.tmp 4] (Tryz.f71.body.getD .skip) C0T C0U).fn x=B2W C2 x.1 x.2.1:=by intro x;kernel_rfl
theorem D4i:B0 Tryz.prog 71 D4g:=sm MO A8 (tc Tryz.call124 A4l A6) Tryz.func71 (by kernel_rfl) (by decide) (D4h F2)
abbrev C2h:List PK:= [.val true P0 true,.val false (.int .i64) false]
abbrev C2i:List RK:= [.val false (.int .i64)]
def C2j(f:A93):Nat×Fn:=(18,⟨C2h,C2i,fun x=>f x.1 x.2.1⟩)
def D71:Fn:=(C2j A35).2
theorem D72(A8A:A78):∀ x,(C7 cfg [C0V A8A] (B4 []) 10 [.tmp 4] (Tryz.f18.body.getD .skip) C2h C2i).fn x=B53 A8A x.1 x.2.1:=by intro x;kernel_rfl
theorem D73:B0 Tryz.prog 18 D71:=sm MO A8 (tc Tryz.call71 D4i A6) Tryz.func18 (by kernel_rfl) (by decide) (D72 A3q)
abbrev C0W:List PK:= [.val true O5 true,.val false (.int .i64) false]
abbrev C0a:List RK:= [.val false (.int .i64)]
def C0b(f:A79):Nat×Fn:=(89,⟨C0W,C0a,fun x=>f x.1 x.2.1⟩)
def D4j:Fn:=(C0b A7A).2
theorem D4k(D3:J4):∀ x,(C7 cfg [A3H D3] (B4 []) 10 [.tmp 4] (Tryz.f89.body.getD .skip) C0W C0a).fn x=B2a D3 x.1 x.2.1:=by intro x;kernel_rfl
theorem D4l:B0 Tryz.prog 89 D4j:=sm MO A8 (tc Tryz.call19 A5d A6) Tryz.func89 (by kernel_rfl) (by decide) (D4k H3)
def E1V:Nat->Option Jn:=B4 [(26,⟨[.t 0 false [.own 1000],.t 1 false [.int .i64],.t 5 false [.int .i64],.r 1000 113 B7],lt 6 52 [.x 15,.x 22,.x 29,.x 38,.x 46,.x 53],false⟩)]
abbrev C6U:List PK:= [.val false (.sl 113 B7) true,.val false (.int .i64) false]
abbrev C6V:List RK:= [.val false (.int .i64)]
def C6W(f:B1H):Nat×Fn:=(90,⟨C6U,C6V,fun x=>f x.1 x.2.1⟩)
def E1W:Fn:=(C6W B1I).2
theorem E1a(D3:J4)(C2:G0):∀ x,(C7 cfg [A3H D3,A2i C2] E1V 59 [.tmp 4] (Tryz.f90.body.getD .skip) C6U C6V).fn x=C5a D3 C2 x.1 x.2.1:=by intro x;kernel_rfl
theorem E1b:B0 Tryz.prog 90 E1W:=sm MO A8 (tc Tryz.call19 A5d (tc Tryz.call124 A4l A6)) Tryz.func90 (by kernel_rfl) (by decide) (E1a H3 F2)
abbrev C6a:List PK:= [.val true B5i true,.val false (.int .i64) false]
abbrev C6b:List RK:= [.val false (.int .i64)]
def C6c(f:B1J):Nat×Fn:=(28,⟨C6a,C6b,fun x=>f x.1 x.2.1⟩)
def E1c:Fn:=(C6c A7C).2
theorem E1d(A5i:A93)(D3:J4)(A8B:A79)(B1r:B1H):∀ x,(C7 cfg [C2j A5i,A3H D3,C0b A8B,C6W B1r] (B4 []) 26 [.tmp 4] (Tryz.f28.body.getD .skip) C6a C6b).fn x=B7F A5i D3 A8B B1r x.1 x.2.1:=by intro x;kernel_rfl
theorem E1e:B0 Tryz.prog 28 E1c:=sm MO A8 (tc Tryz.call18 D73 (tc Tryz.call19 A5d (tc Tryz.call89 D4l (tc Tryz.call90 E1b A6)))) Tryz.func28 (by kernel_rfl) (by decide) (E1d A35 H3 A7A B1I)
def D4m:Nat->Option Jn:=B4 [(26,⟨[.t 1 false [.int .i64],.t 5 false [.int .i64]],lt 6 26 [],false⟩)]
abbrev C0c:List PK:= [.val false (.rs 150 A5) false,.val false (.int .i64) false]
abbrev C0d:List RK:= [.val false (.int .i64)]
def C0e(f:A7D):Nat×Fn:=(72,⟨C0c,C0d,fun x=>f x.1 x.2.1⟩)
def D4n:Fn:=(C0e A3r).2
theorem D4o(C2:G0):∀ x,(C7 cfg [A2i C2] D4m 33 [.tmp 4] (Tryz.f72.body.getD .skip) C0c C0d).fn x=B2b C2 x.1 x.2.1:=by intro x;kernel_rfl
theorem D4p:B0 Tryz.prog 72 D4n:=sm MO A8 (tc Tryz.call124 A4l A6) Tryz.func72 (by kernel_rfl) (by decide) (D4o F2)
abbrev C2k:List PK:= [.val true (.pair (.int .i64) (.rs 150 A5)) false,.val false (.int .i64) false]
abbrev C2l:List RK:= [.val false (.int .i64)]
def C2m(f:A94):Nat×Fn:=(21,⟨C2k,C2l,fun x=>f x.1 x.2.1⟩)
def D74:Fn:=(C2m A36).2
theorem D75(A8C:A7D):∀ x,(C7 cfg [C0e A8C] (B4 []) 12 [.tmp 4] (Tryz.f21.body.getD .skip) C2k C2l).fn x=B54 A8C x.1 x.2.1:=by intro x;kernel_rfl
theorem D76:B0 Tryz.prog 21 D74:=sm MO A8 (tc Tryz.call72 D4p A6) Tryz.func21 (by kernel_rfl) (by decide) (D75 A3r)
abbrev C0f:List PK:= [.val true (.pair (.int .i64) (.pair .bool (.rs 5 (.int .u8)))) false,.val false (.int .i64) false]
abbrev C0g:List RK:= [.val false (.int .i64)]
def C0h(f:A7E):Nat×Fn:=(91,⟨C0f,C0g,fun x=>f x.1 x.2.1⟩)
def D4q:Fn:=(C0h A7F).2
theorem D4r(D4:J5):∀ x,(C7 cfg [A3I D4] (B4 []) 12 [.tmp 4] (Tryz.f91.body.getD .skip) C0f C0g).fn x=B2c D4 x.1 x.2.1:=by intro x;kernel_rfl
theorem D4s:B0 Tryz.prog 91 D4q:=sm MO A8 (tc Tryz.call20 A5e A6) Tryz.func91 (by kernel_rfl) (by decide) (D4r H4)
def E1f:Nat->Option Jn:=B4 [(26,⟨[.t 1 false [.int .i64],.t 5 false [.int .i64]],lt 6 64 [],false⟩)]
abbrev C6d:List PK:= [.val false (.rs 113 B7) false,.val false (.int .i64) false]
abbrev C6e:List RK:= [.val false (.int .i64)]
def C6f(f:B1K):Nat×Fn:=(92,⟨C6d,C6e,fun x=>f x.1 x.2.1⟩)
def E1g:Fn:=(C6f B1L).2
theorem E1h(D4:J5)(C2:G0):∀ x,(C7 cfg [A3I D4,A2i C2] E1f 71 [.tmp 4] (Tryz.f92.body.getD .skip) C6d C6e).fn x=C5b D4 C2 x.1 x.2.1:=by intro x;kernel_rfl
theorem E1i:B0 Tryz.prog 92 E1g:=sm MO A8 (tc Tryz.call20 A5e (tc Tryz.call124 A4l A6)) Tryz.func92 (by kernel_rfl) (by decide) (E1h H4 F2)
abbrev C6g:List PK:= [.val true (.pair (.int .i64) (.pair (.rs 5 (.int .u8)) (.pair (.pair (.int .i64) (.pair .bool (.rs 5 (.int .u8)))) (.pair (.pair (.int .i64) (.rs 150 A5)) (.pair (.pair (.int .i64) (.rs 150 A5)) (.pair (.rs 113 B7) G4)))))) false,.val false (.int .i64) false]
abbrev C6h:List RK:= [.val false (.int .i64)]
def C6i(f:B1M):Nat×Fn:=(29,⟨C6g,C6h,fun x=>f x.1 x.2.1⟩)
def E1j:Fn:=(C6i A7H).2
theorem E1k(D4:J5)(A5j:A94)(A8D:A7E)(B1s:B1K):∀ x,(C7 cfg [A3I D4,C2m A5j,C0h A8D,C6f B1s] (B4 []) 36 [.tmp 4] (Tryz.f29.body.getD .skip) C6g C6h).fn x=B7G D4 A5j A8D B1s x.1 x.2.1:=by intro x;kernel_rfl
theorem E1l:B0 Tryz.prog 29 E1j:=sm MO A8 (tc Tryz.call20 A5e (tc Tryz.call21 D76 (tc Tryz.call91 D4s (tc Tryz.call92 E1i A6)))) Tryz.func29 (by kernel_rfl) (by decide) (E1k H4 A36 A7F B1L)
abbrev D0R:List PK:= [.val false (.int .i64) false,.val false (.int .i64) false,.val false (.int .i64) false]
abbrev D0S:List RK:= [.val false .bool]
def O6(f:E3):Nat×Fn:=(61,⟨D0R,D0S,fun x=>f x.1 x.2.1 x.2.2.1⟩)
def E4i:Fn:=(O6 E4).2
theorem E4j:∀ x,(C7 cfg [] (B4 []) 15 [.tmp 6] (Tryz.f61.body.getD .skip) D0R D0S).fn x=C9j x.1 x.2.1 x.2.2.1:=by intro x;kernel_rfl
theorem R1:B0 Tryz.prog 61 E4i:=sm MO A8 A6 Tryz.func61 (by kernel_rfl) (by decide) (E4j)
abbrev D4t:List PK:= [.val true A5 false]
abbrev D4u:List RK:= [.val false (.int .i64)]
def C4m(f:A3s):Nat×Fn:=(179,⟨D4t,D4u,fun x=>f x.1⟩)
def E7m:Fn:=(C4m A3t).2
theorem E7n:∀ x,(C7 cfg [] (B4 []) 11 [.tmp 2] (Tryz.f179.body.getD .skip) D4t D4u).fn x=D37 x.1:=by intro x;kernel_rfl
theorem D4v:B0 Tryz.prog 179 E7m:=sm MO A8 A6 Tryz.func179 (by kernel_rfl) (by decide) (E7n)
def E7o:Nat->Option Jn:=B4 [(58,⟨[.t 3 false [.int .i64],.t 9 false [.int .i64]],lt 10 8 [.b 5,.t 5],false⟩)]
abbrev D4w:List PK:= [.val true (.pair (.int .i64) (.rs 150 A5)) false]
abbrev D50:List RK:= [.val false (.int .i64)]
def D51(f:B7H):Nat×Fn:=(138,⟨D4w,D50,fun x=>f x.1⟩)
def E7p:Fn:=(D51 B2d).2
theorem E7q(U9:A3s):∀ x,(C7 cfg [C4m U9] E7o 19 [.tmp 2] (Tryz.f138.body.getD .skip) D4w D50).fn x=C4C U9 x.1:=by intro x;kernel_rfl
theorem E7r:B0 Tryz.prog 138 E7p:=sm MO A8 (tc Tryz.call179 D4v A6) Tryz.func138 (by kernel_rfl) (by decide) (E7q A3t)
abbrev D0T:List PK:= [.val true (.pair (.int .i64) (.rs 150 A5)) false]
abbrev D0U:List RK:= [.val false .bool]
def B4C(f:A2H):Nat×Fn:=(63,⟨D0T,D0U,fun x=>f x.1⟩)
def E4k:Fn:=(B4C A0a).2
theorem E4l(B1:E3)(B8R:B7H):∀ x,(C7 cfg [O6 B1,D51 B8R] (B4 []) 13 [.tmp 2] (Tryz.f63.body.getD .skip) D0T D0U).fn x=B9m B1 B8R x.1:=by intro x;kernel_rfl
theorem C0i:B0 Tryz.prog 63 E4k:=sm MO A8 (tc Tryz.call61 R1 (tc Tryz.call138 E7r A6)) Tryz.func63 (by kernel_rfl) (by decide) (E4l E4 B2d)
abbrev A5f:List PK:= [.val false (.rs 5 (.int .u8)) false]
abbrev A5g:List RK:= [.val false (.sl 5 (.int .u8))]
def G7(f:C4):Nat×Fn:=(144,⟨A5f,A5g,fun x=>f x.1⟩)
def B5L:Fn:=(G7 B8).2
theorem B5M:∀ x,(C7 cfg [] (B4 []) 8 [.tmp 2] (Tryz.f144.body.getD .skip) A5f A5g).fn x=V0 x.1:=by intro x;kernel_rfl
theorem I4:B0 Tryz.prog 144 B5L:=sm MO A8 A6 Tryz.func144 (by kernel_rfl) (by decide) (B5M)
def E7s:Nat->Option Jn:=B4 [(3,⟨[],lt 11 15 [],false⟩),(15,⟨[.t 8 false [.int .i64]],lt 26 17 [.t 10],true⟩),(122,⟨[.t 8 false [.int .i64],.t 33 false [.int .i64]],lt 34 9 [.t 10],false⟩)]
abbrev D52:List PK:= [.val false (.rs 5 (.int .u8)) false,.val false (.int .i64) false,.val false (.int .i64) false]
abbrev D53:List RK:= [.val false (.int .i64),.val false .bool]
def C4n(f:A8a):Nat×Fn:=(155,⟨D52,D53,fun x=>f x.1 x.2.1 x.2.2.1⟩)
def E7t:Fn:=(C4n A3u).2
theorem E7u(B1:E3):∀ x,(C7 cfg [O6 B1] E7s 44 [.tmp 6,.tmp 7] (Tryz.f155.body.getD .skip) D52 D53).fn x=C4D B1 x.1 x.2.1 x.2.2.1:=by intro x;kernel_rfl
theorem D54:B0 Tryz.prog 155 E7t:=sm MO A8 (tc Tryz.call61 R1 A6) Tryz.func155 (by kernel_rfl) (by decide) (E7u E4)
def E1m:Nat->Option Jn:=B4 [(3,⟨[],lt 13 9 [],false⟩)]
abbrev C6j:List PK:= [.val false (.rs 5 (.int .u8)) false,.val false (.int .i64) false]
abbrev C6k:List RK:= [.val true E0N,.val false (.int .i64),.val false (.int .i64)]
def B88(f:A2P):Nat×Fn:=(103,⟨C6j,C6k,fun x=>f x.1 x.2.1⟩)
def E1n:Fn:=(B88 A0H).2
theorem E1o(A7:C4)(A1h:A8a):∀ x,(C7 cfg [G7 A7,C4n A1h] E1m 80 [.cell 4 82,.tmp 5,.tmp 6] (Tryz.f103.body.getD .skip) C6j C6k).fn x=B7I A7 A1h x.1 x.2.1:=by intro x;kernel_rfl
theorem C6l:B0 Tryz.prog 103 E1n:=sm MO A8 (tc Tryz.call144 I4 (tc Tryz.call155 D54 A6)) Tryz.func103 (by kernel_rfl) (by decide) (E1o B8 A3u)
abbrev C6m:List PK:= [.val true (.pair (.int .i64) (.pair .bool (.rs 5 (.int .u8)))) false]
abbrev C6n:List RK:= [.val false .bool]
def B89(f:A4K):Nat×Fn:=(104,⟨C6m,C6n,fun x=>f x.1⟩)
def E1p:Fn:=(B89 A15).2
theorem E1q(B1:E3):∀ x,(C7 cfg [O6 B1] (B4 []) 24 [.tmp 2] (Tryz.f104.body.getD .skip) C6m C6n).fn x=B7J B1 x.1:=by intro x;kernel_rfl
theorem C6o:B0 Tryz.prog 104 E1p:=sm MO A8 (tc Tryz.call61 R1 A6) Tryz.func104 (by kernel_rfl) (by decide) (E1q E4)
def E7v:Nat->Option Jn:=B4 [(3,⟨[],lt 3 53 [.b 4],false⟩),(26,⟨[.t 8 false [.int .i64]],lt 9 47 [.b 4,.t 3,.t 4],false⟩),(1689,⟨[],lt 13 28 [],false⟩)]
abbrev D55:List PK:= [.val true (.pair (.int .i64) (.pair (.rs 5 (.int .u8)) (.pair (.pair (.int .i64) (.pair .bool (.rs 5 (.int .u8)))) (.pair (.pair (.int .i64) (.rs 150 A5)) (.pair (.pair (.int .i64) (.rs 150 A5)) (.pair (.rs 113 B7) G4)))))) false]
abbrev D56:List RK:= [.val false .bool]
def D57(f:B7K):Nat×Fn:=(116,⟨D55,D56,fun x=>f x.1⟩)
def E7w:Fn:=(D57 B2e).2
theorem E80(B1:E3):∀ x,(C7 cfg [O6 B1] E7v 60 [.tmp 2] (Tryz.f116.body.getD .skip) D55 D56).fn x=C4E B1 x.1:=by intro x;kernel_rfl
theorem E81:B0 Tryz.prog 116 E7w:=sm MO A8 (tc Tryz.call61 R1 A6) Tryz.func116 (by kernel_rfl) (by decide) (E80 E4)
def E82:Nat->Option Jn:=B4 [(3,⟨[],lt 6 27 [],false⟩),(7,⟨[],lt 33 16 [],false⟩),(15,⟨[],lt 49 31 [],false⟩)]
abbrev D58:List PK:= [.val true (.pair (.int .i64) (.pair (.rs 5 (.int .u8)) (.pair (.pair (.int .i64) (.pair .bool (.rs 5 (.int .u8)))) (.pair (.pair (.int .i64) (.rs 150 A5)) (.pair (.pair (.int .i64) (.rs 150 A5)) (.pair (.rs 113 B7) G4)))))) false]
abbrev D59:List RK:= [.val false .bool]
def D5A(f:B7L):Nat×Fn:=(43,⟨D58,D59,fun x=>f x.1⟩)
def E83:Fn:=(D5A A3v).2
theorem E84(B1:E3)(N2:A2H)(S8:A2P)(A0N:A4K)(B8S:B7K):∀ x,(C7 cfg [O6 B1,B4C N2,B88 S8,B89 A0N,D57 B8S] E82 89 [.tmp 2] (Tryz.f43.body.getD .skip) D58 D59).fn x=B7M B1 N2 S8 A0N B8S x.1:=by intro x;kernel_rfl
theorem E85:B0 Tryz.prog 43 E83:=sm MO A8 (tc Tryz.call61 R1 (tc Tryz.call63 C0i (tc Tryz.call103 C6l (tc Tryz.call104 C6o (tc Tryz.call116 E81 A6))))) Tryz.func43 (by kernel_rfl) (by decide) (E84 E4 A0a A0H A15 B2e)
abbrev A0B:List PK:= [.val false (.rs 150 A5) false]
abbrev A0C:List RK:= [.val false (.sl 150 A5)]
def O4(f:E2):Nat×Fn:=(139,⟨A0B,A0C,fun x=>f x.1⟩)
def A5I:Fn:=(O4 D8).2
theorem A5J:∀ x,(C7 cfg [] (B4 []) 8 [.tmp 2] (Tryz.f139.body.getD .skip) A0B A0C).fn x=O2 x.1:=by intro x;kernel_rfl
theorem A0D:B0 Tryz.prog 139 A5I:=sm MO A8 A6 Tryz.func139 (by kernel_rfl) (by decide) (A5J)
abbrev C2n:List PK:= [.val true (.pair (.int .i64) (.rs 150 A5)) false]
abbrev C2o:List RK:= [.val true P0]
def A9V(f:A0b):Nat×Fn:=(64,⟨C2n,C2o,fun x=>f x.1⟩)
def D77:Fn:=(A9V V1).2
theorem D78(C5:E2):∀ x,(C7 cfg [O4 C5] (B4 []) 9 [.cell 2 32] (Tryz.f64.body.getD .skip) C2n C2o).fn x=B55 C5 x.1:=by intro x;kernel_rfl
theorem B5N:B0 Tryz.prog 64 D77:=sm MO A8 (tc Tryz.call139 A0D A6) Tryz.func64 (by kernel_rfl) (by decide) (D78 D8)
abbrev C0j:List PK:= [.val true (.pair (.int .i64) (.pair .bool (.rs 5 (.int .u8)))) false]
abbrev C0k:List RK:= [.val true O5]
def B33(f:A20):Nat×Fn:=(107,⟨C0j,C0k,fun x=>f x.1⟩)
def D5B:Fn:=(B33 A0k).2
theorem D5C(A7:C4):∀ x,(C7 cfg [G7 A7] (B4 []) 8 [.cell 2 52] (Tryz.f107.body.getD .skip) C0j C0k).fn x=B2f A7 x.1:=by intro x;kernel_rfl
theorem C0l:B0 Tryz.prog 107 D5B:=sm MO A8 (tc Tryz.call144 I4 A6) Tryz.func107 (by kernel_rfl) (by decide) (D5C B8)
def E1r:Nat->Option Jn:=B4 [(1018,⟨[.t 27 false [.int .i64],.b 3 [.int .i64,.own 40960,.int .i64,.bool,.own 57346,.int .i64,.own 73729,.int .i64,.own 86017,.own 100000000,.int .i64,.int .i64],.r 40960 5 (.int .u8),.r 57346 5 (.int .u8),.r 73729 150 A5,.r 86017 150 A5,.r 100000000 113 B7],lt 28 14 [.b 5,.r 38,.r 39,.r 139264,.t 5],false⟩)]
abbrev C6p:List PK:= [.val true (.pair (.int .i64) (.pair (.rs 5 (.int .u8)) (.pair (.pair (.int .i64) (.pair .bool (.rs 5 (.int .u8)))) (.pair (.pair (.int .i64) (.rs 150 A5)) (.pair (.pair (.int .i64) (.rs 150 A5)) (.pair (.rs 113 B7) G4)))))) false]
abbrev C6q:List RK:= [.val true B5i]
def C6r(f:B1P):Nat×Fn:=(82,⟨C6p,C6q,fun x=>f x.1⟩)
def E1s:Fn:=(C6r A7K).2
theorem E1t(G8:A0b)(K9:A20)(A7:C4):∀ x,(C7 cfg [A9V G8,B33 K9,G7 A7] E1r 43 [.cell 2 55] (Tryz.f82.body.getD .skip) C6p C6q).fn x=B7N G8 K9 A7 x.1:=by intro x;kernel_rfl
theorem E1u:B0 Tryz.prog 82 E1s:=sm MO A8 (tc Tryz.call64 B5N (tc Tryz.call107 C0l (tc Tryz.call144 I4 A6))) Tryz.func82 (by kernel_rfl) (by decide) (E1t V1 A0k B8)
abbrev D0V:List PK:= [.val true (.pair (.int .i64) (.pair (.int .i64) (.pair (.int .i64) (.rs 5 (.int .u8))))) false]
abbrev D0W:List RK:= [.val false .bool]
def D0a(f:B3m):Nat×Fn:=(156,⟨D0V,D0W,fun x=>f x.1⟩)
def E4m:Fn:=(D0a Q7).2
theorem E4n(B1:E3):∀ x,(C7 cfg [O6 B1] (B4 []) 22 [.tmp 2] (Tryz.f156.body.getD .skip) D0V D0W).fn x=A3w B1 x.1:=by intro x;kernel_rfl
theorem E4o:B0 Tryz.prog 156 E4m:=sm MO A8 (tc Tryz.call61 R1 A6) Tryz.func156 (by kernel_rfl) (by decide) (E4n E4)
abbrev C2p:List PK:= [.val true (.pair (.int .i64) (.pair (.int .i64) (.pair (.int .i64) (.rs 5 (.int .u8))))) false,.val false (.int .i64) false]
abbrev C2q:List RK:= [.val false .bool]
def A1g(f:J6):Nat×Fn:=(109,⟨C2p,C2q,fun x=>f x.1 x.2.1⟩)
def D79:Fn:=(A1g J7).2
theorem D7A:∀ x,(C7 cfg [] (B4 []) 10 [.tmp 4] (Tryz.f109.body.getD .skip) C2p C2q).fn x=C2I x.1 x.2.1:=by intro x;kernel_rfl
theorem A3J:B0 Tryz.prog 109 D79:=sm MO A8 A6 Tryz.func109 (by kernel_rfl) (by decide) (D7A)
def E86:Nat->Option Jn:=B4 [(235,⟨[.t 13 false [.bool]],[.t 14,.t 15],true⟩)]
abbrev D5D:List PK:= [.val true (.pair (.int .i64) (.pair (.int .i64) (.pair (.int .i64) (.rs 5 (.int .u8))))) false]
abbrev D5E:List RK:= [.val false .bool]
def D5F(f:B7O):Nat×Fn:=(157,⟨D5D,D5E,fun x=>f x.1⟩)
def E87:Fn:=(D5F U5).2
theorem E88(D0:J6):∀ x,(C7 cfg [A1g D0] E86 40 [.tmp 2] (Tryz.f157.body.getD .skip) D5D D5E).fn x=A6A D0 x.1:=by intro x;kernel_rfl
theorem E89:B0 Tryz.prog 157 E87:=sm MO A8 (tc Tryz.call109 A3J A6) Tryz.func157 (by kernel_rfl) (by decide) (E88 J7)
def D7B:Nat->Option Jn:=B4 [(3,⟨[],lt 3 8 [],false⟩),(58,⟨[.t 13 false [.bool]],lt 14 6 [],true⟩)]
abbrev C2r:List PK:= [.val true (.pair (.int .i64) (.pair (.int .i64) (.pair (.int .i64) (.rs 5 (.int .u8))))) false]
abbrev C2s:List RK:= [.val false (.int .i64)]
def B5O(f:A37):Nat×Fn:=(105,⟨C2r,C2s,fun x=>f x.1⟩)
def D7C:Fn:=(B5O I3).2
theorem D7D(B4f:B3m)(B8T:B7O):∀ x,(C7 cfg [D0a B4f,D5F B8T] D7B 30 [.tmp 2] (Tryz.f105.body.getD .skip) C2r C2s).fn x=A1W B4f B8T x.1:=by intro x;kernel_rfl
theorem C2t:B0 Tryz.prog 105 D7C:=sm MO A8 (tc Tryz.call156 E4o (tc Tryz.call157 E89 A6)) Tryz.func105 (by kernel_rfl) (by decide) (D7D Q7 U5)
abbrev C2u:List PK:= [.val true (.pair (.int .i64) (.pair .bool (.rs 5 (.int .u8)))) false,.val true (.pair (.int .i64) (.pair (.int .i64) (.pair (.int .i64) (.rs 5 (.int .u8))))) false]
abbrev C2v:List RK:= [.val false .bool]
def C2w(f:A95):Nat×Fn:=(106,⟨C2u,C2v,fun x=>f x.1 x.2.1⟩)
def D7E:Fn:=(C2w A5M).2
theorem D7F:∀ x,(C7 cfg [] (B4 []) 21 [.tmp 4] (Tryz.f106.body.getD .skip) C2u C2v).fn x=B56 x.1 x.2.1:=by intro x;kernel_rfl
theorem D7G:B0 Tryz.prog 106 D7E:=sm MO A8 A6 Tryz.func106 (by kernel_rfl) (by decide) (D7F)
def F2W:Nat->Option Jn:=B4 [(7,⟨[.t 4 false [.ro 5 (.int .u8)],.t 5 false [.int .i64]],lt 9 11 [],false⟩),(31,⟨[.t 6 false [.int .i64]],lt 20 7 [],true⟩)]
abbrev D9a:List PK:= [.val true (.pair (.int .i64) (.pair (.int .i64) (.pair (.int .i64) (.rs 5 (.int .u8))))) false]
abbrev D9b:List RK:= [.val false (.sl 5 (.int .u8)),.val false .bool]
def C8p(f:B27):Nat×Fn:=(108,⟨D9a,D9b,fun x=>f x.1⟩)
def F2a:Fn:=(C8p A8b).2
theorem F2b(D0:J6)(A7:C4):∀ x,(C7 cfg [A1g D0,G7 A7] F2W 41 [.tmp 2,.tmp 3] (Tryz.f108.body.getD .skip) D9a D9b).fn x=C8P D0 A7 x.1:=by intro x;kernel_rfl
theorem D9c:B0 Tryz.prog 108 F2a:=sm MO A8 (tc Tryz.call109 A3J (tc Tryz.call144 I4 A6)) Tryz.func108 (by kernel_rfl) (by decide) (F2b J7 B8)
def F5T:Nat->Option Jn:=B4 [(3,⟨[],lt 10 14 [],false⟩),(6,⟨[.t 23 false [.bool]],lt 10 13 [],true⟩),(15,⟨[.b 7 [.int .i64,.bool,.own 100002000],.r 100002000 5 (.int .u8)],lt 42 14 (lt 31 9 [.r 54,.r 114690,.r 147456,.t 8,.t 9,.t 28,.t 29]),false⟩)]
abbrev E4p:List PK:= [.val true (.pair (.int .i64) (.pair .bool (.rs 5 (.int .u8)))) false,.val true (.pair (.int .i64) (.pair (.int .i64) (.pair (.int .i64) (.rs 5 (.int .u8))))) false]
abbrev E4q:List RK:= [.val true O5,.val false (.sl 5 (.int .u8)),.val false (.int .i64)]
def E4r(f:C5c):Nat×Fn:=(38,⟨E4p,E4q,fun x=>f x.1 x.2.1⟩)
def F5U:Fn:=(E4r B9n).2
theorem F5V(A0N:A4K)(V4:A37)(A9a:A95)(K9:A20)(A4n:B27)(D0:J6):∀ x,(C7 cfg [B89 A0N,B5O V4,C2w A9a,B33 K9,C8p A4n,A1g D0] F5T 68 [.cell 4 52,.tmp 5,.tmp 6] (Tryz.f38.body.getD .skip) E4p E4q).fn x=D38 A0N V4 A9a K9 A4n D0 x.1 x.2.1:=by intro x;kernel_rfl
theorem F5W:B0 Tryz.prog 38 F5U:=sm MO A8 (tc Tryz.call104 C6o (tc Tryz.call105 C2t (tc Tryz.call106 D7G (tc Tryz.call107 C0l (tc Tryz.call108 D9c (tc Tryz.call109 A3J A6)))))) Tryz.func38 (by kernel_rfl) (by decide) (F5V A15 I3 A5M A0k A8b J7)
def D1W:Nat->Option Jn:=B4 [(58,⟨[.t 1 false [.own 100000000],.t 9 false [.int .i64],.r 100000000 150 A5],lt 10 16 (lt 3 4 [.r 23,.r 24,.x 11]),false⟩)]
abbrev B8q:List PK:= []
abbrev B8r:List RK:= [.val false (.sl 150 A5)]
def B8s(f:A5q):Nat×Fn:=(209,⟨B8q,B8r,fun x=>f⟩)
def D1a:Fn:=(B8s A2l).2
theorem D1b(P8:A0w)(A3K:A5L):∀ x,(C7 cfg [B0f P8,C2c A3K] D1W 27 [.tmp 0] (Tryz.f209.body.getD .skip) B8q B8r).fn x=B8l P8 A3K:=by intro x;kernel_rfl
theorem D1c:B0 Tryz.prog 209 D1a:=sm MO A8 (tc Tryz.call231 B8p (tc Tryz.call232 D6r A6)) Tryz.func209 (by kernel_rfl) (by decide) (D1b A2k B50)
abbrev C0m:List PK:= [.val false (.int .i64) false]
abbrev C0n:List RK:= [.val true A5,.val false .bool]
def C0o(f:A7L):Nat×Fn:=(217,⟨C0m,C0n,fun x=>f x.1⟩)
def D5G:Fn:=(C0o A7M).2
theorem D5H(B1:E3)(A63:A5q):∀ x,(C7 cfg [O6 B1,B8s A63] (B4 []) 13 [.cell 2 150,.tmp 3] (Tryz.f217.body.getD .skip) C0m C0n).fn x=B2g B1 A63 x.1:=by intro x;kernel_rfl
theorem D5I:B0 Tryz.prog 217 D5G:=sm MO A8 (tc Tryz.call61 R1 (tc Tryz.call209 D1c A6)) Tryz.func217 (by kernel_rfl) (by decide) (D5H E4 A2l)
abbrev D0b:List PK:= [.val true (.pair (.int .i64) (.rs 150 A5)) false,.val false (.int .i64) false]
abbrev D0c:List RK:= [.val true A5,.val false .bool]
def D0d(f:B3n):Nat×Fn:=(191,⟨D0b,D0c,fun x=>f x.1 x.2.1⟩)
def E4s:Fn:=(D0d B02).2
theorem E4t(A8E:A7L):∀ x,(C7 cfg [C0o A8E] (B4 []) 26 [.cell 4 150,.tmp 5] (Tryz.f191.body.getD .skip) D0b D0c).fn x=B9o A8E x.1 x.2.1:=by intro x;kernel_rfl
theorem E4u:B0 Tryz.prog 191 E4s:=sm MO A8 (tc Tryz.call217 D5I A6) Tryz.func191 (by kernel_rfl) (by decide) (E4t A7M)
def D7H:Nat->Option Jn:=B4 [(3,⟨[],lt 13 11 [],false⟩),(127,⟨[],lt 42 27 (lt 10 3 [.t 1]),false⟩),(1018,⟨[.t 1 false [.int .i64],.t 10 false [.int .i64],.t 11 false [.int .i64]],lt 42 27 [.t 12],false⟩),(2036,⟨[],lt 42 8 [],false⟩)]
abbrev C30:List PK:= [.val false (.rs 5 (.int .u8)) false,.val false (.int .i64) false,.val false (.int .i64) false]
abbrev C31:List RK:= [.val false (.int .i64),.val false (.int .i64),.val false .bool]
def B5P(f:A38):Nat×Fn:=(192,⟨C30,C31,fun x=>f x.1 x.2.1 x.2.2.1⟩)
def D7I:Fn:=(B5P A1a).2
theorem D7J(B1:E3):∀ x,(C7 cfg [O6 B1] D7H 73 [.tmp 6,.tmp 7,.tmp 8] (Tryz.f192.body.getD .skip) C30 C31).fn x=B57 B1 x.1 x.2.1 x.2.2.1:=by intro x;kernel_rfl
theorem C32:B0 Tryz.prog 192 D7I:=sm MO A8 (tc Tryz.call61 R1 A6) Tryz.func192 (by kernel_rfl) (by decide) (D7J E4)
def E4v:Nat->Option Jn:=B4 [(7,⟨[.r 1 247 G4],lt 7 16 [.r 32768,.t 2,.t 3,.x 12,.x 20],true⟩),(58,⟨[.t 9 false [.int .i64],.r 1 247 G4],lt 10 13 [.t 2,.t 3,.x 12,.x 20],false⟩),(250,⟨[.t 4 false [.int .i64],.t 5 false [.int .i64],.r 1 247 G4],lt 23 22 [.t 6,.x 33,.x 40],false⟩),(32038,⟨[.t 4 false [.int .i64],.t 29 false [.int .i64],.r 1 247 G4],lt 30 15 [.t 6,.x 33,.x 40],false⟩)]
abbrev D0e:List PK:= []
abbrev D0f:List RK:= [.val false (.pa 257 G4)]
def D0g(f:B3o):Nat×Fn:=(210,⟨D0e,D0f,fun x=>f⟩)
def E4w:Fn:=(D0g B03).2
theorem E50(P8:A0w)(A2E:A3n):∀ x,(C7 (cfg.withAr [(247,257,246)]) [B0f P8,C0Q A2E] E4v 45 [.tmp 0] (Tryz.f210.body.getD .skip) D0e D0f).fn x=C9k P8 A2E:=by intro x;kernel_rfl
theorem E51:B0 Tryz.prog 210 E4w:=sm MO (B25 (l:= [(247,257,246)]) A8 ⟨C1a (f:=Tryz.t247) (ti:=⟨true,G4,16,[(0,1,false),(1,1,false)]⟩) Tryz.underlying247 (by kernel_rfl) (by kernel_rfl) (by kernel_rfl),trivial⟩) (tc Tryz.call231 B8p (tc Tryz.call233 D4F A6)) Tryz.func210 (by kernel_rfl) (by decide) (E50 A2k B2M)
def F5a:Nat->Option Jn:=B4 [(7,⟨[.t 1 false [.own 100000001],.t 7 false [.int .i64],.t 8 false [.int .i64],.r 100000001 5 (.int .u8)],lt 12 43 [.b 10,.r 47,.r 48,.r 1100,.r 100001000,.t 9,.t 10],true⟩),(58,⟨[.t 1 false [.own 100000001],.t 7 false [.int .i64],.t 8 false [.int .i64],.t 9 false [.int .i64],.r 100000001 5 (.int .u8)],lt 12 43 [.b 10,.r 47,.r 48,.r 1100,.r 100001000,.t 10],false⟩),(14926,⟨[.t 1 false [.own 100001000],.t 7 false [.int .i64],.t 8 false [.int .i64],.r 100001000 5 (.int .u8)],lt 37 18 [.r 47,.r 48,.r 1100,.r 100000001],false⟩)]
abbrev E52:List PK:= [.val false (.pa 257 G4) false,.val false (.sl 5 (.int .u8)) false,.val false .str false]
abbrev E53:List RK:= [.val false (.sl 5 (.int .u8))]
def E54(f:C5d):Nat×Fn:=(212,⟨E52,E53,fun x=>f x.1 x.2.1 x.2.2.1⟩)
def F5b:Fn:=(E54 B9p).2
theorem F5c:∀ x,(C7 (cfg.withAr [(247,257,246)]) [] F5a 72 [.tmp 6] (Tryz.f212.body.getD .skip) E52 E53).fn x=D3A x.1 x.2.1 x.2.2.1:=by intro x;kernel_rfl
theorem F5d:B0 Tryz.prog 212 F5b:=sm MO (B25 (l:= [(247,257,246)]) A8 ⟨C1a (f:=Tryz.t247) (ti:=⟨true,G4,16,[(0,1,false),(1,1,false)]⟩) Tryz.underlying247 (by kernel_rfl) (by kernel_rfl) (by kernel_rfl),trivial⟩) A6 Tryz.func212 (by kernel_rfl) (by decide) (F5c)
end
end Go.Proofs.YthnfghmjipikhaaGreatDoor.Ev
