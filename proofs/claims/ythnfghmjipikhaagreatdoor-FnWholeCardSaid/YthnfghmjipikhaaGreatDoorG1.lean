/- Each function of the program does what its plain function says. -/
import Derived.Test.YthnfghmjipikhaaGreatDoorTy
import Derived.Test.YthnfghmjipikhaaGreatDoorPu
import Derived.Test.YthnfghmjipikhaaGreatDoorIns
import Derived.Test.YthnfghmjipikhaaGreatDoorLibT
import Derived.Test.YthnfghmjipikhaaGreatDoorLibB
import Derived.Test.YthnfghmjipikhaaGreatDoorChunk
import Derived.Test.YthnfghmjipikhaaGreatDoorUnHuff
set_option linter.unusedVariables false
set_option maxRecDepth 100000
namespace Go.Proofs.YthnfghmjipikhaaGreatDoor.Ev
noncomputable section
abbrev A2a:List PK:= [.val false (.sl 150 A7) false,.val false (.int .i64) false,.val false (.sl 150 A7) false]
abbrev A2b:List RK:= [.val false (.sl 150 A7)]
def S1(f:G5):Nat×Fn:=(194,⟨A2a,A2b,fun x=>f x.1 x.2.1 x.2.2.1⟩)
def A2c:Fn:=(S1 G6).2
theorem A2d:B6 Tryz.prog 194 A2c:=B6s A7 (by decide)
abbrev A3b:List PK:= [.val false (.sl 150 A7) false,.val false (.int .i64) false]
abbrev A3c:List RK:= [.val false (.sl 150 A7)]
def V1(f:H4):Nat×Fn:=(230,⟨A3b,A3c,fun x=>f x.1 x.2.1⟩)
def A3d:Fn:=(V1 H5).2
theorem A3e:B6 Tryz.prog 230 A3d:=B9H
abbrev C13:List PK:= [.val false .str false,.val false .str false]
abbrev C14:List RK:= [.val false (.sl 9 .str)]
def A6S(f:W0):Nat×Fn:=(231,⟨C13,C14,fun x=>f x.1 x.2.1⟩)
def C15:Fn:=(A6S A16).2
theorem B2U:B6 Tryz.prog 231 C15:=D1E
abbrev C5S:List PK:= [.val false .str false,.val false .str false]
abbrev C5T:List RK:= [.val false .str,.val false .str,.val false .bool]
def B5H(f:A3K):Nat×Fn:=(232,⟨C5S,C5T,fun x=>f x.1 x.2.1⟩)
def C5U:Fn:=(B5H A9K).2
theorem C5V:B6 Tryz.prog 232 C5U:=D7c
abbrev C3e:List PK:= [.val false .str false]
abbrev C3f:List RK:= [.val false (.int .i64),.val false (.fnc 999999999)]
def B40(f:A1r):Nat×Fn:=(233,⟨C3e,C3f,fun x=>f x.1⟩)
def C3g:Fn:=(B40 A7T).2
theorem C3h:B6 Tryz.prog 233 C3g:=D3g
abbrev C3i:List PK:= [.val false (.int .i64) false]
abbrev C3j:List RK:= [.val false .str]
def A4p(f:R3):Nat×Fn:=(142,⟨C3i,C3j,fun x=>f x.1⟩)
def C3k:Fn:=(A4p O5).2
theorem A82:B6 Tryz.prog 142 C3k:=D3f
abbrev A4L:List PK:= [.val false (.sl 113 F5) false,.val false (.int .i64) false,.val false (.int .i64) false]
abbrev A4M:List RK:= [.val false (.sl 113 F5)]
def O3(f:E0):Nat×Fn:=(86,⟨A4L,A4M,fun x=>f x.1 x.2.1 x.2.2.1⟩)
def A4N:Fn:=(O3 C4).2
theorem V7:B6 Tryz.prog 86 A4N:=B9G F5 (by decide)
abbrev B0d:List PK:= [.val false (.sl 5 (.int .u8)) false,.val false (.int .i64) false]
abbrev B0e:List RK:= [.val false (.sl 5 (.int .u8))]
def A4J(f:R6):Nat×Fn:=(153,⟨B0d,B0e,fun x=>f x.1 x.2.1⟩)
def B0f:Fn:=(A4J R7).2
theorem B0g:B6 Tryz.prog 153 B0f:=C12
abbrev C0K:List PK:= [.val false (.int .i64) false,.val false (.int .i64) false,.val false (.int .i64) false]
abbrev C0L:List RK:= [.val false .bool]
def G3(f:B9):Nat×Fn:=(61,⟨C0K,C0L,fun x=>f x.1 x.2.1 x.2.2.1⟩)
def D1H:Fn:=(G3 C0).2
theorem D1I:∀ x,(D4 cfg [] (B7 []) 15 [.tmp 6] (Tryz.f61.body.getD .skip) C0K C0L).fn x=C02 x.1 x.2.1 x.2.2.1:=by intro x;kernel_rfl
theorem H0:B6 Tryz.prog 61 D1H:=sm MO B3 A8 Tryz.func61 (by kernel_rfl) (by decide) (D1I)
abbrev B2V:List PK:= [.val false (.int .i64) false]
abbrev B2W:List RK:= [.val false .str,.val false (.int .i64)]
def A3r(f:P5):Nat×Fn:=(136,⟨B2V,B2W,fun x=>f x.1⟩)
def C16:Fn:=(A3r K3).2
theorem C17:∀ x,(D4 cfg [] (B7 []) 11 [.tmp 2,.tmp 3] (Tryz.f136.body.getD .skip) B2V B2W).fn x=A3j x.1:=by intro x;kernel_rfl
theorem A6T:B6 Tryz.prog 136 C16:=sm MO B3 A8 Tryz.func136 (by kernel_rfl) (by decide) (C17)
def E0e:Nat->Option Jn:=B7 [(3,⟨[],lt 3 30 [],false⟩),(26,⟨[.t 3 false [.int .i64]],lt 4 29 [],false⟩)]
abbrev D1J:List PK:= [.val false .str false]
abbrev D1K:List RK:= [.val false .bool]
def C3l(f:B08):Nat×Fn:=(137,⟨D1J,D1K,fun x=>f x.1⟩)
def E0f:Fn:=(C3l A7U).2
theorem E0g(f_i_inRange:B9):∀ x,(D4 cfg [G3 f_i_inRange] E0e 36 [.tmp 2] (Tryz.f137.body.getD .skip) D1J D1K).fn x=C2o f_i_inRange x.1:=by intro x;kernel_rfl
theorem D1L:B6 Tryz.prog 137 E0f:=sm MO B3 (tc Tryz.call61 H0 A8) Tryz.func137 (by kernel_rfl) (by decide) (E0g C0)
abbrev C7N:List PK:= [.val true A61 false]
abbrev C7O:List RK:= [.val false .bool]
def B9I(f:A7H):Nat×Fn:=(62,⟨C7N,C7O,fun x=>f x.1⟩)
def D7f:Fn:=(B9I A5G).2
theorem D7g(f_i_inRange:B9)(f_i_numberField:P5)(f_i_idOk:B08):∀ x,(D4 cfg [G3 f_i_inRange,A3r f_i_numberField,C3l f_i_idOk] (B7 []) 25 [.tmp 2] (Tryz.f62.body.getD .skip) C7N C7O).fn x=B8t f_i_inRange f_i_numberField f_i_idOk x.1:=by intro x;kernel_rfl
theorem C7P:B6 Tryz.prog 62 D7f:=sm MO B3 (tc Tryz.call61 H0 (tc Tryz.call136 A6T (tc Tryz.call137 D1L A8))) Tryz.func62 (by kernel_rfl) (by decide) (D7g C0 K3 A7U)
abbrev C3m:List PK:= [.val true A7 false]
abbrev C3n:List RK:= [.val false (.int .i64)]
def B6t(f:A1s):Nat×Fn:=(179,⟨C3m,C3n,fun x=>f x.1⟩)
def D3j:Fn:=(B6t A1t).2
theorem D3k:∀ x,(D4 cfg [] (B7 []) 11 [.tmp 2] (Tryz.f179.body.getD .skip) C3m C3n).fn x=C2p x.1:=by intro x;kernel_rfl
theorem C3o:B6 Tryz.prog 179 D3j:=sm MO B3 A8 Tryz.func179 (by kernel_rfl) (by decide) (D3k)
def D3l:Nat->Option Jn:=B7 [(58,⟨[.t 3 false [.int .i64],.t 9 false [.int .i64]],lt 10 8 [.b 5,.t 5],false⟩)]
abbrev C3p:List PK:= [.val true (.pair (.int .i64) (.rs 150 A7)) false]
abbrev C3q:List RK:= [.val false (.int .i64)]
def C3r(f:B1P):Nat×Fn:=(138,⟨C3p,C3q,fun x=>f x.1⟩)
def D3m:Fn:=(C3r A7V).2
theorem D3n(f_i_sizeOf:A1s):∀ x,(D4 cfg [B6t f_i_sizeOf] D3l 19 [.tmp 2] (Tryz.f138.body.getD .skip) C3p C3q).fn x=B6P f_i_sizeOf x.1:=by intro x;kernel_rfl
theorem D3o:B6 Tryz.prog 138 D3m:=sm MO B3 (tc Tryz.call179 C3o A8) Tryz.func138 (by kernel_rfl) (by decide) (D3n A1t)
abbrev C0M:List PK:= [.val true (.pair (.int .i64) (.rs 150 A7)) false]
abbrev C0N:List RK:= [.val false .bool]
def A4K(f:P6):Nat×Fn:=(63,⟨C0M,C0N,fun x=>f x.1⟩)
def D1M:Fn:=(A4K N4).2
theorem D1N(f_i_inRange:B9)(f_i_SizeOf:B1P):∀ x,(D4 cfg [G3 f_i_inRange,C3r f_i_SizeOf] (B7 []) 13 [.tmp 2] (Tryz.f63.body.getD .skip) C0M C0N).fn x=B3L f_i_inRange f_i_SizeOf x.1:=by intro x;kernel_rfl
theorem A6G:B6 Tryz.prog 63 D1M:=sm MO B3 (tc Tryz.call61 H0 (tc Tryz.call138 D3o A8)) Tryz.func63 (by kernel_rfl) (by decide) (D1N C0 A7V)
abbrev T8:List PK:= [.val false (.rs 150 A7) false]
abbrev T9:List RK:= [.val false (.sl 150 A7)]
def L8(f:C9):Nat×Fn:=(139,⟨T8,T9,fun x=>f x.1⟩)
def A3C:Fn:=(L8 C5).2
theorem A3D:∀ x,(D4 cfg [] (B7 []) 8 [.tmp 2] (Tryz.f139.body.getD .skip) T8 T9).fn x=L6 x.1:=by intro x;kernel_rfl
theorem U0:B6 Tryz.prog 139 A3C:=sm MO B3 A8 Tryz.func139 (by kernel_rfl) (by decide) (A3D)
abbrev B5I:List PK:= [.val true (.pair (.int .i64) (.rs 150 A7)) false]
abbrev B5J:List RK:= [.val true A1q]
def A1U(f:K4):Nat×Fn:=(64,⟨B5I,B5J,fun x=>f x.1⟩)
def C5W:Fn:=(A1U I7).2
theorem C5a(f_slices_Clone_impl_Field_impl_Field:C9):∀ x,(D4 cfg [L8 f_slices_Clone_impl_Field_impl_Field] (B7 []) 9 [.cell 2 32] (Tryz.f64.body.getD .skip) B5I B5J).fn x=A9L f_slices_Clone_impl_Field_impl_Field x.1:=by intro x;kernel_rfl
theorem A3f:B6 Tryz.prog 64 C5W:=sm MO B3 (tc Tryz.call139 U0 A8) Tryz.func64 (by kernel_rfl) (by decide) (C5a C5)
def C3s:Nat->Option Jn:=B7 [(14,⟨[.t 2 false [.int .i64],.t 14 false [.int .i64]],lt 15 10 [.b 4,.t 3,.t 4,.t 35,.x 17],false⟩)]
abbrev B41:List PK:= [.ptr A1q]
abbrev B42:List RK:= []
def A83(f:A0a):Nat×Fn:=(195,⟨B41,B42,fun x=>f x.1⟩)
def C3t:Fn:=(A83 O6).2
theorem C3u(f_slices_Clone_impl_Field_impl_Field:C9)(f_i_sizeOf:A1s):∀ x,(D4 cfg [L8 f_slices_Clone_impl_Field_impl_Field,B6t f_i_sizeOf] C3s 36 [] (Tryz.f195.body.getD .skip) B41 B42).fn x=A7W f_slices_Clone_impl_Field_impl_Field f_i_sizeOf x.1:=by intro x;kernel_rfl
theorem B43:B6 Tryz.prog 195 C3t:=sm MO B3 (tc Tryz.call139 U0 (tc Tryz.call179 C3o A8)) Tryz.func195 (by kernel_rfl) (by decide) (C3u C5 A1t)
abbrev B5K:List PK:= [.ptr A1q,.val true A7 false]
abbrev B5L:List RK:= []
def A9h(f:A1K):Nat×Fn:=(161,⟨B5K,B5L,fun x=>f x.1 x.2.1⟩)
def C5b:Fn:=(A9h Q8).2
theorem C5c(f_slices_Insert_impl_Field_impl_Field:G5)(f_i_Table_trim:A0a):∀ x,(D4 cfg [S1 f_slices_Insert_impl_Field_impl_Field,A83 f_i_Table_trim] (B7 []) 16 [] (Tryz.f161.body.getD .skip) B5K B5L).fn x=A9M f_slices_Insert_impl_Field_impl_Field f_i_Table_trim x.1 x.2.1:=by intro x;kernel_rfl
theorem B5M:B6 Tryz.prog 161 C5b:=sm MO B3 (tc Tryz.call194 A2d (tc Tryz.call195 B43 A8)) Tryz.func161 (by kernel_rfl) (by decide) (C5c G6 O6)
def A2e:Nat->Option Jn:=B7 [(7,⟨[.t 3 false [.int .i64]],lt 9 12 [.t 5,.t 22],true⟩),(58,⟨[.t 3 false [.int .i64],.t 11 false [.int .i64]],lt 12 9 [.t 5,.t 22],false⟩),(250,⟨[.t 6 false [.own 100002000],.t 27 false [.int .i64],.r 100002000 150 A7],lt 28 7 [.r 33,.r 102400,.t 8],false⟩)]
abbrev S2:List PK:= [.val false (.rs 30 (.sl 150 A7)) false]
abbrev S3:List RK:= [.val false (.sl 150 A7)]
def S4(f:G7):Nat×Fn:=(208,⟨S2,S3,fun x=>f x.1⟩)
def A2f:Fn:=(S4 E1).2
theorem A2g(f_slices_Grow_impl_Field_impl_Field:H4):∀ x,(D4 cfg [V1 f_slices_Grow_impl_Field_impl_Field] A2e 36 [.tmp 2] (Tryz.f208.body.getD .skip) S2 S3).fn x=K7 f_slices_Grow_impl_Field_impl_Field x.1:=by intro x;kernel_rfl
theorem A2h:B6 Tryz.prog 208 A2f:=sm MO B3 (tc Tryz.call230 A3e A8) Tryz.func208 (by kernel_rfl) (by decide) (A2g H5)
def C18:Nat->Option Jn:=B7 [(58,⟨[.t 1 false [.own 100000000],.t 9 false [.int .i64],.r 100000000 150 A7],lt 10 16 (lt 3 4 [.r 23,.r 24,.x 11]),false⟩)]
abbrev B2a:List PK:= []
abbrev B2b:List RK:= [.val false (.sl 150 A7)]
def A6U(f:W4):Nat×Fn:=(209,⟨B2a,B2b,fun x=>f⟩)
def C19:Fn:=(A6U T2).2
theorem C1A(f_strings_Split:W0)(f_strings_Cut:A3K):∀ x,(D4 cfg [A6S f_strings_Split,B5H f_strings_Cut] C18 27 [.tmp 0] (Tryz.f209.body.getD .skip) B2a B2b).fn x=B2Q f_strings_Split f_strings_Cut:=by intro x;kernel_rfl
theorem B2c:B6 Tryz.prog 209 C19:=sm MO B3 (tc Tryz.call231 B2U (tc Tryz.call232 C5V A8)) Tryz.func209 (by kernel_rfl) (by decide) (C1A A16 A9K)
def C5d:Nat->Option Jn:=B7 [(255,⟨[.t 0 false [.own 100000000],.t 3 false [.int .i64],.r 100000000 5 (.int .u8)],lt 41 11 [.r 37,.r 48,.r 49],true⟩),(1020,⟨[.t 0 false [.own 100000000],.t 3 false [.int .i64],.r 100000000 5 (.int .u8)],lt 41 11 [.r 37,.r 48,.r 49],false⟩)]
abbrev B5N:List PK:= [.val false (.sl 5 (.int .u8)) false,.val false (.int .i64) false,.val false (.int .i64) false,.val false (.int .i64) false]
abbrev B5O:List RK:= [.val false (.sl 5 (.int .u8))]
def A9i(f:A1L):Nat×Fn:=(181,⟨B5N,B5O,fun x=>f x.1 x.2.1 x.2.2.1 x.2.2.2.1⟩)
def C5e:Fn:=(A9i Q9).2
theorem C5f:∀ x,(D4 cfg [] C5d 57 [.tmp 8] (Tryz.f181.body.getD .skip) B5N B5O).fn x=A9O x.1 x.2.1 x.2.2.1 x.2.2.2.1:=by intro x;kernel_rfl
theorem B5P:B6 Tryz.prog 181 C5e:=sm MO B3 A8 Tryz.func181 (by kernel_rfl) (by decide) (C5f)
abbrev C3v:List PK:= [.val false (.int .i64) false]
abbrev C3w:List RK:= [.val false (.int .i64),.val false (.int .i64)]
def C40(f:B1Q):Nat×Fn:=(182,⟨C3v,C3w,fun x=>f x.1⟩)
def D3p:Fn:=(C40 B1R).2
theorem D3q:∀ x,(D4 cfg [] (B7 []) 9 [.tmp 2,.tmp 3] (Tryz.f182.body.getD .skip) C3v C3w).fn x=C2q x.1:=by intro x;kernel_rfl
theorem D3r:B6 Tryz.prog 182 D3p:=sm MO B3 A8 Tryz.func182 (by kernel_rfl) (by decide) (D3q)
def D1O:Nat->Option Jn:=B7 [(7,⟨[.r 1 247 D9],lt 7 16 [.r 32768,.t 2,.t 3,.x 12,.x 20],true⟩),(58,⟨[.t 9 false [.int .i64],.r 1 247 D9],lt 10 13 [.t 2,.t 3,.x 12,.x 20],false⟩),(250,⟨[.t 4 false [.int .i64],.t 5 false [.int .i64],.r 1 247 D9],lt 23 22 [.t 6,.x 33,.x 40],false⟩),(32038,⟨[.t 4 false [.int .i64],.t 29 false [.int .i64],.r 1 247 D9],lt 30 15 [.t 6,.x 33,.x 40],false⟩)]
abbrev C0O:List PK:= []
abbrev C0P:List RK:= [.val false (.pa 257 D9)]
def B44(f:A4C):Nat×Fn:=(210,⟨C0O,C0P,fun x=>f⟩)
def D1P:Fn:=(B44 A1u).2
theorem D1Q(f_strings_Split:W0)(f_strconv_Atoi:A1r):∀ x,(D4 (cfg.withAr [(247,257,246)]) [A6S f_strings_Split,B40 f_strconv_Atoi] D1O 45 [.tmp 0] (Tryz.f210.body.getD .skip) C0O C0P).fn x=C03 f_strings_Split f_strconv_Atoi:=by intro x;kernel_rfl
theorem C0Q:B6 Tryz.prog 210 D1P:=sm MO (A5F (l:= [(247,257,246)]) B3 ⟨B1N (f:=Tryz.t247) (ti:=⟨true,D9,16,[(0,1,false),(1,1,false)]⟩) Tryz.underlying247 (by kernel_rfl) (by kernel_rfl) (by kernel_rfl),trivial⟩) (tc Tryz.call231 B2U (tc Tryz.call233 C3h A8)) Tryz.func210 (by kernel_rfl) (by decide) (D1Q A16 A7T)
def D1R:Nat->Option Jn:=B7 [(7,⟨[.t 5 false [.int .i64]],lt 6 17 [],true⟩),(58,⟨[.t 5 false [.int .i64],.t 6 false [.int .i64]],lt 7 16 [],false⟩)]
abbrev C0R:List PK:= [.val false (.pa 257 D9) false,.val false .str false]
abbrev C0S:List RK:= [.val false (.int .i64)]
def C0T(f:A8k):Nat×Fn:=(211,⟨C0R,C0S,fun x=>f x.1 x.2.1⟩)
def D1S:Fn:=(C0T A63).2
theorem D1T:∀ x,(D4 (cfg.withAr [(247,257,246)]) [] D1R 26 [.tmp 4] (Tryz.f211.body.getD .skip) C0R C0S).fn x=B3M x.1 x.2.1:=by intro x;kernel_rfl
theorem D1U:B6 Tryz.prog 211 D1S:=sm MO (A5F (l:= [(247,257,246)]) B3 ⟨B1N (f:=Tryz.t247) (ti:=⟨true,D9,16,[(0,1,false),(1,1,false)]⟩) Tryz.underlying247 (by kernel_rfl) (by kernel_rfl) (by kernel_rfl),trivial⟩) A8 Tryz.func211 (by kernel_rfl) (by decide) (D1T)
def E0h:Nat->Option Jn:=B7 [(7,⟨[.t 1 false [.own 100000001],.t 7 false [.int .i64],.t 8 false [.int .i64],.r 100000001 5 (.int .u8)],lt 12 43 [.b 10,.r 47,.r 48,.r 1100,.r 100001000,.t 9,.t 10],true⟩),(58,⟨[.t 1 false [.own 100000001],.t 7 false [.int .i64],.t 8 false [.int .i64],.t 9 false [.int .i64],.r 100000001 5 (.int .u8)],lt 12 43 [.b 10,.r 47,.r 48,.r 1100,.r 100001000,.t 10],false⟩),(14926,⟨[.t 1 false [.own 100001000],.t 7 false [.int .i64],.t 8 false [.int .i64],.r 100001000 5 (.int .u8)],lt 37 18 [.r 47,.r 48,.r 1100,.r 100000001],false⟩)]
abbrev D1V:List PK:= [.val false (.pa 257 D9) false,.val false (.sl 5 (.int .u8)) false,.val false .str false]
abbrev D1W:List RK:= [.val false (.sl 5 (.int .u8))]
def C41(f:B09):Nat×Fn:=(212,⟨D1V,D1W,fun x=>f x.1 x.2.1 x.2.2.1⟩)
def E0i:Fn:=(C41 A7a).2
theorem E0j:∀ x,(D4 (cfg.withAr [(247,257,246)]) [] E0h 72 [.tmp 6] (Tryz.f212.body.getD .skip) D1V D1W).fn x=C2s x.1 x.2.1 x.2.2.1:=by intro x;kernel_rfl
theorem D1a:B6 Tryz.prog 212 E0i:=sm MO (A5F (l:= [(247,257,246)]) B3 ⟨B1N (f:=Tryz.t247) (ti:=⟨true,D9,16,[(0,1,false),(1,1,false)]⟩) Tryz.underlying247 (by kernel_rfl) (by kernel_rfl) (by kernel_rfl),trivial⟩) A8 Tryz.func212 (by kernel_rfl) (by decide) (E0j)
abbrev B5Q:List PK:= [.val false (.sl 5 (.int .u8)) false,.val false .str false]
abbrev B5R:List RK:= [.val false (.sl 5 (.int .u8))]
def B5S(f:A5f):Nat×Fn:=(183,⟨B5Q,B5R,fun x=>f x.1 x.2.1⟩)
def C5g:Fn:=(B5S A1N).2
theorem C5h(f_i_putPrefix:A1L)(f_i_codesOf:A4C)(f_i_huffLen:A8k)(f_i_huff:B09):∀ x,(D4 cfg [A9i f_i_putPrefix,B44 f_i_codesOf,C0T f_i_huffLen,C41 f_i_huff] (B7 []) 27 [.tmp 4] (Tryz.f183.body.getD .skip) B5Q B5R).fn x=A9P f_i_putPrefix f_i_codesOf f_i_huffLen f_i_huff x.1 x.2.1:=by intro x;kernel_rfl
theorem C5i:B6 Tryz.prog 183 C5g:=sm MO B3 (tc Tryz.call181 B5P (tc Tryz.call210 C0Q (tc Tryz.call211 D1U (tc Tryz.call212 D1a A8)))) Tryz.func183 (by kernel_rfl) (by decide) (C5h Q9 A1u A63 A7a)
def A8I:Nat->Option Jn:=B7 [(7,⟨[.t 6 false [.int .i64]],lt 25 12 (lt 7 16 [.b 8,.r 12,.r 40960,.r 57344,.x 18]),false⟩),(58,⟨[.t 6 false [.int .i64],.t 15 false [.int .i64]],lt 25 12 (lt 16 7 [.b 8,.t 7,.t 8,.x 18]),false⟩)]
abbrev A2r:List PK:= [.val true (.pair (.int .i64) (.rs 150 A7)) false,.val true A7 false]
abbrev A2s:List RK:= [.val false (.int .i64),.val false .bool]
def A2t(f:A5e):Nat×Fn:=(180,⟨A2r,A2s,fun x=>f x.1 x.2.1⟩)
def A8J:Fn:=(A2t A3L).2
theorem A8K(f_slices_Concat_impl_Field_impl_Field:G7)(f_i_firstFields:W4):∀ x,(D4 (cfgR.withEq [(150,1002)]) [S4 f_slices_Concat_impl_Field_impl_Field,A6U f_i_firstFields] A8I 38 [.tmp 4,.tmp 5] (Tryz.f180.body.getD .skip) A2r A2s).fn x=A9N f_slices_Concat_impl_Field_impl_Field f_i_firstFields x.1 x.2.1:=by intro x;kernel_rfl
theorem A8L:B6 Tryz.prog 180 A8J:=sm MO (B8s (l:= [(150,1002)]) E2D ⟨E2h,trivial⟩) (tc Tryz.call208 A2h (tc Tryz.call209 B2c A8)) Tryz.func180 (by kernel_rfl) (by decide) (A8K E1 T2)
def C5j:Nat->Option Jn:=B7 [(7,⟨[],lt 21 5 [],false⟩),(63,⟨[.t 1 false [.own 100001000],.r 100001000 5 (.int .u8)],lt 39 6 [.r 159744,.r 184320],true⟩)]
abbrev B5T:List PK:= [.ptr A1q,.val false (.sl 5 (.int .u8)) false,.val true A7 false,.val false (.int .i64) false]
abbrev B5U:List RK:= [.val false (.sl 5 (.int .u8))]
def B5V(f:A3P):Nat×Fn:=(140,⟨B5T,B5U,fun x=>f x.1 x.2.1 x.2.2.1 x.2.2.2.1⟩)
def C5k:Fn:=(B5V U8).2
theorem C5l(f_i_Table_add:A1K)(f_i_FindField:A5e)(f_i_putPrefix:A1L)(f_i_formOf:B1Q)(f_i_putString:A5f):∀ x,(D4 cfg [A9h f_i_Table_add,A2t f_i_FindField,A9i f_i_putPrefix,C40 f_i_formOf,B5S f_i_putString] C5j 55 [.tmp 8] (Tryz.f140.body.getD .skip) B5T B5U).fn x=A9Q f_i_Table_add f_i_FindField f_i_putPrefix f_i_formOf f_i_putString x.1 x.2.1 x.2.2.1 x.2.2.2.1:=by intro x;kernel_rfl
theorem C5m:B6 Tryz.prog 140 C5k:=sm MO B3 (tc Tryz.call161 B5M (tc Tryz.call180 A8L (tc Tryz.call181 B5P (tc Tryz.call182 D3r (tc Tryz.call183 C5i A8))))) Tryz.func140 (by kernel_rfl) (by decide) (C5l Q8 A3L Q9 B1R A1N)
def C5n:Nat->Option Jn:=B7 [(31,⟨[.t 7 false [.own 100000001],.b 6 [.int .i64,.own 100000000],.r 100000000 150 A7,.r 100000001 5 (.int .u8)],lt 17 14 [.b 9,.r 53249,.r 122880,.r 124929,.t 9,.t 10],true⟩),(250,⟨[.t 7 false [.own 100000001],.t 19 false [.int .i64],.b 6 [.int .i64,.own 100000000],.r 100000000 150 A7,.r 100000001 5 (.int .u8)],lt 20 11 [.b 9,.r 53249,.r 122880,.r 124929,.t 9,.t 10],false⟩)]
abbrev B5W:List PK:= [.val true (.pair (.int .i64) (.rs 150 A7)) false,.val false (.rs 150 A7) false]
abbrev B5a:List RK:= [.val false (.sl 5 (.int .u8)),.val true A1q]
def A9j(f:A1O):Nat×Fn:=(65,⟨B5W,B5a,fun x=>f x.1 x.2.1⟩)
def C5o:Fn:=(A9j A0C).2
theorem C5p(f_i_TableOk:P6)(f_i_copyTable:K4)(f_i_Table_put:A3P):∀ x,(D4 cfg [A4K f_i_TableOk,A1U f_i_copyTable,B5V f_i_Table_put] C5n 33 [.tmp 4,.cell 5 32] (Tryz.f65.body.getD .skip) B5W B5a).fn x=A9R f_i_TableOk f_i_copyTable f_i_Table_put x.1 x.2.1:=by intro x;kernel_rfl
theorem B5b:B6 Tryz.prog 65 C5o:=sm MO B3 (tc Tryz.call63 A6G (tc Tryz.call64 A3f (tc Tryz.call140 C5m A8))) Tryz.func65 (by kernel_rfl) (by decide) (C5p N4 I7 U8)
abbrev B7r:List PK:= [.val false (.int .i64) false]
abbrev B7s:List RK:= [.val false .str]
def B29(f:A0s):Nat×Fn:=(141,⟨B7r,B7s,fun x=>f x.1⟩)
def C8j:Fn:=(B29 J0).2
theorem C8k:∀ x,(D4 (cfg.withAr [(211,6,9)]) [] (B7 []) 7 [.tmp 2] (Tryz.f141.body.getD .skip) B7r B7s).fn x=B1T x.1:=by intro x;kernel_rfl
theorem B7t:B6 Tryz.prog 141 C8j:=sm MO (A5F (l:= [(211,6,9)]) B3 ⟨B1N (f:=Tryz.t211) (ti:=⟨false,.str,16,[]⟩) Tryz.underlying211 (by kernel_rfl) (by kernel_rfl) (by kernel_rfl),trivial⟩) A8 Tryz.func141 (by kernel_rfl) (by decide) (C8k)
abbrev B7u:List PK:= [.val true A61 false]
abbrev B7v:List RK:= [.val false (.sl 150 A7)]
def B7w(f:A70):Nat×Fn:=(66,⟨B7u,B7v,fun x=>f x.1⟩)
def C8l:Fn:=(B7w A4S).2
theorem C8m(f_i_ReqOk:A7H)(f_i_numberField:P5)(f_i_methodOf:A0s)(f_strconv_Itoa:R3):∀ x,(D4 cfg [B9I f_i_ReqOk,A3r f_i_numberField,B29 f_i_methodOf,A4p f_strconv_Itoa] (B7 []) 36 [.tmp 2] (Tryz.f66.body.getD .skip) B7u B7v).fn x=B1U f_i_ReqOk f_i_numberField f_i_methodOf f_strconv_Itoa x.1:=by intro x;kernel_rfl
theorem C8n:B6 Tryz.prog 66 C8l:=sm MO B3 (tc Tryz.call62 C7P (tc Tryz.call136 A6T (tc Tryz.call141 B7t (tc Tryz.call142 A82 A8)))) Tryz.func66 (by kernel_rfl) (by decide) (C8m A5G K3 J0 O5)
def D3s:Nat->Option Jn:=B7 [(58,⟨[.t 0 false [.own 100000000],.t 7 false [.int .i64],.r 100000000 5 (.int .u8)],lt 12 13 [.r 23,.r 24,.r 1000],false⟩)]
abbrev C42:List PK:= [.val false (.sl 5 (.int .u8)) false,.val false (.int .i64) false,.val false (.int .i64) false]
abbrev C43:List RK:= [.val false (.sl 5 (.int .u8))]
def B6u(f:A5H):Nat×Fn:=(145,⟨C42,C43,fun x=>f x.1 x.2.1 x.2.2.1⟩)
def D3t:Fn:=(B6u A3t).2
theorem D3u:∀ x,(D4 cfg [] D3s 26 [.tmp 6] (Tryz.f145.body.getD .skip) C42 C43).fn x=B6Q x.1 x.2.1 x.2.2.1:=by intro x;kernel_rfl
theorem C44:B6 Tryz.prog 145 D3t:=sm MO B3 A8 Tryz.func145 (by kernel_rfl) (by decide) (D3u)
abbrev B80:List PK:= [.val false (.sl 5 (.int .u8)) false,.val true (.pair (.int .i64) (.pair (.int .i64) (.pair (.int .i64) (.rs 5 (.int .u8))))) false]
abbrev B81:List RK:= [.val false (.sl 5 (.int .u8))]
def A2i(f:J1):Nat×Fn:=(69,⟨B80,B81,fun x=>f x.1 x.2.1⟩)
def C8o:Fn:=(A2i E3).2
theorem C8p(f_i_putBig:A5H):∀ x,(D4 cfg [B6u f_i_putBig] (B7 []) 26 [.tmp 4] (Tryz.f69.body.getD .skip) B80 B81).fn x=B1W f_i_putBig x.1 x.2.1:=by intro x;kernel_rfl
theorem A4q:B6 Tryz.prog 69 C8o:=sm MO B3 (tc Tryz.call145 C44 A8) Tryz.func69 (by kernel_rfl) (by decide) (C8p A3t)
def C5q:Nat->Option Jn:=B7 [(26,⟨[.t 0 false [.own 100000000],.t 9 false [.int .i64],.r 100000000 5 (.int .u8)],lt 10 7 [.b 6,.r 1000,.r 65536,.t 6],false⟩)]
abbrev B5c:List PK:= [.val false (.sl 5 (.int .u8)) false,.val false (.rs 82 K6) false]
abbrev B5d:List RK:= [.val false (.sl 5 (.int .u8))]
def A9k(f:A1P):Nat×Fn:=(67,⟨B5c,B5d,fun x=>f x.1 x.2.1⟩)
def C5r:Fn:=(A9k A0D).2
theorem C5s(f_i_putFrame:J1):∀ x,(D4 cfg [A2i f_i_putFrame] C5q 18 [.tmp 4] (Tryz.f67.body.getD .skip) B5c B5d).fn x=A9S f_i_putFrame x.1 x.2.1:=by intro x;kernel_rfl
theorem B5e:B6 Tryz.prog 67 C5r:=sm MO B3 (tc Tryz.call69 A4q A8) Tryz.func67 (by kernel_rfl) (by decide) (C5s E3)
abbrev A3g:List PK:= [.val false (.rs 5 (.int .u8)) false]
abbrev A3h:List RK:= [.val false (.sl 5 (.int .u8))]
def D8(f:B2):Nat×Fn:=(144,⟨A3g,A3h,fun x=>f x.1⟩)
def A9l:Fn:=(D8 A9).2
theorem A9m:∀ x,(D4 cfg [] (B7 []) 8 [.tmp 2] (Tryz.f144.body.getD .skip) A3g A3h).fn x=R0 x.1:=by intro x;kernel_rfl
theorem E6:B6 Tryz.prog 144 A9l:=sm MO B3 A8 Tryz.func144 (by kernel_rfl) (by decide) (A9m)
def E0k:Nat->Option Jn:=B7 [(31,⟨[.b 9 [.own 20],.r 20 82 K6],lt 21 4 [.x 23],true⟩),(63,⟨[.b 9 [.own 100001000],.r 100001000 82 K6],lt 25 30 [.r 20,.r 43,.r 44,.r 217088,.t 10,.t 11,.x 33,.x 49],true⟩),(506,⟨[.b 9 [.own 100001000],.r 100001000 82 K6],lt 28 27 [.r 20,.r 43,.r 44,.r 217088,.t 10,.t 11,.x 33,.x 49],false⟩)]
abbrev D1b:List PK:= [.val false (.int .i64) false,.val false .bool false,.val false (.rs 5 (.int .u8)) false,.val false (.int .i64) false]
abbrev D1c:List RK:= [.val false (.sl 82 K6)]
def C45(f:B0A):Nat×Fn:=(68,⟨D1b,D1c,fun x=>f x.1 x.2.1 x.2.2.1 x.2.2.2.1⟩)
def E0l:Fn:=(C45 A7b).2
theorem E0m(f_i_inRange:B9)(f_slices_Clone_byte_byte:B2):∀ x,(D4 (cfg.withCk 143 185) [G3 f_i_inRange,D8 f_slices_Clone_byte_byte] E0k 66 [.tmp 8] (Tryz.f68.body.getD .skip) D1b D1c).fn x=C2t f_i_inRange f_slices_Clone_byte_byte x.1 x.2.1 x.2.2.1 x.2.2.2.1:=by intro x;kernel_rfl
theorem D1d:B6 Tryz.prog 68 E0l:=sm MO (D6p B3 (fun args w=>Tryz.call143 args w) E2F) (tc Tryz.call61 H0 (tc Tryz.call144 E6 A8)) Tryz.func68 (by kernel_rfl) (by decide) (E0m C0 A9)
def D1e:Nat->Option Jn:=B7 [(3,⟨[],lt 17 13 [],false⟩),(63,⟨[.t 14 false [.own 100001000],.r 100001000 5 (.int .u8)],lt 50 22 [.b 16,.r 204800,.r 294912,.t 3,.t 15,.t 16],true⟩),(252,⟨[.t 3 false [.ro 5 (.int .u8)],.t 14 false [.own 100001000],.r 100001000 5 (.int .u8)],lt 50 22 [.b 16,.r 204800,.r 294912,.t 15,.t 16],false⟩)]
abbrev C0U:List PK:= [.val true (.pair (.int .i64) (.rs 150 A7)) false,.val false (.int .i64) false,.val true A61 false,.val false (.rs 5 (.int .u8)) false,.val false (.int .i64) false]
abbrev C0V:List RK:= [.val false (.sl 5 (.int .u8)),.val true A1q]
def C0W(f:A8l):Nat×Fn:=(15,⟨C0U,C0V,fun x=>f x.1 x.2.1 x.2.2.1 x.2.2.2.1 x.2.2.2.2.1⟩)
def D1f:Fn:=(C0W A4D).2
theorem D1g(f_i_inRange:B9)(f_i_ReqOk:A7H)(f_i_TableOk:P6)(f_i_copyTable:K4)(f_i_PutFields:A1O)(f_i_FieldsOf:A70)(f_i_putFrames:A1P)(f_i_Part:B0A)(f_i_putFrame:J1):∀ x,(D4 cfg [G3 f_i_inRange,B9I f_i_ReqOk,A4K f_i_TableOk,A1U f_i_copyTable,A9j f_i_PutFields,B7w f_i_FieldsOf,A9k f_i_putFrames,C45 f_i_Part,A2i f_i_putFrame] D1e 74 [.tmp 10,.cell 11 32] (Tryz.f15.body.getD .skip) C0U C0V).fn x=B3N f_i_inRange f_i_ReqOk f_i_TableOk f_i_copyTable f_i_PutFields f_i_FieldsOf f_i_putFrames f_i_Part f_i_putFrame x.1 x.2.1 x.2.2.1 x.2.2.2.1 x.2.2.2.2.1:=by intro x;kernel_rfl
theorem D1h:B6 Tryz.prog 15 D1f:=sm MO B3 (tc Tryz.call61 H0 (tc Tryz.call62 C7P (tc Tryz.call63 A6G (tc Tryz.call64 A3f (tc Tryz.call65 B5b (tc Tryz.call66 C8n (tc Tryz.call67 B5e (tc Tryz.call68 D1d (tc Tryz.call69 A4q A8))))))))) Tryz.func15 (by kernel_rfl) (by decide) (D1g C0 A5G N4 I7 A0C A4S A0D A7b E3)
def D3v:Nat->Option Jn:=B7 [(3,⟨[],lt 11 15 [],false⟩),(15,⟨[.t 8 false [.int .i64]],lt 26 17 [.t 10],true⟩),(122,⟨[.t 8 false [.int .i64],.t 33 false [.int .i64]],lt 34 9 [.t 10],false⟩)]
abbrev C46:List PK:= [.val false (.rs 5 (.int .u8)) false,.val false (.int .i64) false,.val false (.int .i64) false]
abbrev C47:List RK:= [.val false (.int .i64),.val false .bool]
def B6v(f:A5I):Nat×Fn:=(155,⟨C46,C47,fun x=>f x.1 x.2.1 x.2.2.1⟩)
def D3w:Fn:=(B6v A1v).2
theorem D40(f_i_inRange:B9):∀ x,(D4 cfg [G3 f_i_inRange] D3v 44 [.tmp 6,.tmp 7] (Tryz.f155.body.getD .skip) C46 C47).fn x=B6R f_i_inRange x.1 x.2.1 x.2.2.1:=by intro x;kernel_rfl
theorem C48:B6 Tryz.prog 155 D3w:=sm MO B3 (tc Tryz.call61 H0 A8) Tryz.func155 (by kernel_rfl) (by decide) (D40 C0)
def C8q:Nat->Option Jn:=B7 [(3,⟨[],lt 13 9 [],false⟩)]
abbrev B82:List PK:= [.val false (.rs 5 (.int .u8)) false,.val false (.int .i64) false]
abbrev B83:List RK:= [.val true K6,.val false (.int .i64),.val false (.int .i64)]
def A78(f:R1):Nat×Fn:=(103,⟨B82,B83,fun x=>f x.1 x.2.1⟩)
def C8r:Fn:=(A78 O7).2
theorem C8s(f_slices_Clone_byte_byte:B2)(f_i_GetBig:A5I):∀ x,(D4 cfg [D8 f_slices_Clone_byte_byte,B6v f_i_GetBig] C8q 80 [.cell 4 82,.tmp 5,.tmp 6] (Tryz.f103.body.getD .skip) B82 B83).fn x=B1b f_slices_Clone_byte_byte f_i_GetBig x.1 x.2.1:=by intro x;kernel_rfl
theorem B2A:B6 Tryz.prog 103 C8r:=sm MO B3 (tc Tryz.call144 E6 (tc Tryz.call155 C48 A8)) Tryz.func103 (by kernel_rfl) (by decide) (C8s A9 A1v)
abbrev B84:List PK:= [.val true (.pair (.int .i64) (.pair .bool (.rs 5 (.int .u8)))) false]
abbrev B85:List RK:= [.val false .bool]
def B2B(f:A2I):Nat×Fn:=(104,⟨B84,B85,fun x=>f x.1⟩)
def C8t:Fn:=(B2B A0t).2
theorem C8u(f_i_inRange:B9):∀ x,(D4 cfg [G3 f_i_inRange] (B7 []) 24 [.tmp 2] (Tryz.f104.body.getD .skip) B84 B85).fn x=B1c f_i_inRange x.1:=by intro x;kernel_rfl
theorem B86:B6 Tryz.prog 104 C8t:=sm MO B3 (tc Tryz.call61 H0 A8) Tryz.func104 (by kernel_rfl) (by decide) (C8u C0)
def D41:Nat->Option Jn:=B7 [(3,⟨[],lt 3 53 [.b 4],false⟩),(26,⟨[.t 8 false [.int .i64]],lt 9 47 [.b 4,.t 3,.t 4],false⟩),(1689,⟨[],lt 13 28 [],false⟩)]
abbrev C49:List PK:= [.val true (.pair (.int .i64) (.pair (.rs 5 (.int .u8)) (.pair (.pair (.int .i64) (.pair .bool (.rs 5 (.int .u8)))) (.pair (.pair (.int .i64) (.rs 150 A7)) (.pair (.pair (.int .i64) (.rs 150 A7)) (.pair (.rs 113 F5) D9)))))) false]
abbrev C4A:List RK:= [.val false .bool]
def C4B(f:B1d):Nat×Fn:=(116,⟨C49,C4A,fun x=>f x.1⟩)
def D42:Fn:=(C4B A7c).2
theorem D43(f_i_inRange:B9):∀ x,(D4 cfg [G3 f_i_inRange] D41 60 [.tmp 2] (Tryz.f116.body.getD .skip) C49 C4A).fn x=B6S f_i_inRange x.1:=by intro x;kernel_rfl
theorem D44:B6 Tryz.prog 116 D42:=sm MO B3 (tc Tryz.call61 H0 A8) Tryz.func116 (by kernel_rfl) (by decide) (D43 C0)
def D45:Nat->Option Jn:=B7 [(3,⟨[],lt 6 27 [],false⟩),(7,⟨[],lt 33 16 [],false⟩),(15,⟨[],lt 49 31 [],false⟩)]
abbrev C4C:List PK:= [.val true (.pair (.int .i64) (.pair (.rs 5 (.int .u8)) (.pair (.pair (.int .i64) (.pair .bool (.rs 5 (.int .u8)))) (.pair (.pair (.int .i64) (.rs 150 A7)) (.pair (.pair (.int .i64) (.rs 150 A7)) (.pair (.rs 113 F5) D9)))))) false]
abbrev C4D:List RK:= [.val false .bool]
def B6w(f:A5J):Nat×Fn:=(43,⟨C4C,C4D,fun x=>f x.1⟩)
def D46:Fn:=(B6w A3u).2
theorem D47(f_i_inRange:B9)(f_i_TableOk:P6)(f_i_GetFrame:R1)(f_i_GatherOk:A2I)(f_i_strsOk:B1d):∀ x,(D4 cfg [G3 f_i_inRange,A4K f_i_TableOk,A78 f_i_GetFrame,B2B f_i_GatherOk,C4B f_i_strsOk] D45 89 [.tmp 2] (Tryz.f43.body.getD .skip) C4C C4D).fn x=B6T f_i_inRange f_i_TableOk f_i_GetFrame f_i_GatherOk f_i_strsOk x.1:=by intro x;kernel_rfl
theorem C4E:B6 Tryz.prog 43 D46:=sm MO B3 (tc Tryz.call61 H0 (tc Tryz.call63 A6G (tc Tryz.call103 B2A (tc Tryz.call104 B86 (tc Tryz.call116 D44 A8))))) Tryz.func43 (by kernel_rfl) (by decide) (D47 C0 N4 O7 A0t A7c)
abbrev B45:List PK:= [.val true (.pair (.int .i64) (.pair .bool (.rs 5 (.int .u8)))) false]
abbrev B46:List RK:= [.val true C1l]
def A84(f:A0b):Nat×Fn:=(107,⟨B45,B46,fun x=>f x.1⟩)
def C4F:Fn:=(A84 V3).2
theorem C4G(f_slices_Clone_byte_byte:B2):∀ x,(D4 cfg [D8 f_slices_Clone_byte_byte] (B7 []) 8 [.cell 2 52] (Tryz.f107.body.getD .skip) B45 B46).fn x=A7d f_slices_Clone_byte_byte x.1:=by intro x;kernel_rfl
theorem B47:B6 Tryz.prog 107 C4F:=sm MO B3 (tc Tryz.call144 E6 A8) Tryz.func107 (by kernel_rfl) (by decide) (C4G A9)
def C8v:Nat->Option Jn:=B7 [(1018,⟨[.t 27 false [.int .i64],.b 3 [.int .i64,.own 40960,.int .i64,.bool,.own 57346,.int .i64,.own 73729,.int .i64,.own 86017,.own 100000000,.int .i64,.int .i64],.r 40960 5 (.int .u8),.r 57346 5 (.int .u8),.r 73729 150 A7,.r 86017 150 A7,.r 100000000 113 F5],lt 28 14 [.b 5,.r 38,.r 39,.r 139264,.t 5],false⟩)]
abbrev B87:List PK:= [.val true (.pair (.int .i64) (.pair (.rs 5 (.int .u8)) (.pair (.pair (.int .i64) (.pair .bool (.rs 5 (.int .u8)))) (.pair (.pair (.int .i64) (.rs 150 A7)) (.pair (.pair (.int .i64) (.rs 150 A7)) (.pair (.rs 113 F5) D9)))))) false]
abbrev B88:List RK:= [.val true C2n]
def B2C(f:A2J):Nat×Fn:=(82,⟨B87,B88,fun x=>f x.1⟩)
def C8w:Fn:=(B2C A0u).2
theorem C90(f_i_copyTable:K4)(f_i_copyGather:A0b)(f_slices_Clone_byte_byte:B2):∀ x,(D4 cfg [A1U f_i_copyTable,A84 f_i_copyGather,D8 f_slices_Clone_byte_byte] C8v 43 [.cell 2 55] (Tryz.f82.body.getD .skip) B87 B88).fn x=B1e f_i_copyTable f_i_copyGather f_slices_Clone_byte_byte x.1:=by intro x;kernel_rfl
theorem B89:B6 Tryz.prog 82 C8w:=sm MO B3 (tc Tryz.call64 A3f (tc Tryz.call107 B47 (tc Tryz.call144 E6 A8))) Tryz.func82 (by kernel_rfl) (by decide) (C90 I7 V3 A9)
def C91:Nat->Option Jn:=B7 [(7,⟨[.t 6 false [.int .i64]],lt 7 21 [.x 20],true⟩),(28,⟨[.t 6 false [.int .i64]],lt 7 21 [.x 20],false⟩)]
abbrev B8A:List PK:= [.ptr C2n,.val false (.int .i64) false]
abbrev B8B:List RK:= [.val false (.int .i64),.val false .bool]
def A79(f:O8):Nat×Fn:=(83,⟨B8A,B8B,fun x=>f x.1 x.2.1⟩)
def C92:Fn:=(A79 K8).2
theorem C93:∀ x,(D4 cfg [] C91 48 [.tmp 4,.tmp 5] (Tryz.f83.body.getD .skip) B8A B8B).fn x=A72 x.1 x.2.1:=by intro x;kernel_rfl
theorem B2D:B6 Tryz.prog 83 C92:=sm MO B3 A8 Tryz.func83 (by kernel_rfl) (by decide) (C93)
abbrev C4H:List PK:= [.val true D9 false]
abbrev C4I:List RK:= [.val false .bool]
def B2E(f:A1w):Nat×Fn:=(84,⟨C4H,C4I,fun x=>f x.1⟩)
def D48:Fn:=(B2E A0v).2
theorem D49(f_i_inRange:B9):∀ x,(D4 cfg [G3 f_i_inRange] (B7 []) 11 [.tmp 2] (Tryz.f84.body.getD .skip) C4H C4I).fn x=B6U f_i_inRange x.1:=by intro x;kernel_rfl
theorem B70:B6 Tryz.prog 84 D48:=sm MO B3 (tc Tryz.call61 H0 A8) Tryz.func84 (by kernel_rfl) (by decide) (D49 C0)
abbrev B48:List PK:= [.val true D9 false]
abbrev B49:List RK:= [.val false (.sl 150 A7)]
def A85(f:A0c):Nat×Fn:=(85,⟨B48,B49,fun x=>f x.1⟩)
def C4J:Fn:=(A85 V4).2
theorem C4K(f_i_RespOk:A1w)(f_strconv_Itoa:R3):∀ x,(D4 cfg [B2E f_i_RespOk,A4p f_strconv_Itoa] (B7 []) 23 [.tmp 2] (Tryz.f85.body.getD .skip) B48 B49).fn x=A7e f_i_RespOk f_strconv_Itoa x.1:=by intro x;kernel_rfl
theorem B4A:B6 Tryz.prog 85 C4J:=sm MO B3 (tc Tryz.call84 B70 (tc Tryz.call142 A82 A8)) Tryz.func85 (by kernel_rfl) (by decide) (C4K A0v O5)
def A2j:Nat->Option Jn:=B7 [(7,⟨[.t 6 false [.int .i64]],lt 7 21 [],true⟩),(28,⟨[.t 6 false [.int .i64]],lt 7 21 [],false⟩)]
abbrev S5:List PK:= [.ptr (.pair (.int .i64) (.pair (.rs 5 (.int .u8)) (.pair (.pair (.int .i64) (.pair .bool (.rs 5 (.int .u8)))) (.pair (.pair (.int .i64) (.rs 150 A7)) (.pair (.pair (.int .i64) (.rs 150 A7)) (.pair (.rs 113 F5) D9)))))),.val false (.int .i64) false]
abbrev S6:List RK:= [.val false (.int .i64),.val false .bool]
def S7(f:O8):Nat×Fn:=(83,⟨S5,S6,fun x=>f x.1 x.2.1⟩)
def A2k:Fn:=(S7 K8).2
theorem A2l:∀ x,(D4 cfg [] A2j 48 [.tmp 4,.tmp 5] (Tryz.f83.body.getD .skip) S5 S6).fn x=A72 x.1 x.2.1:=by intro x;kernel_rfl
theorem A2m:B6 Tryz.prog 83 A2k:=sm MO B3 A8 Tryz.func83 (by kernel_rfl) (by decide) (A2l)
def C4L:Nat->Option Jn:=B7 [(15,⟨[],lt 21 26 [],false⟩)]
abbrev B4B:List PK:= [.val true (.pair (.int .i64) (.pair (.rs 5 (.int .u8)) (.pair (.pair (.int .i64) (.pair .bool (.rs 5 (.int .u8)))) (.pair (.pair (.int .i64) (.rs 150 A7)) (.pair (.pair (.int .i64) (.rs 150 A7)) (.pair (.rs 113 F5) D9)))))) false,.val false (.int .i64) false,.val true D9 false]
abbrev B4C:List RK:= [.val true C2n,.val false (.sl 5 (.int .u8)),.val false .bool]
def B4D(f:A4W):Nat×Fn:=(26,⟨B4B,B4C,fun x=>f x.1 x.2.1 x.2.2.1⟩)
def C4M:Fn:=(B4D R4).2
theorem C4N(f_i_ConnOk:A5J)(f_i_PutFields:A1O)(f_i_putFrames:A1P)(f_i_Part:B0A)(f_i_copyConn:A2J)(f_i_Conn_str:O8)(f_i_RespOk:A1w)(f_i_RespFields:A0c)(f_slices_Delete_impl_Str_impl_Str:E0):∀ x,(D4 cfg [B6w f_i_ConnOk,A9j f_i_PutFields,A9k f_i_putFrames,C45 f_i_Part,B2C f_i_copyConn,S7 f_i_Conn_str,B2E f_i_RespOk,A85 f_i_RespFields,O3 f_slices_Delete_impl_Str_impl_Str] C4L 70 [.cell 6 55,.tmp 7,.tmp 8] (Tryz.f26.body.getD .skip) B4B B4C).fn x=A4a f_i_ConnOk f_i_PutFields f_i_putFrames f_i_Part f_i_copyConn f_i_Conn_str f_i_RespOk f_i_RespFields f_slices_Delete_impl_Str_impl_Str x.1 x.2.1 x.2.2.1:=by intro x;kernel_rfl
theorem C4O:B6 Tryz.prog 26 C4M:=sm MO B3 (tc Tryz.call43 C4E (tc Tryz.call65 B5b (tc Tryz.call67 B5e (tc Tryz.call68 D1d (tc Tryz.call82 B89 (tc Tryz.call83 A2m (tc Tryz.call84 B70 (tc Tryz.call85 B4A (tc Tryz.call86 V7 A8))))))))) Tryz.func26 (by kernel_rfl) (by decide) (C4N A3u A0C A0D A7b A0u K8 A0v V4 C4)
abbrev D6A:List PK:= [.val false (.rs 5 (.int .u8)) false]
abbrev D6B:List RK:= [.val false .bool]
def D6C(f:C1m):Nat×Fn:=(30,⟨D6A,D6B,fun x=>f x.1⟩)
def E2H:Fn:=(D6C C1n).2
theorem E2I:∀ x,(D4 cfg [] (B7 []) 6 [.tmp 2] (Tryz.f30.body.getD .skip) D6A D6B).fn x=C84 x.1:=by intro x;kernel_rfl
theorem E2J:B6 Tryz.prog 30 E2H:=sm MO B3 A8 Tryz.func30 (by kernel_rfl) (by decide) (E2I)
abbrev C0a:List PK:= [.val false (.int .i64) false]
abbrev C0b:List RK:= [.val false (.int .i64)]
def C0c(f:A8m):Nat×Fn:=(128,⟨C0a,C0b,fun x=>f x.1⟩)
def D1i:Fn:=(C0c A64).2
theorem D1j:∀ x,(D4 cfg [] (B7 []) 9 [.tmp 2] (Tryz.f128.body.getD .skip) C0a C0b).fn x=B3Q x.1:=by intro x;kernel_rfl
theorem D1k:B6 Tryz.prog 128 D1i:=sm MO B3 A8 Tryz.func128 (by kernel_rfl) (by decide) (D1j)
abbrev C0d:List PK:= [.val true (.pair (.int .i64) (.pair (.int .i64) (.pair (.int .i64) (.rs 5 (.int .u8))))) false]
abbrev C0e:List RK:= [.val false .bool]
def C0f(f:A8p):Nat×Fn:=(156,⟨C0d,C0e,fun x=>f x.1⟩)
def D1l:Fn:=(C0f P8).2
theorem D1m(f_i_inRange:B9):∀ x,(D4 cfg [G3 f_i_inRange] (B7 []) 22 [.tmp 2] (Tryz.f156.body.getD .skip) C0d C0e).fn x=A21 f_i_inRange x.1:=by intro x;kernel_rfl
theorem D1n:B6 Tryz.prog 156 D1l:=sm MO B3 (tc Tryz.call61 H0 A8) Tryz.func156 (by kernel_rfl) (by decide) (D1m C0)
abbrev B5f:List PK:= [.val true (.pair (.int .i64) (.pair (.int .i64) (.pair (.int .i64) (.rs 5 (.int .u8))))) false,.val false (.int .i64) false]
abbrev B5g:List RK:= [.val false .bool]
def A0L(f:H6):Nat×Fn:=(109,⟨B5f,B5g,fun x=>f x.1 x.2.1⟩)
def C5t:Fn:=(A0L H7).2
theorem C5u:∀ x,(D4 cfg [] (B7 []) 10 [.tmp 4] (Tryz.f109.body.getD .skip) B5f B5g).fn x=B5A x.1 x.2.1:=by intro x;kernel_rfl
theorem A1V:B6 Tryz.prog 109 C5t:=sm MO B3 A8 Tryz.func109 (by kernel_rfl) (by decide) (C5u)
def D4A:Nat->Option Jn:=B7 [(235,⟨[.t 13 false [.bool]],[.t 14,.t 15],true⟩)]
abbrev C4P:List PK:= [.val true (.pair (.int .i64) (.pair (.int .i64) (.pair (.int .i64) (.rs 5 (.int .u8))))) false]
abbrev C4Q:List RK:= [.val false .bool]
def C4R(f:B1h):Nat×Fn:=(157,⟨C4P,C4Q,fun x=>f x.1⟩)
def D4B:Fn:=(C4R T3).2
theorem D4C(f_i_Frame_has:H6):∀ x,(D4 cfg [A0L f_i_Frame_has] D4A 40 [.tmp 2] (Tryz.f157.body.getD .skip) C4P C4Q).fn x=A3w f_i_Frame_has x.1:=by intro x;kernel_rfl
theorem D4D:B6 Tryz.prog 157 D4B:=sm MO B3 (tc Tryz.call109 A1V A8) Tryz.func157 (by kernel_rfl) (by decide) (D4C H7)
def C5v:Nat->Option Jn:=B7 [(3,⟨[],lt 3 8 [],false⟩),(58,⟨[.t 13 false [.bool]],lt 14 6 [],true⟩)]
abbrev B5h:List PK:= [.val true (.pair (.int .i64) (.pair (.int .i64) (.pair (.int .i64) (.rs 5 (.int .u8))))) false]
abbrev B5i:List RK:= [.val false (.int .i64)]
def A9n(f:A1Q):Nat×Fn:=(105,⟨B5h,B5i,fun x=>f x.1⟩)
def C5w:Fn:=(A9n F0).2
theorem C60(f_i_FrameOk:A8p)(f_i_bodyOk:B1h):∀ x,(D4 cfg [C0f f_i_FrameOk,C4R f_i_bodyOk] C5v 30 [.tmp 2] (Tryz.f105.body.getD .skip) B5h B5i).fn x=A0E f_i_FrameOk f_i_bodyOk x.1:=by intro x;kernel_rfl
theorem B5j:B6 Tryz.prog 105 C5w:=sm MO B3 (tc Tryz.call156 D1n (tc Tryz.call157 D4D A8)) Tryz.func105 (by kernel_rfl) (by decide) (C60 P8 T3)
abbrev B5k:List PK:= [.val true (.pair (.int .i64) (.pair .bool (.rs 5 (.int .u8)))) false,.val true (.pair (.int .i64) (.pair (.int .i64) (.pair (.int .i64) (.rs 5 (.int .u8))))) false]
abbrev B5l:List RK:= [.val false .bool]
def B5m(f:A5g):Nat×Fn:=(106,⟨B5k,B5l,fun x=>f x.1 x.2.1⟩)
def C61:Fn:=(B5m A3Q).2
theorem C62:∀ x,(D4 cfg [] (B7 []) 21 [.tmp 4] (Tryz.f106.body.getD .skip) B5k B5l).fn x=A9T x.1 x.2.1:=by intro x;kernel_rfl
theorem C63:B6 Tryz.prog 106 C61:=sm MO B3 A8 Tryz.func106 (by kernel_rfl) (by decide) (C62)
def D7h:Nat->Option Jn:=B7 [(7,⟨[.t 4 false [.ro 5 (.int .u8)],.t 5 false [.int .i64]],lt 9 11 [],false⟩),(31,⟨[.t 6 false [.int .i64]],lt 20 7 [],true⟩)]
abbrev C7Q:List PK:= [.val true (.pair (.int .i64) (.pair (.int .i64) (.pair (.int .i64) (.rs 5 (.int .u8))))) false]
abbrev C7R:List RK:= [.val false (.sl 5 (.int .u8)),.val false .bool]
def B9J(f:A7J):Nat×Fn:=(108,⟨C7Q,C7R,fun x=>f x.1⟩)
def D7i:Fn:=(B9J A5L).2
theorem D7j(f_i_Frame_has:H6)(f_slices_Clone_byte_byte:B2):∀ x,(D4 cfg [A0L f_i_Frame_has,D8 f_slices_Clone_byte_byte] D7h 41 [.tmp 2,.tmp 3] (Tryz.f108.body.getD .skip) C7Q C7R).fn x=B90 f_i_Frame_has f_slices_Clone_byte_byte x.1:=by intro x;kernel_rfl
theorem C7S:B6 Tryz.prog 108 D7i:=sm MO B3 (tc Tryz.call109 A1V (tc Tryz.call144 E6 A8)) Tryz.func108 (by kernel_rfl) (by decide) (D7j H7 A9)
def E0n:Nat->Option Jn:=B7 [(3,⟨[],lt 10 14 [],false⟩),(6,⟨[.t 23 false [.bool]],lt 10 13 [],true⟩),(15,⟨[.b 7 [.int .i64,.bool,.own 100002000],.r 100002000 5 (.int .u8)],lt 42 14 (lt 31 9 [.r 54,.r 114690,.r 147456,.t 8,.t 9,.t 28,.t 29]),false⟩)]
abbrev D1o:List PK:= [.val true (.pair (.int .i64) (.pair .bool (.rs 5 (.int .u8)))) false,.val true (.pair (.int .i64) (.pair (.int .i64) (.pair (.int .i64) (.rs 5 (.int .u8))))) false]
abbrev D1p:List RK:= [.val true C1l,.val false (.sl 5 (.int .u8)),.val false (.int .i64)]
def C4S(f:B0C):Nat×Fn:=(38,⟨D1o,D1p,fun x=>f x.1 x.2.1⟩)
def E0o:Fn:=(C4S A7h).2
theorem E0p(f_i_GatherOk:A2I)(f_i_FrameCode:A1Q)(f_i_isInOrder:A5g)(f_i_copyGather:A0b)(f_i_Unpad:A7J)(f_i_Frame_has:H6):∀ x,(D4 cfg [B2B f_i_GatherOk,A9n f_i_FrameCode,B5m f_i_isInOrder,A84 f_i_copyGather,B9J f_i_Unpad,A0L f_i_Frame_has] E0n 68 [.cell 4 52,.tmp 5,.tmp 6] (Tryz.f38.body.getD .skip) D1o D1p).fn x=C2u f_i_GatherOk f_i_FrameCode f_i_isInOrder f_i_copyGather f_i_Unpad f_i_Frame_has x.1 x.2.1:=by intro x;kernel_rfl
theorem D1q:B6 Tryz.prog 38 E0o:=sm MO B3 (tc Tryz.call104 B86 (tc Tryz.call105 B5j (tc Tryz.call106 C63 (tc Tryz.call107 B47 (tc Tryz.call108 C7S (tc Tryz.call109 A1V A8)))))) Tryz.func38 (by kernel_rfl) (by decide) (E0p A0t F0 A3Q V3 A5L H7)
abbrev B4E:List PK:= [.val false (.int .i64) false]
abbrev B4F:List RK:= [.val true A7,.val false .bool]
def B4G(f:A4b):Nat×Fn:=(217,⟨B4E,B4F,fun x=>f x.1⟩)
def C4T:Fn:=(B4G A4c).2
theorem C4U(f_i_inRange:B9)(f_i_firstFields:W4):∀ x,(D4 cfg [G3 f_i_inRange,A6U f_i_firstFields] (B7 []) 13 [.cell 2 150,.tmp 3] (Tryz.f217.body.getD .skip) B4E B4F).fn x=A7i f_i_inRange f_i_firstFields x.1:=by intro x;kernel_rfl
theorem C4V:B6 Tryz.prog 217 C4T:=sm MO B3 (tc Tryz.call61 H0 (tc Tryz.call209 B2c A8)) Tryz.func217 (by kernel_rfl) (by decide) (C4U C0 T2)
abbrev C0g:List PK:= [.val true (.pair (.int .i64) (.rs 150 A7)) false,.val false (.int .i64) false]
abbrev C0h:List RK:= [.val true A7,.val false .bool]
def C0i(f:A8q):Nat×Fn:=(191,⟨C0g,C0h,fun x=>f x.1 x.2.1⟩)
def D1r:Fn:=(C0i A67).2
theorem D1s(f_i_FirstField:A4b):∀ x,(D4 cfg [B4G f_i_FirstField] (B7 []) 26 [.cell 4 150,.tmp 5] (Tryz.f191.body.getD .skip) C0g C0h).fn x=B3T f_i_FirstField x.1 x.2.1:=by intro x;kernel_rfl
theorem D1t:B6 Tryz.prog 191 D1r:=sm MO B3 (tc Tryz.call217 C4V A8) Tryz.func191 (by kernel_rfl) (by decide) (D1s A4c)
def C64:Nat->Option Jn:=B7 [(3,⟨[],lt 13 11 [],false⟩),(127,⟨[],lt 42 27 (lt 10 3 [.t 1]),false⟩),(1018,⟨[.t 1 false [.int .i64],.t 10 false [.int .i64],.t 11 false [.int .i64]],lt 42 27 [.t 12],false⟩),(2036,⟨[],lt 42 8 [],false⟩)]
abbrev B5n:List PK:= [.val false (.rs 5 (.int .u8)) false,.val false (.int .i64) false,.val false (.int .i64) false]
abbrev B5o:List RK:= [.val false (.int .i64),.val false (.int .i64),.val false .bool]
def A9o(f:A1R):Nat×Fn:=(192,⟨B5n,B5o,fun x=>f x.1 x.2.1 x.2.2.1⟩)
def C65:Fn:=(A9o A0F).2
theorem C66(f_i_inRange:B9):∀ x,(D4 cfg [G3 f_i_inRange] C64 73 [.tmp 6,.tmp 7,.tmp 8] (Tryz.f192.body.getD .skip) B5n B5o).fn x=A9U f_i_inRange x.1 x.2.1 x.2.2.1:=by intro x;kernel_rfl
theorem B5p:B6 Tryz.prog 192 C65:=sm MO B3 (tc Tryz.call61 H0 A8) Tryz.func192 (by kernel_rfl) (by decide) (C66 C0)
def D4E:Nat->Option Jn:=B7 [(63,⟨[.t 8 false [.own 100000001],.r 100000001 5 (.int .u8)],lt 71 8 (lt 28 41 (lt 11 4 [.b 9,.r 75,.r 76,.r 100001000])),false⟩),(506,⟨[.t 8 false [.own 100000001],.t 30 false [.int .i64],.b 9 [.int .i64,.int .i64],.r 100000001 5 (.int .u8)],lt 71 8 (lt 31 38 (lt 11 4 [.r 75,.r 76,.r 100001000])),false⟩),(129638,⟨[.t 8 false [.own 100001000],.t 12 false [.int .i64],.b 9 [.int .i64,.int .i64],.r 100001000 5 (.int .u8)],lt 71 7 (lt 34 35 [.r 75,.r 76,.r 100000001,.t 13,.t 14]),false⟩),(16593703,⟨[],lt 59 10 [],false⟩)]
abbrev D4F:List PK:= [.val false (.pa 257 D9) false,.val false (.rs 5 (.int .u8)) false]
abbrev D4G:List RK:= [.val false .str]
def C4W(f:B1i):Nat×Fn:=(265,⟨D4F,D4G,fun x=>f x.1 x.2.1⟩)
def D4H:Fn:=(C4W A7j).2
theorem D4I:∀ x,E3g D4E x=B6b x.1 x.2.1:=by intro x;kernel_rfl
theorem D4J:B6 Tryz.prog 265 D4H:=E0d D4I
abbrev B5q:List PK:= [.val false (.rs 5 (.int .u8)) false,.val false (.rs 5 (.int .u8)) false]
abbrev B5r:List RK:= [.val false .bool]
def B5s(f:A5h):Nat×Fn:=(266,⟨B5q,B5r,fun x=>f x.1 x.2.1⟩)
def C67:Fn:=(B5s A5i).2
theorem C68:∀ x,(D4 cfg [] (B7 []) 10 [.tmp 4] (Tryz.f266.body.getD .skip) B5q B5r).fn x=A9V x.1 x.2.1:=by intro x;kernel_rfl
theorem C69:B6 Tryz.prog 266 C67:=sm MO B3 A8 Tryz.func266 (by kernel_rfl) (by decide) (C68)
abbrev C4a:List PK:= [.val false (.rs 5 (.int .u8)) false]
abbrev C4b:List RK:= [.val false .str,.val false .bool]
def C4c(f:B1j):Nat×Fn:=(242,⟨C4a,C4b,fun x=>f x.1⟩)
def D4K:Fn:=(C4c A7k).2
theorem D4L(f_i_codesOf:A4C)(f_i_huff:B09)(f_i_unHuff:B1i)(f_bytes_Equal:A5h):∀ x,(D4 cfg [B44 f_i_codesOf,C41 f_i_huff,C4W f_i_unHuff,B5s f_bytes_Equal] (B7 []) 17 [.tmp 2,.tmp 3] (Tryz.f242.body.getD .skip) C4a C4b).fn x=B6c f_i_codesOf f_i_huff f_i_unHuff f_bytes_Equal x.1:=by intro x;kernel_rfl
theorem D4M:B6 Tryz.prog 242 D4K:=sm MO B3 (tc Tryz.call210 C0Q (tc Tryz.call212 D1a (tc Tryz.call265 D4J (tc Tryz.call266 C69 A8)))) Tryz.func242 (by kernel_rfl) (by decide) (D4L A1u A7a A7j A5i)
def C6A:Nat->Option Jn:=B7 [(7,⟨[],lt 19 14 [],false⟩)]
abbrev B5t:List PK:= [.val false (.rs 5 (.int .u8)) false,.val false (.int .i64) false]
abbrev B5u:List RK:= [.val false .str,.val false (.int .i64),.val false .bool]
def B5v(f:A5j):Nat×Fn:=(218,⟨B5t,B5u,fun x=>f x.1 x.2.1⟩)
def C6B:Fn:=(B5v A3R).2
theorem C6C(f_i_GetPrefix:A1R)(f_i_UnHuff:B1j):∀ x,(D4 cfg [A9o f_i_GetPrefix,C4c f_i_UnHuff] C6A 65 [.tmp 4,.tmp 5,.tmp 6] (Tryz.f218.body.getD .skip) B5t B5u).fn x=A9W f_i_GetPrefix f_i_UnHuff x.1 x.2.1:=by intro x;kernel_rfl
theorem C6D:B6 Tryz.prog 218 C6B:=sm MO B3 (tc Tryz.call192 B5p (tc Tryz.call242 D4M A8)) Tryz.func218 (by kernel_rfl) (by decide) (C6C A0F A7k)
end
end Go.Proofs.YthnfghmjipikhaaGreatDoor.Ev
