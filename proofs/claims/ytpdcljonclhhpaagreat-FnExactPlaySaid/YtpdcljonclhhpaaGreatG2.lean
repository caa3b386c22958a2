/- Each function of the program does what its plain function says. -/
import Derived.Test.YtpdcljonclhhpaaGreatG1
import Derived.Test.YtpdcljonclhhpaaGreatFind
set_option linter.unusedVariables false
set_option maxRecDepth 100000
namespace Go.Proofs.YtpdcljonclhhpaaGreat.Ev
noncomputable section
def C4A:Nat→Option Jn:=B3 [(3,⟨[],lt 9 8 [],false⟩)]
abbrev B2B:List PK:= [.ptr A47,.val false .str false,.val false (.int .i64) false]
abbrev B2C:List RK:= [.val false (.int .i64)]
def B2D(f:A1u):Nat×Fn:=(222,⟨B2B,B2C,fun x=>f x.1 x.2.1 x.2.2.1⟩)
def C4B:Fn:=(B2D Z3).2
theorem C4C(f_i_inRange:C5)(f_i_idOk:S5)(f_i_Store_left:L8)(f_i_Store_write_r97_0:F4)(f_i_Store_find:H8):∀ x,(B8 (cfg.withPk 276 ⟨kUp,4,f_i_Store_find⟩) [I4 f_i_inRange,A7E f_i_idOk,A1j f_i_Store_left,P8 f_i_Store_write_r97_0] C4A 39 [.tmp 6] (Tryz.f222.body.getD .skip) B2B B2C).fn x=A5a f_i_inRange f_i_idOk f_i_Store_left f_i_Store_write_r97_0 f_i_Store_find x.1 x.2.1 x.2.2.1:=by intro x;kernel_rfl
theorem C4D:B0 Tryz.prog 222 C4B:=sm MO (A8L A7 (fun args w=>Tryz.call276 args w) A05) (tc Tryz.call80 J3 (tc Tryz.call147 A9Q (tc Tryz.call277 A59 (tc Tryz.call278 V4 A5)))) Tryz.func222 (by kernel_rfl) (by decide) (C4C C8 Q9 K6 C9 G3)
def C7B:Nat→Option Jn:=B3 [(3,⟨[],lt 12 9 [],false⟩),(15,⟨[.b 1000 [.own 215040,.own 215041,.int .i64,.int .i64,.own 215044],.r 215040 9 .str,.r 215041 9 .str,.r 215044 109 kUp],lt 27 31 [.r 1000,.r 1001,.r 1004],false⟩),(243,⟨[.t 30 false [.bool]],lt 31 18 [],true⟩),(250,⟨[.b 6 [.int .i64],.b 1000 [.own 100003000,.own 100003001,.int .i64,.int .i64,.own 100003002],.r 100003000 9 .str,.r 100003001 9 .str,.r 100003002 109 kUp],lt 60 10 [.r 215040,.r 215041,.r 215044,.r 272384,.r 272385,.r 272388,.t 11],false⟩)]
abbrev B4Q:List PK:= [.ptr A47,.val false .str false,.val false (.int .i64) false,.val false (.rs 5 (.int .u8)) false]
abbrev B4R:List RK:= [.val false (.int .i64)]
def B4S(f:A2x):Nat×Fn:=(223,⟨B4Q,B4R,fun x=>f x.1 x.2.1 x.2.2.1 x.2.2.2.1⟩)
def C7C:Fn:=(B4S A0W).2
theorem C7D(f_i_inRange:C5)(f_i_idOk:S5)(f_i_Store_left:L8)(f_i_Store_write_r97_0:F4)(f_i_Store_find:H8):∀ x,(B8 (((cfg.withPk 276 ⟨kUp,4,f_i_Store_find⟩).withCk 279 304).withPt [244]) [I4 f_i_inRange,A7E f_i_idOk,A1j f_i_Store_left,P8 f_i_Store_write_r97_0] C7B 70 [.tmp 8] (Tryz.f223.body.getD .skip) B4Q B4R).fn x=A7M f_i_inRange f_i_idOk f_i_Store_left f_i_Store_write_r97_0 f_i_Store_find x.1 x.2.1 x.2.2.1 x.2.2.2.1:=by intro x;kernel_rfl
theorem C7E:B0 Tryz.prog 223 C7C:=sm MO (E65 (l:= [244]) (E64 (A8L A7 (fun args w=>Tryz.call276 args w) A05) (fun args w=>Tryz.call279 args w) F0d) ⟨⟨_,Tryz.underlying244,rfl⟩,trivial⟩) (tc Tryz.call80 J3 (tc Tryz.call147 A9Q (tc Tryz.call277 A59 (tc Tryz.call278 V4 A5)))) Tryz.func223 (by kernel_rfl) (by decide) (C7D C8 Q9 K6 C9 G3)
abbrev B4T:List PK:= [.ptr A1r,.val false (.int .i64) false,.val false .str false]
abbrev B4U:List RK:= [.val true F0]
def A3L(f:O7):Nat×Fn:=(224,⟨B4T,B4U,fun x=>f x.1 x.2.1 x.2.2.1⟩)
def C7F:Fn:=(A3L M3).2
theorem C7G(f_i_Store_find:H8):∀ x,(B8 (cfg.withPk 276 ⟨kUp,4,f_i_Store_find⟩) [] (B3 []) 22 [.cell 6 126] (Tryz.f224.body.getD .skip) B4T B4U).fn x=A7N f_i_Store_find x.1 x.2.1 x.2.2.1:=by intro x;kernel_rfl
theorem A7f:B0 Tryz.prog 224 C7F:=sm MO (A8L A7 (fun args w=>Tryz.call276 args w) A05) A5 Tryz.func224 (by kernel_rfl) (by decide) (C7G G3)
def C4E:Nat→Option Jn:=B3 [(15,⟨[.b 7 [.str,.int .i64,.any,.bool],.b 1000 [.own 100000000,.own 100000001,.int .i64,.int .i64,.own 100000002],.r 100000000 9 .str,.r 100000001 9 .str,.r 100000002 109 kUp],lt 18 25 [.r 1000,.r 1001,.r 1004,.r 169984,.r 169985,.r 169988],false⟩)]
abbrev B2E:List PK:= [.ptr A47,.val false .str false,.val false (.int .i64) false]
abbrev B2F:List RK:= [.val false (.int .i64)]
def B2G(f:A1v):Nat×Fn:=(225,⟨B2E,B2F,fun x=>f x.1 x.2.1 x.2.2.1⟩)
def C4F:Fn:=(B2G Z4).2
theorem C4G(f_i_idOk:S5)(f_i_Store_left:L8)(f_i_Store_write_r97_0:F4)(f_i_Crc:A9s)(f_i_Store_find:H8):∀ x,(B8 (cfg.withPk 276 ⟨kUp,4,f_i_Store_find⟩) [A7E f_i_idOk,A1j f_i_Store_left,P8 f_i_Store_write_r97_0,C8B f_i_Crc] C4E 49 [.tmp 6] (Tryz.f225.body.getD .skip) B2E B2F).fn x=A5b f_i_idOk f_i_Store_left f_i_Store_write_r97_0 f_i_Crc f_i_Store_find x.1 x.2.1 x.2.2.1:=by intro x;kernel_rfl
theorem C4H:B0 Tryz.prog 225 C4F:=sm MO (A8L A7 (fun args w=>Tryz.call276 args w) A05) (tc Tryz.call147 A9Q (tc Tryz.call277 A59 (tc Tryz.call278 V4 (tc Tryz.call280 D6F A5)))) Tryz.func225 (by kernel_rfl) (by decide) (C4G Q9 K6 C9 A7r G3)
abbrev B2H:List PK:= [.ptr A47,.val false .str false]
abbrev B2I:List RK:= [.val false (.int .i64)]
def B2J(f:A1w):Nat×Fn:=(226,⟨B2H,B2I,fun x=>f x.1 x.2.1⟩)
def C4I:Fn:=(B2J Z5).2
theorem C4J(f_i_idOk:S5)(f_i_Store_left:L8)(f_i_Store_write_r97_0:F4)(f_i_Store_find:H8):∀ x,(B8 (cfg.withPk 276 ⟨kUp,4,f_i_Store_find⟩) [A7E f_i_idOk,A1j f_i_Store_left,P8 f_i_Store_write_r97_0] (B3 []) 24 [.tmp 4] (Tryz.f226.body.getD .skip) B2H B2I).fn x=A5c f_i_idOk f_i_Store_left f_i_Store_write_r97_0 f_i_Store_find x.1 x.2.1:=by intro x;kernel_rfl
theorem C4K:B0 Tryz.prog 226 C4I:=sm MO (A8L A7 (fun args w=>Tryz.call276 args w) A05) (tc Tryz.call147 A9Q (tc Tryz.call277 A59 (tc Tryz.call278 V4 A5))) Tryz.func226 (by kernel_rfl) (by decide) (C4J Q9 K6 C9 G3)
def C7H:Nat→Option Jn:=B3 [(115,⟨[.t 20 false [.bool]],lt 21 8 [],true⟩)]
abbrev B4V:List PK:= [.ptr A1r,.val true L5 false]
abbrev B4W:List RK:= [.val true F0]
def B4X(f:A2y):Nat×Fn:=(227,⟨B4V,B4W,fun x=>f x.1 x.2.1⟩)
def C7I:Fn:=(B4X A0X).2
theorem C7J(f_i_Server_told:O7)(f_i_Store_find:H8):∀ x,(B8 (cfg.withPk 276 ⟨kUp,4,f_i_Store_find⟩) [A3L f_i_Server_told] C7H 37 [.cell 4 126] (Tryz.f227.body.getD .skip) B4V B4W).fn x=A7O f_i_Server_told f_i_Store_find x.1 x.2.1:=by intro x;kernel_rfl
theorem C7K:B0 Tryz.prog 227 C7I:=sm MO (A8L A7 (fun args w=>Tryz.call276 args w) A05) (tc Tryz.call224 A7f A5) Tryz.func227 (by kernel_rfl) (by decide) (C7J M3 G3)
def C0p:Nat→Option Jn:=B3 [(107,⟨[.t 11 false [.bool]],[.t 12,.t 13],true⟩)]
abbrev A9S:List PK:= [.ptr A1r,.val false (.int .i64) false,.val false .str false]
abbrev A9T:List RK:= [.val true F0]
def A9U(f:A0M):Nat×Fn:=(228,⟨A9S,A9T,fun x=>f x.1 x.2.1 x.2.2.1⟩)
def C0q:Fn:=(A9U I5).2
theorem C0r(f_i_Server_told:O7):∀ x,(B8 cfg [A3L f_i_Server_told] C0p 24 [.cell 6 126] (Tryz.f228.body.getD .skip) A9S A9T).fn x=A3O f_i_Server_told x.1 x.2.1 x.2.2.1:=by intro x;kernel_rfl
theorem C0s:B0 Tryz.prog 228 C0q:=sm MO A7 (tc Tryz.call224 A7f A5) Tryz.func228 (by kernel_rfl) (by decide) (C0r M3)
def C22:Nat→Option Jn:=B3 [(15,⟨[.t 7 false [.int .i64],.b 8 [.int .i64,.int .i64],.b 1000 [.own 100000000,.own 100000001,.int .i64,.int .i64,.own 100000002,.own 100000003],.r 100000000 9 .str,.r 100000001 9 .str,.r 100000002 109 kUp,.r 100000003 130 A9],lt 15 46 [.r 1000,.r 1001,.r 1004,.r 1005,.r 104448,.r 104449,.r 104452,.r 153600,.r 153601,.r 153604,.r 169984,.r 169985,.r 169988,.r 169989,.r 210944,.r 210945,.r 210948,.r 247808,.r 247809,.r 247812,.t 10,.t 11],false⟩)]
abbrev B0b:List PK:= [.ptr A1r,.val true L5 false,.val false (.rs 5 (.int .u8)) false]
abbrev B0c:List RK:= [.val true F0]
def B0d(f:A0r):Nat×Fn:=(156,⟨B0b,B0c,fun x=>f x.1 x.2.1 x.2.2.1⟩)
def C23:Fn:=(B0d W8).2
theorem C24(f_i_Store_makeUp:A1u)(f_i_Store_putUp:A2x)(f_i_Server_told:O7)(f_i_Store_doneUp:A1v)(f_i_Store_dropUp:A1w)(f_i_Server_look:A2y)(f_i_Server_refused:A0M):∀ x,(B8 cfg [B2D f_i_Store_makeUp,B4S f_i_Store_putUp,A3L f_i_Server_told,B2G f_i_Store_doneUp,B2J f_i_Store_dropUp,B4X f_i_Server_look,A9U f_i_Server_refused] C22 69 [.cell 6 126] (Tryz.f156.body.getD .skip) B0b B0c).fn x=A4F f_i_Store_makeUp f_i_Store_putUp f_i_Server_told f_i_Store_doneUp f_i_Store_dropUp f_i_Server_look f_i_Server_refused x.1 x.2.1 x.2.2.1:=by intro x;kernel_rfl
theorem C25:B0 Tryz.prog 156 C23:=sm MO A7 (tc Tryz.call222 C4D (tc Tryz.call223 C7E (tc Tryz.call224 A7f (tc Tryz.call225 C4H (tc Tryz.call226 C4K (tc Tryz.call227 C7K (tc Tryz.call228 C0s A5))))))) Tryz.func156 (by kernel_rfl) (by decide) (C24 Z3 A0W M3 Z4 Z5 A0X I5)
def C4L:Nat→Option Jn:=B3 [(3,⟨[],lt 10 11 [],false⟩)]
abbrev B2K:List PK:= [.ptr A1r,.val false (.int .i64) false,.val true L5 false,.val false (.rs 5 (.int .u8)) false]
abbrev B2L:List RK:= [.val false .bool]
def B2M(f:A1x):Nat×Fn:=(88,⟨B2K,B2L,fun x=>f x.1 x.2.1 x.2.2.1 x.2.2.2.1⟩)
def C4M:Fn:=(B2M A1y).2
theorem C4N(f_i_ReqOk:A5Y)(f_i_Server_answer:A0r):∀ x,(B8 cfg [C49 f_i_ReqOk,B0d f_i_Server_answer] C4L 37 [.tmp 8] (Tryz.f88.body.getD .skip) B2K B2L).fn x=A5d f_i_ReqOk f_i_Server_answer x.1 x.2.1 x.2.2.1 x.2.2.2.1:=by intro x;kernel_rfl
theorem C4O:B0 Tryz.prog 88 C4M:=sm MO A7 (tc Tryz.call79 D4v (tc Tryz.call156 C25 A5)) Tryz.func88 (by kernel_rfl) (by decide) (C4N A3f W8)
abbrev B4Y:List PK:= [.ptr A29,.val false (.int .i64) false]
abbrev B4Z:List RK:= [.val false .bool]
def B4a(f:A2z):Nat×Fn:=(201,⟨B4Y,B4Z,fun x=>f x.1 x.2.1⟩)
def C7L:Fn:=(B4a A0Y).2
theorem C7M(f_i_inRange:C5)(f_i_Server_serve:A1x)(f_slices_Delete_impl_Want_impl_Want:H9):∀ x,(B8 cfg [I4 f_i_inRange,B2M f_i_Server_serve,T9 f_slices_Delete_impl_Want_impl_Want] (B3 []) 44 [.tmp 4] (Tryz.f201.body.getD .skip) B4Y B4Z).fn x=A7P f_i_inRange f_i_Server_serve f_slices_Delete_impl_Want_impl_Want x.1 x.2.1:=by intro x;kernel_rfl
theorem C7N:B0 Tryz.prog 201 C7L:=sm MO A7 (tc Tryz.call80 J3 (tc Tryz.call88 C4O (tc Tryz.call260 A2f A5))) Tryz.func201 (by kernel_rfl) (by decide) (C7M C8 A1y I0)
abbrev B8i:List PK:= [.val true (.pair (.rs 9 .str) (.rs 9 .str)) false]
abbrev B8j:List RK:= [.val true A0U]
def B8k(f:A65):Nat×Fn:=(296,⟨B8i,B8j,fun x=>f x.1⟩)
def D2f:Fn:=(B8k A2F).2
theorem D2g(f_slices_Clone_string_string:G9):∀ x,(B8 cfg [S3 f_slices_Clone_string_string] (B3 []) 10 [.cell 2 26] (Tryz.f296.body.getD .skip) B8i B8j).fn x=B14 f_slices_Clone_string_string x.1:=by intro x;kernel_rfl
theorem D2h:B0 Tryz.prog 296 D2f:=sm MO A7 (tc Tryz.call275 A0h A5) Tryz.func296 (by kernel_rfl) (by decide) (D2g G1)
abbrev A9V:List PK:= [.ptr A1r]
abbrev A9W:List RK:= [.val false (.sl 130 A9)]
def A9X(f:A0N):Nat×Fn:=(261,⟨A9V,A9W,fun x=>f x.1⟩)
def C0t:Fn:=(A9X A0O).2
theorem C0u(f_i_FlushDisk:A65):∀ x,(B8 cfg [B8k f_i_FlushDisk] (B3 []) 22 [.tmp 2] (Tryz.f261.body.getD .skip) A9V A9W).fn x=A3P f_i_FlushDisk x.1:=by intro x;kernel_rfl
theorem C0v:B0 Tryz.prog 261 C0t:=sm MO A7 (tc Tryz.call296 D2h A5) Tryz.func261 (by kernel_rfl) (by decide) (C0u A2F)
abbrev B6g:List PK:= [.ptr A29]
abbrev B6h:List RK:= [.val false .bool]
def B6i(f:A4G):Nat×Fn:=(202,⟨B6g,B6h,fun x=>f x.1⟩)
def D0S:Fn:=(B6i A1L).2
theorem D0T(f_i_Server_syncAll:A0N):∀ x,(B8 cfg [A9X f_i_Server_syncAll] (B3 []) 30 [.tmp 2] (Tryz.f202.body.getD .skip) B6g B6h).fn x=A8n f_i_Server_syncAll x.1:=by intro x;kernel_rfl
theorem D0U:B0 Tryz.prog 202 D0S:=sm MO A7 (tc Tryz.call261 C0v A5) Tryz.func202 (by kernel_rfl) (by decide) (D0T A0O)
abbrev B0e:List PK:= [.ptr B2,.val false (.int .i64) false]
abbrev B0f:List RK:= []
def B0g(f:A0s):Nat×Fn:=(311,⟨B0e,B0f,fun x=>f x.1 x.2.1⟩)
def C26:Fn:=(B0g W9).2
theorem C27(f_i_inRange:C5):∀ x,(B8 cfg [I4 f_i_inRange] (B3 []) 32 [] (Tryz.f311.body.getD .skip) B0e B0f).fn x=A4H f_i_inRange x.1 x.2.1:=by intro x;kernel_rfl
theorem C28:B0 Tryz.prog 311 C26:=sm MO A7 (tc Tryz.call80 J3 A5) Tryz.func311 (by kernel_rfl) (by decide) (C27 C8)
def C7O:Nat→Option Jn:=B3 [(14,⟨[.t 15 false [.bool]],lt 16 12 [],true⟩),(59,⟨[.t 32 false [.bool]],lt 33 10 [],true⟩),(239,⟨[.t 47 false [.bool]],lt 48 6 [],true⟩),(959,⟨[.t 57 false [.bool]],lt 58 10 [],true⟩),(3839,⟨[.t 71 false [.bool]],lt 72 6 [],true⟩)]
abbrev B4b:List PK:= [.ptr B2,.val true F0 false]
abbrev B4c:List RK:= []
def B4d(f:A30):Nat×Fn:=(297,⟨B4b,B4c,fun x=>f x.1 x.2.1⟩)
def C7P:Fn:=(B4d A0Z).2
theorem C7Q(f_i_Client_howFar:A0s):∀ x,(B8 cfg [B0g f_i_Client_howFar] C7O 88 [] (Tryz.f297.body.getD .skip) B4b B4c).fn x=A7Q f_i_Client_howFar x.1 x.2.1:=by intro x;kernel_rfl
theorem C7R:B0 Tryz.prog 297 C7P:=sm MO A7 (tc Tryz.call311 C28 A5) Tryz.func297 (by kernel_rfl) (by decide) (C7Q W9)
abbrev C29:List PK:= [.val true (.pair .str (.pair (.rs 5 (.int .u8)) F0)) false,.val true F0 false]
abbrev C2A:List RK:= [.val true B2]
def C2B(f:A7t):Nat×Fn:=(263,⟨C29,C2A,fun x=>f x.1 x.2.1⟩)
def D6V:Fn:=(C2B A4I).2
theorem D6W(f_i_RespOk:Y0)(f_i_ClientOk:N9)(f_i_copyClient:O1)(f_i_Client_isOver:L3)(f_i_Client_hear:A30):∀ x,(B8 cfg [B43 f_i_RespOk,A52 f_i_ClientOk,A56 f_i_copyClient,T1 f_i_Client_isOver,B4d f_i_Client_hear] (B3 []) 23 [.cell 4 79] (Tryz.f263.body.getD .skip) C29 C2A).fn x=B3H f_i_RespOk f_i_ClientOk f_i_copyClient f_i_Client_isOver f_i_Client_hear x.1 x.2.1:=by intro x;kernel_rfl
theorem D6X:B0 Tryz.prog 263 D6V:=sm MO A7 (tc Tryz.call93 C0l (tc Tryz.call145 A8H (tc Tryz.call190 A9R (tc Tryz.call295 A0T (tc Tryz.call297 C7R A5))))) Tryz.func263 (by kernel_rfl) (by decide) (D6W U3 L0 K5 J5 A0Z)
abbrev B6j:List PK:= [.ptr A29,.val false (.int .i64) false]
abbrev B6k:List RK:= [.val false .bool]
def B6l(f:A4J):Nat×Fn:=(203,⟨B6j,B6k,fun x=>f x.1 x.2.1⟩)
def D0V:Fn:=(B6l A1M).2
theorem D0W(f_i_inRange:C5)(f_slices_Delete_impl_Held_impl_Held:I1)(f_i_HearResp:A7t):∀ x,(B8 cfg [I4 f_i_inRange,U0 f_slices_Delete_impl_Held_impl_Held,C2B f_i_HearResp] (B3 []) 85 [.tmp 4] (Tryz.f203.body.getD .skip) B6j B6k).fn x=A8o f_i_inRange f_slices_Delete_impl_Held_impl_Held f_i_HearResp x.1 x.2.1:=by intro x;kernel_rfl
theorem D0X:B0 Tryz.prog 203 D0V:=sm MO A7 (tc Tryz.call80 J3 (tc Tryz.call262 A2j (tc Tryz.call263 D6X A5))) Tryz.func203 (by kernel_rfl) (by decide) (D0W C8 I2 A4I)
abbrev D0Y:List PK:= [.val true (.pair .str (.pair (.rs 5 (.int .u8)) F0)) false]
abbrev D0Z:List RK:= [.val true B2]
def D0a(f:B3I):Nat×Fn:=(300,⟨D0Y,D0Z,fun x=>f x.1⟩)
def E3Q:Fn:=(D0a A8p).2
theorem E3R(f_i_ClientOk:N9)(f_i_copyClient:O1)(f_i_Client_isOver:L3):∀ x,(B8 cfg [A52 f_i_ClientOk,A56 f_i_copyClient,T1 f_i_Client_isOver] (B3 []) 14 [.cell 2 79] (Tryz.f300.body.getD .skip) D0Y D0Z).fn x=C0I f_i_ClientOk f_i_copyClient f_i_Client_isOver x.1:=by intro x;kernel_rfl
theorem E3S:B0 Tryz.prog 300 E3Q:=sm MO A7 (tc Tryz.call145 A8H (tc Tryz.call190 A9R (tc Tryz.call295 A0T A5))) Tryz.func300 (by kernel_rfl) (by decide) (E3R L0 K5 J5)
abbrev B6m:List PK:= [.ptr A29,.val false (.int .i64) false]
abbrev B6n:List RK:= []
def A9Y(f:U4):Nat×Fn:=(268,⟨B6m,B6n,fun x=>f x.1 x.2.1⟩)
def D0b:Fn:=(A9Y R0).2
theorem D0c(f_i_CutOff:B3I):∀ x,(B8 cfg [D0a f_i_CutOff] (B3 []) 24 [] (Tryz.f268.body.getD .skip) B6m B6n).fn x=A8q f_i_CutOff x.1 x.2.1:=by intro x;kernel_rfl
theorem B6o:B0 Tryz.prog 268 D0b:=sm MO A7 (tc Tryz.call300 E3S A5) Tryz.func268 (by kernel_rfl) (by decide) (D0c A8p)
abbrev B8l:List PK:= [.ptr A29,.val false (.int .i64) false]
abbrev B8m:List RK:= [.val false .bool]
def B8n(f:A66):Nat×Fn:=(204,⟨B8l,B8m,fun x=>f x.1 x.2.1⟩)
def D2i:Fn:=(B8n A2G).2
theorem D2j(f_i_inRange:C5)(f_slices_DeleteFunc_impl_Want_impl_Want:G5)(f_slices_DeleteFunc_impl_Held_impl_Held:G7)(f_i_World_rest:U4):∀ x,(B8 cfg [I4 f_i_inRange,Q2 f_slices_DeleteFunc_impl_Want_impl_Want,Q3 f_slices_DeleteFunc_impl_Held_impl_Held,A9Y f_i_World_rest] (B3 []) 48 [.tmp 4] (Tryz.f204.body.getD .skip) B8l B8m).fn x=B15 f_i_inRange f_slices_DeleteFunc_impl_Want_impl_Want f_slices_DeleteFunc_impl_Held_impl_Held f_i_World_rest x.1 x.2.1:=by intro x;kernel_rfl
theorem D2k:B0 Tryz.prog 204 D2i:=sm MO A7 (tc Tryz.call80 J3 (tcC Tryz.call265 A14 (tcC Tryz.call267 A18 (tc Tryz.call268 B6o A5)))) Tryz.func204 (by kernel_rfl) (by decide) (D2j C8 G6 G8 R0)
abbrev C2C:List PK:= [.val true (.pair (.rs 9 .str) (.rs 9 .str)) false]
abbrev C2D:List RK:= [.val false (.int .i64)]
def C2E(f:A7u):Nat×Fn:=(312,⟨C2C,C2D,fun x=>f x.1⟩)
def D6Y:Fn:=(C2E A4K).2
theorem D6Z(f_i_topFrom:A3e):∀ x,(B8 cfg [B6V f_i_topFrom] (B3 []) 6 [.tmp 2] (Tryz.f312.body.getD .skip) C2C C2D).fn x=B3J f_i_topFrom x.1:=by intro x;kernel_rfl
theorem D6a:B0 Tryz.prog 312 D6Y:=sm MO A7 (tc Tryz.call174 C5J A5) Tryz.func312 (by kernel_rfl) (by decide) (D6Z A1H)
def D2l:Nat→Option Jn:=B3 [(63,⟨[],lt 22 6 [],false⟩)]
abbrev B8o:List PK:= [.val true (.pair (.rs 9 .str) (.rs 9 .str)) false]
abbrev B8p:List RK:= [.val true A47,.val false .bool]
def B8q(f:A67):Nat×Fn:=(301,⟨B8o,B8p,fun x=>f x.1⟩)
def D2m:Fn:=(B8q Y3).2
theorem D2n(f_i_DiskOk:A1D)(f_i_ScanRecs:A1s)(f_i_FoldRecs:A1t)(f_i_copyDisk:W7)(f_i_TopEpoch:A7u):∀ x,(B8 cfg [B44 f_i_DiskOk,B45 f_i_ScanRecs,B46 f_i_FoldRecs,A8I f_i_copyDisk,C2E f_i_TopEpoch] D2l 36 [.cell 2 29,.tmp 3] (Tryz.f301.body.getD .skip) B8o B8p).fn x=B16 f_i_DiskOk f_i_ScanRecs f_i_FoldRecs f_i_copyDisk f_i_TopEpoch x.1:=by intro x;kernel_rfl
theorem D2o:B0 Tryz.prog 301 D2m:=sm MO A7 (tc Tryz.call169 C0m (tc Tryz.call170 C1q (tc Tryz.call171 C1t (tc Tryz.call221 B47 (tc Tryz.call312 D6a A5))))) Tryz.func301 (by kernel_rfl) (by decide) (D2n A1E A0J A0K S6 A4K)
def D6b:Nat→Option Jn:=B3 [(122,⟨[.t 16 false [.int .i64],.b 5 [.own 36864,.own 36865],.r 36864 9 .str,.r 36865 9 .str],lt 17 31 [.t 6,.x 35,.x 37,.x 44,.x 46],false⟩),(7833,⟨[.t 28 false [.bool]],lt 19 9 [],true⟩)]
abbrev C2F:List PK:= [.val true (.pair (.rs 9 .str) (.rs 9 .str)) false,.val false (.rs 4 .bool) false]
abbrev C2G:List RK:= [.val true A0U]
def C2H(f:A7v):Nat×Fn:=(302,⟨C2F,C2G,fun x=>f x.1 x.2.1⟩)
def D6c:Fn:=(C2H A1z).2
theorem D6d(f_i_DiskOk:A1D)(f_i_copyDisk:W7):∀ x,(B8 cfg [B44 f_i_DiskOk,A8I f_i_copyDisk] D6b 49 [.cell 4 26] (Tryz.f302.body.getD .skip) C2F C2G).fn x=B3K f_i_DiskOk f_i_copyDisk x.1 x.2.1:=by intro x;kernel_rfl
theorem D6e:B0 Tryz.prog 302 D6c:=sm MO A7 (tc Tryz.call169 C0m (tc Tryz.call221 B47 A5)) Tryz.func302 (by kernel_rfl) (by decide) (D6d A1E S6)
abbrev B2N:List PK:= [.ptr A1r,.val false (.rs 4 .bool) false]
abbrev B2O:List RK:= [.val false .bool]
def B2P(f:A20):Nat×Fn:=(269,⟨B2N,B2O,fun x=>f x.1 x.2.1⟩)
def C4P:Fn:=(B2P A21).2
theorem C4Q(f_i_OpenStore:A67)(f_i_FallDisk:A7v):∀ x,(B8 cfg [B8q f_i_OpenStore,C2H f_i_FallDisk] (B3 []) 24 [.tmp 4] (Tryz.f269.body.getD .skip) B2N B2O).fn x=A5e f_i_OpenStore f_i_FallDisk x.1 x.2.1:=by intro x;kernel_rfl
theorem C4R:B0 Tryz.prog 269 C4P:=sm MO A7 (tc Tryz.call301 D2o (tc Tryz.call302 D6e A5)) Tryz.func269 (by kernel_rfl) (by decide) (C4Q Y3 A1z)
def C7S:Nat→Option Jn:=B3 [(122,⟨[.t 23 false [.int .i64],.b 1000 [.own 100000000,.own 100000001,.int .i64,.int .i64,.own 100000002,.own 100000003,.own 100000004,.own 100000005,.own 100000006,.own 100000007,.own 100000008],.r 100000000 9 .str,.r 100000001 9 .str,.r 100000002 109 kUp,.r 100000003 130 A9,.r 100000004 79 B2,.r 100000005 4 .bool,.r 100000006 113 B9,.r 100000007 130 A9,.r 100000008 3 (.int .i64)],lt 24 6 [.r 1006,.r 1007,.r 1010,.r 47104,.r 47105,.r 47108,.r 47109,.r 120832,.r 120833,.r 120836,.r 120837,.r 120838,.r 120839,.r 120840,.r 120841,.r 120842,.t 5],false⟩)]
abbrev B4e:List PK:= [.ptr A29,.val false (.rs 4 .bool) false]
abbrev B4f:List RK:= [.val false .bool]
def B4g(f:A31):Nat×Fn:=(205,⟨B4e,B4f,fun x=>f x.1 x.2.1⟩)
def C7T:Fn:=(B4g A0a).2
theorem C7U(f_i_World_rest:U4)(f_i_Server_crash:A20):∀ x,(B8 cfg [A9Y f_i_World_rest,B2P f_i_Server_crash] C7S 30 [.tmp 4] (Tryz.f205.body.getD .skip) B4e B4f).fn x=A7R f_i_World_rest f_i_Server_crash x.1 x.2.1:=by intro x;kernel_rfl
theorem C7V:B0 Tryz.prog 205 C7T:=sm MO A7 (tc Tryz.call268 B6o (tc Tryz.call269 C4R A5)) Tryz.func205 (by kernel_rfl) (by decide) (C7U R0 A21)
abbrev C2I:List PK:= [.ptr A29,.val true (.pair (.int .i64) (.pair (.int .i64) (.rs 4 .bool))) false]
abbrev C2J:List RK:= [.val false .bool]
def C2K(f:A4M):Nat×Fn:=(112,⟨C2I,C2J,fun x=>f x.1 x.2.1⟩)
def D6f:Fn:=(C2K S8).2
theorem D6g(f_i_World_send:A4E)(f_i_World_serve:A2z)(f_i_World_sync:A4G)(f_i_World_tell:A4J)(f_i_World_cut:A66)(f_i_World_crash:A31):∀ x,(B8 cfg [B6d f_i_World_send,B4a f_i_World_serve,B6i f_i_World_sync,B6l f_i_World_tell,B8n f_i_World_cut,B4g f_i_World_crash] (B3 []) 41 [.tmp 4] (Tryz.f112.body.getD .skip) C2I C2J).fn x=B3L f_i_World_send f_i_World_serve f_i_World_sync f_i_World_tell f_i_World_cut f_i_World_crash x.1 x.2.1:=by intro x;kernel_rfl
theorem D6h:B0 Tryz.prog 112 D6f:=sm MO A7 (tc Tryz.call200 D0N (tc Tryz.call201 C7N (tc Tryz.call202 D0U (tc Tryz.call203 D0X (tc Tryz.call204 D2k (tc Tryz.call205 C7V A5)))))) Tryz.func112 (by kernel_rfl) (by decide) (D6g A1K A0Y A1L A1M A2G A0a)
def E9H:Nat→Option Jn:=B3 [(122,⟨[.t 20 false [.int .i64],.b 5 [.own 100000000,.own 100000001,.int .i64,.int .i64,.own 100000002,.own 100000003,.own 100000004,.own 100000005,.own 100000006,.own 100000007,.own 100000008],.r 100000000 9 .str,.r 100000001 9 .str,.r 100000002 109 kUp,.r 100000003 130 A9,.r 100000004 79 B2,.r 100000005 4 .bool,.r 100000006 113 B9,.r 100000007 130 A9,.r 100000008 3 (.int .i64)],lt 21 6 [.b 7,.r 40960,.r 40961,.r 40964,.r 40965,.r 40966,.r 40967,.r 40968,.r 40969,.r 40970,.r 108544,.r 108545,.r 108548,.r 108549,.r 108550,.r 108551,.r 108552,.r 108553,.r 108554,.t 7],false⟩)]
abbrev D9l:List PK:= [.val true (.pair (.pair (.pair (.pair (.rs 9 .str) (.rs 9 .str)) (.pair (.int .i64) (.pair (.int .i64) (.rs 109 kUp)))) (.rs 130 A9)) (.pair (.rs 79 B2) (.pair (.rs 4 .bool) (.pair (.rs 113 B9) (.pair (.rs 130 A9) (.rs 3 (.int .i64))))))) false,.val false (.rs 77 E9) false]
abbrev D9m:List RK:= [.val true A29]
def D9n(f:C1O):Nat×Fn:=(45,⟨D9l,D9m,fun x=>f x.1 x.2.1⟩)
def E9I:Fn:=(D9n B5V).2
theorem E9J(f_i_WorldOk:A9u)(f_i_copyWorld:A64)(f_i_World_do:A4M):∀ x,(B8 cfg [C5P f_i_WorldOk,B8h f_i_copyWorld,C2K f_i_World_do] E9H 28 [.cell 4 38] (Tryz.f45.body.getD .skip) D9l D9m).fn x=C8t f_i_WorldOk f_i_copyWorld f_i_World_do x.1 x.2.1:=by intro x;kernel_rfl
theorem E9K:B0 Tryz.prog 45 E9I:=sm MO A7 (tc Tryz.call23 D9g (tc Tryz.call107 D2e (tc Tryz.call112 D6h A5))) Tryz.func45 (by kernel_rfl) (by decide) (E9J A3g A2E S8)
def D2p:Nat→Option Jn:=B3 [(122,⟨[.t 1 false [.int .i64],.t 5 false [.int .i64]],lt 12 15 [],false⟩)]
abbrev B8r:List PK:= [.val false (.rs 9 .str) false,.val false (.int .i64) false]
abbrev B8s:List RK:= [.val false (.int .i64)]
def B8t(f:A68):Nat×Fn:=(240,⟨B8r,B8s,fun x=>f x.1 x.2.1⟩)
def D2q:Fn:=(B8t A2H).2
theorem D2r:∀ x,(B8 cfg [] D2p 28 [.tmp 4] (Tryz.f240.body.getD .skip) B8r B8s).fn x=B17 x.1 x.2.1:=by intro x;kernel_rfl
theorem D2s:B0 Tryz.prog 240 D2q:=sm MO A7 A5 Tryz.func240 (by kernel_rfl) (by decide) (D2r)
abbrev D0d:List PK:= [.val true (.pair (.rs 9 .str) (.rs 9 .str)) false,.val false (.int .i64) false]
abbrev D0e:List RK:= [.val false (.int .i64)]
def D0f(f:B3M):Nat×Fn:=(175,⟨D0d,D0e,fun x=>f x.1 x.2.1⟩)
def E3T:Fn:=(D0f A8r).2
theorem E3U(f_w_szStringS:A68):∀ x,(B8 cfg [B8t f_w_szStringS] (B3 []) 18 [.tmp 4] (Tryz.f175.body.getD .skip) D0d D0e).fn x=C0J f_w_szStringS x.1 x.2.1:=by intro x;kernel_rfl
theorem E3V:B0 Tryz.prog 175 E3T:=sm MO A7 (tc Tryz.call240 D2s A5) Tryz.func175 (by kernel_rfl) (by decide) (E3U A2H)
abbrev C5T:List PK:= [.val false (.rs 5 (.int .u8)) false,.val false (.int .i64) false]
abbrev C5U:List RK:= [.val false (.int .i64)]
def B0h(f:A07):Nat×Fn:=(270,⟨C5T,C5U,fun x=>f x.1 x.2.1⟩)
def D9o:Fn:=(B0h T3).2
theorem D9p:∀ x,(B8 cfg [] (B3 []) 12 [.tmp 4] (Tryz.f270.body.getD .skip) C5T C5U).fn x=B5W x.1 x.2.1:=by intro x;kernel_rfl
theorem B6p:B0 Tryz.prog 270 D9o:=sm MO A7 A5 Tryz.func270 (by kernel_rfl) (by decide) (D9p)
abbrev D9q:List PK:= [.val true (.pair .str (.pair (.int .i64) (.pair (.rs 5 (.int .u8)) .bool))) false,.val false (.int .i64) false]
abbrev D9r:List RK:= [.val false (.int .i64)]
def D9s(f:B5X):Nat×Fn:=(241,⟨D9q,D9r,fun x=>f x.1 x.2.1⟩)
def E9L:Fn:=(D9s A8s).2
theorem E9M(f_w_szByteS:A07):∀ x,(B8 cfg [B0h f_w_szByteS] (B3 []) 19 [.tmp 4] (Tryz.f241.body.getD .skip) D9q D9r).fn x=C8u f_w_szByteS x.1 x.2.1:=by intro x;kernel_rfl
theorem E9N:B0 Tryz.prog 241 E9L:=sm MO A7 (tc Tryz.call270 B6p A5) Tryz.func241 (by kernel_rfl) (by decide) (E9M T3)
def E6q:Nat→Option Jn:=B3 [(122,⟨[.t 1 false [.int .i64],.t 5 false [.int .i64]],lt 12 14 [],false⟩)]
abbrev D4w:List PK:= [.val false (.rs 248 kUp) false,.val false (.int .i64) false]
abbrev D4x:List RK:= [.val false (.int .i64)]
def D4y(f:B7h):Nat×Fn:=(176,⟨D4w,D4x,fun x=>f x.1 x.2.1⟩)
def E6r:Fn:=(D4y B1u).2
theorem E6s(f_w_szUp:B5X):∀ x,(B8 cfg [D9s f_w_szUp] E6q 27 [.tmp 4] (Tryz.f176.body.getD .skip) D4w D4x).fn x=C3e f_w_szUp x.1 x.2.1:=by intro x;kernel_rfl
theorem E6t:B0 Tryz.prog 176 E6r:=sm MO A7 (tc Tryz.call241 E9N A5) Tryz.func176 (by kernel_rfl) (by decide) (E6s A8s)
abbrev C5V:List PK:= [.val true (.pair (.pair (.rs 9 .str) (.rs 9 .str)) (.pair (.int .i64) (.pair (.int .i64) (.rs 248 kUp)))) false,.val false (.int .i64) false]
abbrev C5W:List RK:= [.val false (.int .i64)]
def C5X(f:A9x):Nat×Fn:=(96,⟨C5V,C5W,fun x=>f x.1 x.2.1⟩)
def D9t:Fn:=(C5X A6m).2
theorem D9u(f_w_szDisk:B3M)(f_w_szUpS:B7h):∀ x,(B8 cfg [D0f f_w_szDisk,D4y f_w_szUpS] (B3 []) 18 [.tmp 4] (Tryz.f96.body.getD .skip) C5V C5W).fn x=B5Y f_w_szDisk f_w_szUpS x.1 x.2.1:=by intro x;kernel_rfl
theorem D9v:B0 Tryz.prog 96 D9t:=sm MO A7 (tc Tryz.call175 E3V (tc Tryz.call176 E6t A5)) Tryz.func96 (by kernel_rfl) (by decide) (D9u A8r B1u)
abbrev C5Y:List PK:= [.val false (.rs 203 A9) false,.val false (.int .i64) false]
abbrev C5Z:List RK:= [.val false (.int .i64)]
def B6q(f:A3h):Nat×Fn:=(97,⟨C5Y,C5Z,fun x=>f x.1 x.2.1⟩)
def D9w:Fn:=(B6q A1N).2
theorem D9x:∀ x,(B8 cfg [] (B3 []) 12 [.tmp 4] (Tryz.f97.body.getD .skip) C5Y C5Z).fn x=B5Z x.1 x.2.1:=by intro x;kernel_rfl
theorem C5a:B0 Tryz.prog 97 D9w:=sm MO A7 A5 Tryz.func97 (by kernel_rfl) (by decide) (D9x)
abbrev C2L:List PK:= [.val true (.pair (.pair (.pair (.rs 9 .str) (.rs 9 .str)) (.pair (.int .i64) (.pair (.int .i64) (.rs 248 kUp)))) (.rs 203 A9)) false,.val false (.int .i64) false]
abbrev C2M:List RK:= [.val false (.int .i64)]
def C2N(f:A7w):Nat×Fn:=(30,⟨C2L,C2M,fun x=>f x.1 x.2.1⟩)
def D6i:Fn:=(C2N A4N).2
theorem D6j(f_w_szStore:A9x)(f_w_szHeldS:A3h):∀ x,(B8 cfg [C5X f_w_szStore,B6q f_w_szHeldS] (B3 []) 18 [.tmp 4] (Tryz.f30.body.getD .skip) C2L C2M).fn x=B3N f_w_szStore f_w_szHeldS x.1 x.2.1:=by intro x;kernel_rfl
theorem D6k:B0 Tryz.prog 30 D6i:=sm MO A7 (tc Tryz.call96 D9v (tc Tryz.call97 C5a A5)) Tryz.func30 (by kernel_rfl) (by decide) (D6j A6m A1N)
abbrev C2O:List PK:= [.val true (.pair .str (.pair (.rs 5 (.int .u8)) F0)) false,.val false (.int .i64) false]
abbrev C2P:List RK:= [.val false (.int .i64)]
def C2Q(f:A4O):Nat×Fn:=(207,⟨C2O,C2P,fun x=>f x.1 x.2.1⟩)
def D6l:Fn:=(C2Q A0P).2
theorem D6m(f_w_szByteS:A07):∀ x,(B8 cfg [B0h f_w_szByteS] (B3 []) 19 [.tmp 4] (Tryz.f207.body.getD .skip) C2O C2P).fn x=B3O f_w_szByteS x.1 x.2.1:=by intro x;kernel_rfl
theorem D6n:B0 Tryz.prog 207 D6l:=sm MO A7 (tc Tryz.call270 B6p A5) Tryz.func207 (by kernel_rfl) (by decide) (D6m T3)
def D2t:Nat→Option Jn:=B3 [(122,⟨[.t 1 false [.int .i64],.t 5 false [.int .i64]],lt 12 14 [],false⟩)]
abbrev B8u:List PK:= [.val false (.rs 218 B2) false,.val false (.int .i64) false]
abbrev B8v:List RK:= [.val false (.int .i64)]
def B8w(f:A69):Nat×Fn:=(116,⟨B8u,B8v,fun x=>f x.1 x.2.1⟩)
def D2u:Fn:=(B8w A2I).2
theorem D2v(f_w_szClient:A4O):∀ x,(B8 cfg [C2Q f_w_szClient] D2t 27 [.tmp 4] (Tryz.f116.body.getD .skip) B8u B8v).fn x=B18 f_w_szClient x.1 x.2.1:=by intro x;kernel_rfl
theorem D2w:B0 Tryz.prog 116 D2u:=sm MO A7 (tc Tryz.call207 D6n A5) Tryz.func116 (by kernel_rfl) (by decide) (D2v A0P)
abbrev C5b:List PK:= [.val false (.rs 4 .bool) false,.val false (.int .i64) false]
abbrev C5c:List RK:= [.val false (.int .i64)]
def B6r(f:A3i):Nat×Fn:=(117,⟨C5b,C5c,fun x=>f x.1 x.2.1⟩)
def D9y:Fn:=(B6r A1O).2
theorem D9z:∀ x,(B8 cfg [] (B3 []) 12 [.tmp 4] (Tryz.f117.body.getD .skip) C5b C5c).fn x=B5a x.1 x.2.1:=by intro x;kernel_rfl
theorem C5d:B0 Tryz.prog 117 D9y:=sm MO A7 A5 Tryz.func117 (by kernel_rfl) (by decide) (D9z)
abbrev D4z:List PK:= [.val true L5 false,.val false (.int .i64) false]
abbrev D50:List RK:= [.val false (.int .i64)]
def D51(f:B7i):Nat×Fn:=(31,⟨D4z,D50,fun x=>f x.1 x.2.1⟩)
def E6u:Fn:=(D51 B1v).2
theorem E6v:∀ x,(B8 cfg [] (B3 []) 13 [.tmp 4] (Tryz.f31.body.getD .skip) D4z D50).fn x=C3f x.1 x.2.1:=by intro x;kernel_rfl
theorem E6w:B0 Tryz.prog 31 E6u:=sm MO A7 A5 Tryz.func31 (by kernel_rfl) (by decide) (E6v)
abbrev D0g:List PK:= [.val true (.pair (.int .i64) (.pair L5 (.rs 5 (.int .u8)))) false,.val false (.int .i64) false]
abbrev D0h:List RK:= [.val false (.int .i64)]
def D0i(f:A8t):Nat×Fn:=(208,⟨D0g,D0h,fun x=>f x.1 x.2.1⟩)
def E3W:Fn:=(D0i A3Q).2
theorem E3X(f_w_szReq:B7i)(f_w_szByteS:A07):∀ x,(B8 cfg [D51 f_w_szReq,B0h f_w_szByteS] (B3 []) 18 [.tmp 4] (Tryz.f208.body.getD .skip) D0g D0h).fn x=C0K f_w_szReq f_w_szByteS x.1 x.2.1:=by intro x;kernel_rfl
theorem E3Y:B0 Tryz.prog 208 E3W:=sm MO A7 (tc Tryz.call31 E6w (tc Tryz.call270 B6p A5)) Tryz.func208 (by kernel_rfl) (by decide) (E3X B1v T3)
def E00:Nat→Option Jn:=B3 [(122,⟨[.t 1 false [.int .i64],.t 5 false [.int .i64]],lt 12 14 [],false⟩)]
abbrev C5e:List PK:= [.val false (.rs 221 B9) false,.val false (.int .i64) false]
abbrev C5f:List RK:= [.val false (.int .i64)]
def C5g(f:A9y):Nat×Fn:=(118,⟨C5e,C5f,fun x=>f x.1 x.2.1⟩)
def E01:Fn:=(C5g A6n).2
theorem E02(f_w_szWant:A8t):∀ x,(B8 cfg [D0i f_w_szWant] E00 27 [.tmp 4] (Tryz.f118.body.getD .skip) C5e C5f).fn x=B5b f_w_szWant x.1 x.2.1:=by intro x;kernel_rfl
theorem E03:B0 Tryz.prog 118 E01:=sm MO A7 (tc Tryz.call208 E3Y A5) Tryz.func118 (by kernel_rfl) (by decide) (E02 A3Q)
abbrev D0j:List PK:= [.val false (.rs 3 (.int .i64)) false,.val false (.int .i64) false]
abbrev D0k:List RK:= [.val false (.int .i64)]
def D0l(f:B3P):Nat×Fn:=(119,⟨D0j,D0k,fun x=>f x.1 x.2.1⟩)
def E3Z:Fn:=(D0l A8u).2
theorem E3a:∀ x,(B8 cfg [] (B3 []) 12 [.tmp 4] (Tryz.f119.body.getD .skip) D0j D0k).fn x=C0L x.1 x.2.1:=by intro x;kernel_rfl
theorem E3b:B0 Tryz.prog 119 E3Z:=sm MO A7 A5 Tryz.func119 (by kernel_rfl) (by decide) (E3a)
abbrev C5h:List PK:= [.val true (.pair (.pair (.pair (.pair (.rs 9 .str) (.rs 9 .str)) (.pair (.int .i64) (.pair (.int .i64) (.rs 248 kUp)))) (.rs 203 A9)) (.pair (.rs 218 B2) (.pair (.rs 4 .bool) (.pair (.rs 221 B9) (.pair (.rs 203 A9) (.rs 3 (.int .i64))))))) false,.val false (.int .i64) false]
abbrev C5i:List RK:= [.val false (.int .i64)]
def C5j(f:A9z):Nat×Fn:=(51,⟨C5h,C5i,fun x=>f x.1 x.2.1⟩)
def E04:Fn:=(C5j A6o).2
theorem E05(f_w_szServer:A7w)(f_w_szHeldS:A3h)(f_w_szClientS:A69)(f_w_szBoolS:A3i)(f_w_szWantS:A9y)(f_w_szIntS:B3P):∀ x,(B8 cfg [C2N f_w_szServer,B6q f_w_szHeldS,B8w f_w_szClientS,B6r f_w_szBoolS,C5g f_w_szWantS,D0l f_w_szIntS] (B3 []) 42 [.tmp 4] (Tryz.f51.body.getD .skip) C5h C5i).fn x=B5c f_w_szServer f_w_szHeldS f_w_szClientS f_w_szBoolS f_w_szWantS f_w_szIntS x.1 x.2.1:=by intro x;kernel_rfl
theorem E06:B0 Tryz.prog 51 E04:=sm MO A7 (tc Tryz.call30 D6k (tc Tryz.call97 C5a (tc Tryz.call116 D2w (tc Tryz.call117 C5d (tc Tryz.call118 E03 (tc Tryz.call119 E3b A5)))))) Tryz.func51 (by kernel_rfl) (by decide) (E05 A4N A1N A2I A1O A6n A8u)
def D2x:Nat→Option Jn:=B3 [(58,⟨[.t 3 false [.own 7],.t 4 false [.int .i64],.r 7 9 .str],lt 8 13 [.x 20],false⟩)]
abbrev B8x:List PK:= [.val false (.rs 9 .str) false]
abbrev B8y:List RK:= [.val false (.sl 9 .str)]
def B8z(f:A6B):Nat×Fn:=(242,⟨B8x,B8y,fun x=>f x.1⟩)
def D2y:Fn:=(B8z A2J).2
theorem D2z:∀ x,(B8 cfg [] D2x 22 [.tmp 2] (Tryz.f242.body.getD .skip) B8x B8y).fn x=B19 x.1:=by intro x;kernel_rfl
theorem D30:B0 Tryz.prog 242 D2y:=sm MO A7 A5 Tryz.func242 (by kernel_rfl) (by decide) (D2z)
abbrev D0m:List PK:= [.val true (.pair (.rs 9 .str) (.rs 9 .str)) false]
abbrev D0n:List RK:= [.val true A0U]
def D0o(f:B3Q):Nat×Fn:=(177,⟨D0m,D0n,fun x=>f x.1⟩)
def E3c:Fn:=(D0o A8v).2
theorem E3d(f_w_toStringS:A6B):∀ x,(B8 cfg [B8z f_w_toStringS] (B3 []) 13 [.cell 2 26] (Tryz.f177.body.getD .skip) D0m D0n).fn x=C0M f_w_toStringS x.1:=by intro x;kernel_rfl
theorem E3e:B0 Tryz.prog 177 E3c:=sm MO A7 (tc Tryz.call242 D30 A5) Tryz.func177 (by kernel_rfl) (by decide) (E3d A2J)
def E07:Nat→Option Jn:=B3 [(58,⟨[.t 3 false [.own 7],.t 4 false [.int .i64],.r 7 5 (.int .u8)],lt 8 13 [.x 20],false⟩)]
abbrev C5k:List PK:= [.val false (.rs 5 (.int .u8)) false]
abbrev C5l:List RK:= [.val false (.sl 5 (.int .u8))]
def B0i(f:A08):Nat×Fn:=(34,⟨C5k,C5l,fun x=>f x.1⟩)
def E08:Fn:=(B0i T4).2
theorem E09:∀ x,(B8 cfg [] E07 22 [.tmp 2] (Tryz.f34.body.getD .skip) C5k C5l).fn x=B5d x.1:=by intro x;kernel_rfl
theorem B6s:B0 Tryz.prog 34 E08:=sm MO A7 A5 Tryz.func34 (by kernel_rfl) (by decide) (E09)
abbrev E0A:List PK:= [.val true (.pair .str (.pair (.int .i64) (.pair (.rs 5 (.int .u8)) .bool))) false]
abbrev E0B:List RK:= [.val true kUp]
def E0C(f:B5e):Nat×Fn:=(243,⟨E0A,E0B,fun x=>f x.1⟩)
def E9O:Fn:=(E0C B5f).2
theorem E9P(f_w_toByteS:A08):∀ x,(B8 cfg [B0i f_w_toByteS] (B3 []) 18 [.cell 2 109] (Tryz.f243.body.getD .skip) E0A E0B).fn x=C8v f_w_toByteS x.1:=by intro x;kernel_rfl
theorem E9Q:B0 Tryz.prog 243 E9O:=sm MO A7 (tc Tryz.call34 B6s A5) Tryz.func243 (by kernel_rfl) (by decide) (E9P T4)
def E6x:Nat→Option Jn:=B3 [(58,⟨[.t 3 false [.own 7],.t 4 false [.int .i64],.r 7 109 kUp],lt 8 14 [.r 86018,.x 21],false⟩)]
abbrev D52:List PK:= [.val false (.rs 248 kUp) false]
abbrev D53:List RK:= [.val false (.sl 109 kUp)]
def D54(f:B7j):Nat×Fn:=(178,⟨D52,D53,fun x=>f x.1⟩)
def E6y:Fn:=(D54 B1w).2
theorem E6z(f_w_toUp:B5e):∀ x,(B8 cfg [E0C f_w_toUp] E6x 23 [.tmp 2] (Tryz.f178.body.getD .skip) D52 D53).fn x=C3g f_w_toUp x.1:=by intro x;kernel_rfl
theorem E70:B0 Tryz.prog 178 E6y:=sm MO A7 (tc Tryz.call243 E9Q A5) Tryz.func178 (by kernel_rfl) (by decide) (E6z B5f)
abbrev C5m:List PK:= [.val true (.pair (.pair (.rs 9 .str) (.rs 9 .str)) (.pair (.int .i64) (.pair (.int .i64) (.rs 248 kUp)))) false]
abbrev C5n:List RK:= [.val true A47]
def C5o(f:B00):Nat×Fn:=(98,⟨C5m,C5n,fun x=>f x.1⟩)
def E0D:Fn:=(C5o A6p).2
theorem E0E(f_w_toDisk:B3Q)(f_w_toUpS:B7j):∀ x,(B8 cfg [D0o f_w_toDisk,D54 f_w_toUpS] (B3 []) 19 [.cell 2 29] (Tryz.f98.body.getD .skip) C5m C5n).fn x=B5h f_w_toDisk f_w_toUpS x.1:=by intro x;kernel_rfl
theorem E0F:B0 Tryz.prog 98 E0D:=sm MO A7 (tc Tryz.call177 E3e (tc Tryz.call178 E70 A5)) Tryz.func98 (by kernel_rfl) (by decide) (E0E A8v B1w)
abbrev D0p:List PK:= [.val true F0 false]
abbrev D0q:List RK:= [.val true F0]
def D0r(f:B3R):Nat×Fn:=(244,⟨D0p,D0q,fun x=>f x.1⟩)
def E3f:Fn:=(D0r A8w).2
theorem E3g:∀ x,(B8 cfg [] (B3 []) 11 [.cell 2 126] (Tryz.f244.body.getD .skip) D0p D0q).fn x=C0N x.1:=by intro x;kernel_rfl
theorem E3h:B0 Tryz.prog 244 E3f:=sm MO A7 A5 Tryz.func244 (by kernel_rfl) (by decide) (E3g)
abbrev D0s:List PK:= [.val true A9 false]
abbrev D0t:List RK:= [.val true A9]
def D0u(f:A8x):Nat×Fn:=(179,⟨D0s,D0t,fun x=>f x.1⟩)
def E3i:Fn:=(D0u A8y).2
theorem E3j(f_w_toResp:B3R):∀ x,(B8 cfg [D0r f_w_toResp] (B3 []) 12 [.cell 2 130] (Tryz.f179.body.getD .skip) D0s D0t).fn x=C0O f_w_toResp x.1:=by intro x;kernel_rfl
theorem E3k:B0 Tryz.prog 179 E3i:=sm MO A7 (tc Tryz.call244 E3h A5) Tryz.func179 (by kernel_rfl) (by decide) (E3j A8w)
def E0G:Nat→Option Jn:=B3 [(58,⟨[.t 3 false [.own 7],.t 4 false [.int .i64],.r 7 130 A9],lt 8 14 [.x 21],false⟩)]
abbrev C5p:List PK:= [.val false (.rs 203 A9) false]
abbrev C5q:List RK:= [.val false (.sl 130 A9)]
def B6t(f:A3j):Nat×Fn:=(99,⟨C5p,C5q,fun x=>f x.1⟩)
def E0H:Fn:=(B6t A1P).2
theorem E0I(f_w_toHeld:A8x):∀ x,(B8 cfg [D0u f_w_toHeld] E0G 23 [.tmp 2] (Tryz.f99.body.getD .skip) C5p C5q).fn x=B5i f_w_toHeld x.1:=by intro x;kernel_rfl
theorem C5r:B0 Tryz.prog 99 E0H:=sm MO A7 (tc Tryz.call179 E3k A5) Tryz.func99 (by kernel_rfl) (by decide) (E0I A8y)
abbrev C2R:List PK:= [.val true (.pair (.pair (.pair (.rs 9 .str) (.rs 9 .str)) (.pair (.int .i64) (.pair (.int .i64) (.rs 248 kUp)))) (.rs 203 A9)) false]
abbrev C2S:List RK:= [.val true A1r]
def C2T(f:A7x):Nat×Fn:=(32,⟨C2R,C2S,fun x=>f x.1⟩)
def D6o:Fn:=(C2T A4P).2
theorem D6p(f_w_toStore:B00)(f_w_toHeldS:A3j):∀ x,(B8 cfg [C5o f_w_toStore,B6t f_w_toHeldS] (B3 []) 13 [.cell 2 32] (Tryz.f32.body.getD .skip) C2R C2S).fn x=B3S f_w_toStore f_w_toHeldS x.1:=by intro x;kernel_rfl
theorem D6q:B0 Tryz.prog 32 D6o:=sm MO A7 (tc Tryz.call98 E0F (tc Tryz.call99 C5r A5)) Tryz.func32 (by kernel_rfl) (by decide) (D6p A6p A1P)
abbrev C2U:List PK:= [.val true (.pair .str (.pair (.rs 5 (.int .u8)) F0)) false]
abbrev C2V:List RK:= [.val true B2]
def C2W(f:A4Q):Nat×Fn:=(209,⟨C2U,C2V,fun x=>f x.1⟩)
def D6r:Fn:=(C2W A4R).2
theorem D6s(f_w_toByteS:A08):∀ x,(B8 cfg [B0i f_w_toByteS] (B3 []) 18 [.cell 2 79] (Tryz.f209.body.getD .skip) C2U C2V).fn x=B3T f_w_toByteS x.1:=by intro x;kernel_rfl
theorem D6t:B0 Tryz.prog 209 D6r:=sm MO A7 (tc Tryz.call34 B6s A5) Tryz.func209 (by kernel_rfl) (by decide) (D6s T4)
def D31:Nat→Option Jn:=B3 [(58,⟨[.t 3 false [.own 7],.t 4 false [.int .i64],.r 7 79 B2],lt 8 14 [.r 86017,.x 21],false⟩)]
abbrev B90:List PK:= [.val false (.rs 218 B2) false]
abbrev B91:List RK:= [.val false (.sl 79 B2)]
def B92(f:A6D):Nat×Fn:=(122,⟨B90,B91,fun x=>f x.1⟩)
def D32:Fn:=(B92 A2K).2
theorem D33(f_w_toClient:A4Q):∀ x,(B8 cfg [C2W f_w_toClient] D31 23 [.tmp 2] (Tryz.f122.body.getD .skip) B90 B91).fn x=B1B f_w_toClient x.1:=by intro x;kernel_rfl
theorem D34:B0 Tryz.prog 122 D32:=sm MO A7 (tc Tryz.call209 D6t A5) Tryz.func122 (by kernel_rfl) (by decide) (D33 A4R)
def E0J:Nat→Option Jn:=B3 [(58,⟨[.t 3 false [.own 7],.t 4 false [.int .i64],.r 7 4 .bool],lt 8 13 [.x 20],false⟩)]
abbrev C5s:List PK:= [.val false (.rs 4 .bool) false]
abbrev C5t:List RK:= [.val false (.sl 4 .bool)]
def B6u(f:A3k):Nat×Fn:=(123,⟨C5s,C5t,fun x=>f x.1⟩)
def E0K:Fn:=(B6u A1Q).2
theorem E0L:∀ x,(B8 cfg [] E0J 22 [.tmp 2] (Tryz.f123.body.getD .skip) C5s C5t).fn x=B5j x.1:=by intro x;kernel_rfl
theorem C5u:B0 Tryz.prog 123 E0K:=sm MO A7 A5 Tryz.func123 (by kernel_rfl) (by decide) (E0L)
abbrev D55:List PK:= [.val true L5 false]
abbrev D56:List RK:= [.val true L5]
def D57(f:B7k):Nat×Fn:=(33,⟨D55,D56,fun x=>f x.1⟩)
def E71:Fn:=(D57 B1x).2
theorem E72:∀ x,(B8 cfg [] (B3 []) 14 [.cell 2 43] (Tryz.f33.body.getD .skip) D55 D56).fn x=C3h x.1:=by intro x;kernel_rfl
theorem E73:B0 Tryz.prog 33 E71:=sm MO A7 A5 Tryz.func33 (by kernel_rfl) (by decide) (E72)
abbrev D0v:List PK:= [.val true (.pair (.int .i64) (.pair L5 (.rs 5 (.int .u8)))) false]
abbrev D0w:List RK:= [.val true B9]
def D0x(f:A8z):Nat×Fn:=(210,⟨D0v,D0w,fun x=>f x.1⟩)
def E3l:Fn:=(D0x A90).2
theorem E3m(f_w_toReq:B7k)(f_w_toByteS:A08):∀ x,(B8 cfg [D57 f_w_toReq,B0i f_w_toByteS] (B3 []) 16 [.cell 2 113] (Tryz.f210.body.getD .skip) D0v D0w).fn x=C0P f_w_toReq f_w_toByteS x.1:=by intro x;kernel_rfl
theorem E3n:B0 Tryz.prog 210 E3l:=sm MO A7 (tc Tryz.call33 E73 (tc Tryz.call34 B6s A5)) Tryz.func210 (by kernel_rfl) (by decide) (E3m B1x T4)
def E0M:Nat→Option Jn:=B3 [(58,⟨[.t 3 false [.own 7],.t 4 false [.int .i64],.r 7 113 B9],lt 8 14 [.r 86020,.x 21],false⟩)]
abbrev C5v:List PK:= [.val false (.rs 221 B9) false]
abbrev C5w:List RK:= [.val false (.sl 113 B9)]
def C5x(f:B01):Nat×Fn:=(124,⟨C5v,C5w,fun x=>f x.1⟩)
def E0N:Fn:=(C5x A6q).2
theorem E0O(f_w_toWant:A8z):∀ x,(B8 cfg [D0x f_w_toWant] E0M 23 [.tmp 2] (Tryz.f124.body.getD .skip) C5v C5w).fn x=B5k f_w_toWant x.1:=by intro x;kernel_rfl
theorem E0P:B0 Tryz.prog 124 E0N:=sm MO A7 (tc Tryz.call210 E3n A5) Tryz.func124 (by kernel_rfl) (by decide) (E0O A90)
def E3o:Nat→Option Jn:=B3 [(58,⟨[.t 3 false [.own 7],.t 4 false [.int .i64],.r 7 3 (.int .i64)],lt 8 13 [.x 20],false⟩)]
abbrev D0y:List PK:= [.val false (.rs 3 (.int .i64)) false]
abbrev D0z:List RK:= [.val false (.sl 3 (.int .i64))]
def D10(f:B3V):Nat×Fn:=(125,⟨D0y,D0z,fun x=>f x.1⟩)
def E3p:Fn:=(D10 A91).2
theorem E3q:∀ x,(B8 cfg [] E3o 22 [.tmp 2] (Tryz.f125.body.getD .skip) D0y D0z).fn x=C0Q x.1:=by intro x;kernel_rfl
theorem E3r:B0 Tryz.prog 125 E3p:=sm MO A7 A5 Tryz.func125 (by kernel_rfl) (by decide) (E3q)
abbrev C5y:List PK:= [.val true (.pair (.pair (.pair (.pair (.rs 9 .str) (.rs 9 .str)) (.pair (.int .i64) (.pair (.int .i64) (.rs 248 kUp)))) (.rs 203 A9)) (.pair (.rs 218 B2) (.pair (.rs 4 .bool) (.pair (.rs 221 B9) (.pair (.rs 203 A9) (.rs 3 (.int .i64))))))) false]
abbrev C5z:List RK:= [.val true A29]
def C60(f:B02):Nat×Fn:=(53,⟨C5y,C5z,fun x=>f x.1⟩)
def E0Q:Fn:=(C60 A6r).2
theorem E0R(f_w_toServer:A7x)(f_w_toHeldS:A3j)(f_w_toClientS:A6D)(f_w_toBoolS:A3k)(f_w_toWantS:B01)(f_w_toIntS:B3V):∀ x,(B8 cfg [C2T f_w_toServer,B6t f_w_toHeldS,B92 f_w_toClientS,B6u f_w_toBoolS,C5x f_w_toWantS,D10 f_w_toIntS] (B3 []) 29 [.cell 2 38] (Tryz.f53.body.getD .skip) C5y C5z).fn x=B5l f_w_toServer f_w_toHeldS f_w_toClientS f_w_toBoolS f_w_toWantS f_w_toIntS x.1:=by intro x;kernel_rfl
theorem E0S:B0 Tryz.prog 53 E0Q:=sm MO A7 (tc Tryz.call32 D6q (tc Tryz.call99 C5r (tc Tryz.call122 D34 (tc Tryz.call123 C5u (tc Tryz.call124 E0P (tc Tryz.call125 E3r A5)))))) Tryz.func53 (by kernel_rfl) (by decide) (E0R A4P A1P A2K A1Q A6q A91)
end
end Go.Proofs.YtpdcljonclhhpaaGreat.Ev
