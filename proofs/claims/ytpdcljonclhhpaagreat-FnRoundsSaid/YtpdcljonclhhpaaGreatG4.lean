/- Each function of the program does what its plain function says. -/
import Derived.Test.YtpdcljonclhhpaaGreatG3
import Derived.Test.YtpdcljonclhhpaaGreatFind
set_option linter.unusedVariables false
set_option maxRecDepth 100000
namespace Go.Proofs.YtpdcljonclhhpaaGreat.Ev
noncomputable section
def C0j:Nat→Option Jn:=B5 [(3,⟨[],lt 9 8 [],false⟩)]
abbrev B0g:List PK:= [.ptr A7Q,.val false .str false,.val false (.int .i64) false]
abbrev B0h:List RK:= [.val false (.int .i64)]
def B0i(f:A25):Nat×Fn:=(222,⟨B0g,B0h,fun x=>f x.1 x.2.1 x.2.2.1⟩)
def C0k:Fn:=(B0i A07).2
theorem C0l(f_i_inRange:C0)(f_i_idOk:T5)(f_i_Store_left:M1)(f_i_Store_write_r97_0:E8)(f_i_Store_find:H6):∀ x,(C4 (cfg.withPk 276 ⟨kUp,4,f_i_Store_find⟩) [H3 f_i_inRange,A6D f_i_idOk,A1r f_i_Store_left,Q2 f_i_Store_write_r97_0] C0j 39 [.tmp 6] (Tryz.f222.body.getD .skip) B0g B0h).fn x=A5D f_i_inRange f_i_idOk f_i_Store_left f_i_Store_write_r97_0 f_i_Store_find x.1 x.2.1 x.2.2.1:=by intro x;kernel_rfl
theorem C0m:B3 Tryz.prog 222 C0k:=sm MO (A79 B0 (fun args w=>Tryz.call276 args w) A0G) (tc Tryz.call80 I3 (tc Tryz.call147 A88 (tc Tryz.call277 A4c (tc Tryz.call278 W6 A6)))) Tryz.func222 (by kernel_rfl) (by decide) (C0l C2 R9 K6 C6 G0)
def C2f:Nat→Option Jn:=B5 [(3,⟨[],lt 12 9 [],false⟩),(15,⟨[.b 1000 [.own 215040,.own 215041,.int .i64,.int .i64,.own 215044],.r 215040 9 .str,.r 215041 9 .str,.r 215044 109 kUp],lt 27 31 [.r 1000,.r 1001,.r 1004],false⟩),(243,⟨[.t 30 false [.bool]],lt 31 18 [],true⟩),(250,⟨[.b 6 [.int .i64],.b 1000 [.own 100003000,.own 100003001,.int .i64,.int .i64,.own 100003002],.r 100003000 9 .str,.r 100003001 9 .str,.r 100003002 109 kUp],lt 60 10 [.r 215040,.r 215041,.r 215044,.r 272384,.r 272385,.r 272388,.t 11],false⟩)]
abbrev B2V:List PK:= [.ptr A7Q,.val false .str false,.val false (.int .i64) false,.val false (.rs 5 (.int .u8)) false]
abbrev B2W:List RK:= [.val false (.int .i64)]
def B2X(f:A38):Nat×Fn:=(223,⟨B2V,B2W,fun x=>f x.1 x.2.1 x.2.2.1 x.2.2.2.1⟩)
def C2g:Fn:=(B2X A0h).2
theorem C2h(f_i_inRange:C0)(f_i_idOk:T5)(f_i_Store_left:M1)(f_i_Store_write_r97_0:E8)(f_i_Store_find:H6):∀ x,(C4 (((cfg.withPk 276 ⟨kUp,4,f_i_Store_find⟩).withCk 279 304).withPt [244]) [H3 f_i_inRange,A6D f_i_idOk,A1r f_i_Store_left,Q2 f_i_Store_write_r97_0] C2f 70 [.tmp 8] (Tryz.f223.body.getD .skip) B2V B2W).fn x=A6I f_i_inRange f_i_idOk f_i_Store_left f_i_Store_write_r97_0 f_i_Store_find x.1 x.2.1 x.2.2.1 x.2.2.2.1:=by intro x;kernel_rfl
theorem C2i:B3 Tryz.prog 223 C2g:=sm MO (D7l (l:= [244]) (D7k (A79 B0 (fun args w=>Tryz.call276 args w) A0G) (fun args w=>Tryz.call279 args w) E26) ⟨⟨_,Tryz.underlying244,rfl⟩,trivial⟩) (tc Tryz.call80 I3 (tc Tryz.call147 A88 (tc Tryz.call277 A4c (tc Tryz.call278 W6 A6)))) Tryz.func223 (by kernel_rfl) (by decide) (C2h C2 R9 K6 C6 G0)
abbrev B2Y:List PK:= [.ptr A5U,.val false (.int .i64) false,.val false .str false]
abbrev B2Z:List RK:= [.val true F6]
def A3H(f:P1):Nat×Fn:=(224,⟨B2Y,B2Z,fun x=>f x.1 x.2.1 x.2.2.1⟩)
def C2j:Fn:=(A3H M4).2
theorem C2k(f_i_Store_find:H6):∀ x,(C4 (cfg.withPk 276 ⟨kUp,4,f_i_Store_find⟩) [] (B5 []) 22 [.cell 6 126] (Tryz.f224.body.getD .skip) B2Y B2Z).fn x=A6J f_i_Store_find x.1 x.2.1 x.2.2.1:=by intro x;kernel_rfl
theorem A6T:B3 Tryz.prog 224 C2j:=sm MO (A79 B0 (fun args w=>Tryz.call276 args w) A0G) A6 Tryz.func224 (by kernel_rfl) (by decide) (C2k G0)
def C0n:Nat→Option Jn:=B5 [(15,⟨[.b 7 [.str,.int .i64,.any,.bool],.b 1000 [.own 100000000,.own 100000001,.int .i64,.int .i64,.own 100000002],.r 100000000 9 .str,.r 100000001 9 .str,.r 100000002 109 kUp],lt 18 25 [.r 1000,.r 1001,.r 1004,.r 169984,.r 169985,.r 169988],false⟩)]
abbrev B0j:List PK:= [.ptr A7Q,.val false .str false,.val false (.int .i64) false]
abbrev B0k:List RK:= [.val false (.int .i64)]
def B0l(f:A26):Nat×Fn:=(225,⟨B0j,B0k,fun x=>f x.1 x.2.1 x.2.2.1⟩)
def C0o:Fn:=(B0l A08).2
theorem C0p(f_i_idOk:T5)(f_i_Store_left:M1)(f_i_Store_write_r97_0:E8)(f_i_Crc:A8m)(f_i_Store_find:H6):∀ x,(C4 (cfg.withPk 276 ⟨kUp,4,f_i_Store_find⟩) [A6D f_i_idOk,A1r f_i_Store_left,Q2 f_i_Store_write_r97_0,C3Y f_i_Crc] C0n 49 [.tmp 6] (Tryz.f225.body.getD .skip) B0j B0k).fn x=A5E f_i_idOk f_i_Store_left f_i_Store_write_r97_0 f_i_Crc f_i_Store_find x.1 x.2.1 x.2.2.1:=by intro x;kernel_rfl
theorem C0q:B3 Tryz.prog 225 C0o:=sm MO (A79 B0 (fun args w=>Tryz.call276 args w) A0G) (tc Tryz.call147 A88 (tc Tryz.call277 A4c (tc Tryz.call278 W6 (tc Tryz.call280 D0c A6)))) Tryz.func225 (by kernel_rfl) (by decide) (C0p R9 K6 C6 A6x G0)
abbrev B0m:List PK:= [.ptr A7Q,.val false .str false]
abbrev B0n:List RK:= [.val false (.int .i64)]
def B0o(f:A27):Nat×Fn:=(226,⟨B0m,B0n,fun x=>f x.1 x.2.1⟩)
def C0r:Fn:=(B0o A09).2
theorem C0s(f_i_idOk:T5)(f_i_Store_left:M1)(f_i_Store_write_r97_0:E8)(f_i_Store_find:H6):∀ x,(C4 (cfg.withPk 276 ⟨kUp,4,f_i_Store_find⟩) [A6D f_i_idOk,A1r f_i_Store_left,Q2 f_i_Store_write_r97_0] (B5 []) 24 [.tmp 4] (Tryz.f226.body.getD .skip) B0m B0n).fn x=A5F f_i_idOk f_i_Store_left f_i_Store_write_r97_0 f_i_Store_find x.1 x.2.1:=by intro x;kernel_rfl
theorem C0t:B3 Tryz.prog 226 C0r:=sm MO (A79 B0 (fun args w=>Tryz.call276 args w) A0G) (tc Tryz.call147 A88 (tc Tryz.call277 A4c (tc Tryz.call278 W6 A6))) Tryz.func226 (by kernel_rfl) (by decide) (C0s R9 K6 C6 G0)
def C2l:Nat→Option Jn:=B5 [(115,⟨[.t 20 false [.bool]],lt 21 8 [],true⟩)]
abbrev B2a:List PK:= [.ptr A5U,.val true W8 false]
abbrev B2b:List RK:= [.val true F6]
def B2c(f:A39):Nat×Fn:=(227,⟨B2a,B2b,fun x=>f x.1 x.2.1⟩)
def C2m:Fn:=(B2c A0i).2
theorem C2n(f_i_Server_told:P1)(f_i_Store_find:H6):∀ x,(C4 (cfg.withPk 276 ⟨kUp,4,f_i_Store_find⟩) [A3H f_i_Server_told] C2l 37 [.cell 4 126] (Tryz.f227.body.getD .skip) B2a B2b).fn x=A6K f_i_Server_told f_i_Store_find x.1 x.2.1:=by intro x;kernel_rfl
theorem C2o:B3 Tryz.prog 227 C2m:=sm MO (A79 B0 (fun args w=>Tryz.call276 args w) A0G) (tc Tryz.call224 A6T A6) Tryz.func227 (by kernel_rfl) (by decide) (C2n M4 G0)
def B7g:Nat→Option Jn:=B5 [(107,⟨[.t 11 false [.bool]],[.t 12,.t 13],true⟩)]
abbrev A8A:List PK:= [.ptr A5U,.val false (.int .i64) false,.val false .str false]
abbrev A8B:List RK:= [.val true F6]
def A8C(f:A0Y):Nat×Fn:=(228,⟨A8A,A8B,fun x=>f x.1 x.2.1 x.2.2.1⟩)
def B7h:Fn:=(A8C I5).2
theorem B7i(f_i_Server_told:P1):∀ x,(C4 cfg [A3H f_i_Server_told] B7g 24 [.cell 6 126] (Tryz.f228.body.getD .skip) A8A A8B).fn x=A3N f_i_Server_told x.1 x.2.1 x.2.2.1:=by intro x;kernel_rfl
theorem B7j:B3 Tryz.prog 228 B7h:=sm MO B0 (tc Tryz.call224 A6T A6) Tryz.func228 (by kernel_rfl) (by decide) (B7i M4)
def B9P:Nat→Option Jn:=B5 [(15,⟨[.t 7 false [.int .i64],.b 8 [.int .i64,.int .i64],.b 1000 [.own 100000000,.own 100000001,.int .i64,.int .i64,.own 100000002,.own 100000003],.r 100000000 9 .str,.r 100000001 9 .str,.r 100000002 109 kUp,.r 100000003 130 B2],lt 15 46 [.r 1000,.r 1001,.r 1004,.r 1005,.r 104448,.r 104449,.r 104452,.r 153600,.r 153601,.r 153604,.r 169984,.r 169985,.r 169988,.r 169989,.r 210944,.r 210945,.r 210948,.r 247808,.r 247809,.r 247812,.t 10,.t 11],false⟩)]
abbrev A9L:List PK:= [.ptr A5U,.val true W8 false,.val false (.rs 5 (.int .u8)) false]
abbrev A9M:List RK:= [.val true F6]
def A9N(f:A14):Nat×Fn:=(156,⟨A9L,A9M,fun x=>f x.1 x.2.1 x.2.2.1⟩)
def B9Q:Fn:=(A9N Y0).2
theorem B9R(f_i_Store_makeUp:A25)(f_i_Store_putUp:A38)(f_i_Server_told:P1)(f_i_Store_doneUp:A26)(f_i_Store_dropUp:A27)(f_i_Server_look:A39)(f_i_Server_refused:A0Y):∀ x,(C4 cfg [B0i f_i_Store_makeUp,B2X f_i_Store_putUp,A3H f_i_Server_told,B0l f_i_Store_doneUp,B0o f_i_Store_dropUp,B2c f_i_Server_look,A8C f_i_Server_refused] B9P 69 [.cell 6 126] (Tryz.f156.body.getD .skip) A9L A9M).fn x=A4K f_i_Store_makeUp f_i_Store_putUp f_i_Server_told f_i_Store_doneUp f_i_Store_dropUp f_i_Server_look f_i_Server_refused x.1 x.2.1 x.2.2.1:=by intro x;kernel_rfl
theorem B9S:B3 Tryz.prog 156 B9Q:=sm MO B0 (tc Tryz.call222 C0m (tc Tryz.call223 C2i (tc Tryz.call224 A6T (tc Tryz.call225 C0q (tc Tryz.call226 C0t (tc Tryz.call227 C2o (tc Tryz.call228 B7j A6))))))) Tryz.func156 (by kernel_rfl) (by decide) (B9R A07 A0h M4 A08 A09 A0i I5)
def C0u:Nat→Option Jn:=B5 [(3,⟨[],lt 10 11 [],false⟩)]
abbrev B0p:List PK:= [.ptr A5U,.val false (.int .i64) false,.val true W8 false,.val false (.rs 5 (.int .u8)) false]
abbrev B0q:List RK:= [.val false .bool]
def B0r(f:A28):Nat×Fn:=(88,⟨B0p,B0q,fun x=>f x.1 x.2.1 x.2.2.1 x.2.2.2.1⟩)
def C0v:Fn:=(B0r A29).2
theorem C0w(f_i_ReqOk:A5C)(f_i_Server_answer:A14):∀ x,(C4 cfg [C0i f_i_ReqOk,A9N f_i_Server_answer] C0u 37 [.tmp 8] (Tryz.f88.body.getD .skip) B0p B0q).fn x=A5G f_i_ReqOk f_i_Server_answer x.1 x.2.1 x.2.2.1 x.2.2.2.1:=by intro x;kernel_rfl
theorem C0x:B3 Tryz.prog 88 C0v:=sm MO B0 (tc Tryz.call79 C9C (tc Tryz.call156 B9S A6)) Tryz.func88 (by kernel_rfl) (by decide) (C0w A3b Y0)
abbrev B2d:List PK:= [.ptr S9,.val false (.int .i64) false]
abbrev B2e:List RK:= [.val false .bool]
def B2f(f:A3A):Nat×Fn:=(201,⟨B2d,B2e,fun x=>f x.1 x.2.1⟩)
def C2p:Fn:=(B2f A0j).2
theorem C2q(f_i_inRange:C0)(f_i_Server_serve:A28)(f_slices_Delete_impl_Want_impl_Want:H7):∀ x,(C4 cfg [H3 f_i_inRange,B0r f_i_Server_serve,U5 f_slices_Delete_impl_Want_impl_Want] (B5 []) 44 [.tmp 4] (Tryz.f201.body.getD .skip) B2d B2e).fn x=A6L f_i_inRange f_i_Server_serve f_slices_Delete_impl_Want_impl_Want x.1 x.2.1:=by intro x;kernel_rfl
theorem C2r:B3 Tryz.prog 201 C2p:=sm MO B0 (tc Tryz.call80 I3 (tc Tryz.call88 C0x (tc Tryz.call260 A2g A6))) Tryz.func201 (by kernel_rfl) (by decide) (C2q C2 A29 H8)
abbrev B6Y:List PK:= [.val true (.pair (.rs 9 .str) (.rs 9 .str)) false]
abbrev B6Z:List RK:= [.val true A4p]
def B6a(f:A5k):Nat×Fn:=(296,⟨B6Y,B6Z,fun x=>f x.1⟩)
def C7y:Fn:=(B6a A2Y).2
theorem C7z(f_slices_Clone_string_string:G4):∀ x,(C4 cfg [T3 f_slices_Clone_string_string] (B5 []) 10 [.cell 2 26] (Tryz.f296.body.getD .skip) B6Y B6Z).fn x=A9f f_slices_Clone_string_string x.1:=by intro x;kernel_rfl
theorem C80:B3 Tryz.prog 296 C7y:=sm MO B0 (tc Tryz.call275 A0r A6) Tryz.func296 (by kernel_rfl) (by decide) (C7z F7)
abbrev A8D:List PK:= [.ptr A5U]
abbrev A8E:List RK:= [.val false (.sl 130 B2)]
def A8F(f:A0Z):Nat×Fn:=(261,⟨A8D,A8E,fun x=>f x.1⟩)
def B7k:Fn:=(A8F A0a).2
theorem B7l(f_i_FlushDisk:A5k):∀ x,(C4 cfg [B6a f_i_FlushDisk] (B5 []) 22 [.tmp 2] (Tryz.f261.body.getD .skip) A8D A8E).fn x=A3O f_i_FlushDisk x.1:=by intro x;kernel_rfl
theorem B7m:B3 Tryz.prog 261 B7k:=sm MO B0 (tc Tryz.call296 C80 A6) Tryz.func261 (by kernel_rfl) (by decide) (B7l A2Y)
abbrev B4h:List PK:= [.ptr S9]
abbrev B4i:List RK:= [.val false .bool]
def B4j(f:A4L):Nat×Fn:=(202,⟨B4h,B4i,fun x=>f x.1⟩)
def C6f:Fn:=(B4j A1d).2
theorem C6g(f_i_Server_syncAll:A0Z):∀ x,(C4 cfg [A8F f_i_Server_syncAll] (B5 []) 30 [.tmp 2] (Tryz.f202.body.getD .skip) B4h B4i).fn x=A7m f_i_Server_syncAll x.1:=by intro x;kernel_rfl
theorem C6h:B3 Tryz.prog 202 C6f:=sm MO B0 (tc Tryz.call261 B7m A6) Tryz.func202 (by kernel_rfl) (by decide) (C6g A0a)
abbrev A9O:List PK:= [.ptr A9,.val false (.int .i64) false]
abbrev A9P:List RK:= []
def A9Q(f:A15):Nat×Fn:=(311,⟨A9O,A9P,fun x=>f x.1 x.2.1⟩)
def B9T:Fn:=(A9Q Y1).2
theorem B9U(f_i_inRange:C0):∀ x,(C4 cfg [H3 f_i_inRange] (B5 []) 32 [] (Tryz.f311.body.getD .skip) A9O A9P).fn x=A4M f_i_inRange x.1 x.2.1:=by intro x;kernel_rfl
theorem B9V:B3 Tryz.prog 311 B9T:=sm MO B0 (tc Tryz.call80 I3 A6) Tryz.func311 (by kernel_rfl) (by decide) (B9U C2)
def C2s:Nat→Option Jn:=B5 [(14,⟨[.t 15 false [.bool]],lt 16 12 [],true⟩),(59,⟨[.t 32 false [.bool]],lt 33 10 [],true⟩),(239,⟨[.t 47 false [.bool]],lt 48 6 [],true⟩),(959,⟨[.t 57 false [.bool]],lt 58 10 [],true⟩),(3839,⟨[.t 71 false [.bool]],lt 72 6 [],true⟩)]
abbrev B2g:List PK:= [.ptr A9,.val true F6 false]
abbrev B2h:List RK:= []
def B2i(f:A3B):Nat×Fn:=(297,⟨B2g,B2h,fun x=>f x.1 x.2.1⟩)
def C2t:Fn:=(B2i A0k).2
theorem C2u(f_i_Client_howFar:A15):∀ x,(C4 cfg [A9Q f_i_Client_howFar] C2s 88 [] (Tryz.f297.body.getD .skip) B2g B2h).fn x=A6M f_i_Client_howFar x.1 x.2.1:=by intro x;kernel_rfl
theorem C2v:B3 Tryz.prog 297 C2t:=sm MO B0 (tc Tryz.call311 B9V A6) Tryz.func297 (by kernel_rfl) (by decide) (C2u Y1)
abbrev B9W:List PK:= [.val true (.pair .str (.pair (.rs 5 (.int .u8)) F6)) false,.val true F6 false]
abbrev B9X:List RK:= [.val true A9]
def B9Y(f:A6z):Nat×Fn:=(263,⟨B9W,B9X,fun x=>f x.1 x.2.1⟩)
def D0s:Fn:=(B9Y A4N).2
theorem D0t(f_i_RespOk:Z2)(f_i_ClientOk:O0)(f_i_copyClient:O2)(f_i_Client_isOver:L4)(f_i_Client_hear:A3B):∀ x,(C4 cfg [B25 f_i_RespOk,A4V f_i_ClientOk,A4Z f_i_copyClient,U0 f_i_Client_isOver,B2i f_i_Client_hear] (B5 []) 23 [.cell 4 79] (Tryz.f263.body.getD .skip) B9W B9X).fn x=B1k f_i_RespOk f_i_ClientOk f_i_copyClient f_i_Client_isOver f_i_Client_hear x.1 x.2.1:=by intro x;kernel_rfl
theorem D0u:B3 Tryz.prog 263 D0s:=sm MO B0 (tc Tryz.call93 B7c (tc Tryz.call145 A75 (tc Tryz.call190 A89 (tc Tryz.call295 A0d (tc Tryz.call297 C2v A6))))) Tryz.func263 (by kernel_rfl) (by decide) (D0t V4 K9 K5 J0 A0k)
abbrev B4k:List PK:= [.ptr S9,.val false (.int .i64) false]
abbrev B4l:List RK:= [.val false .bool]
def B4m(f:A4O):Nat×Fn:=(203,⟨B4k,B4l,fun x=>f x.1 x.2.1⟩)
def C6i:Fn:=(B4m A1e).2
theorem C6j(f_i_inRange:C0)(f_slices_Delete_impl_Held_impl_Held:H9)(f_i_HearResp:A6z):∀ x,(C4 cfg [H3 f_i_inRange,U6 f_slices_Delete_impl_Held_impl_Held,B9Y f_i_HearResp] (B5 []) 85 [.tmp 4] (Tryz.f203.body.getD .skip) B4k B4l).fn x=A7n f_i_inRange f_slices_Delete_impl_Held_impl_Held f_i_HearResp x.1 x.2.1:=by intro x;kernel_rfl
theorem C6k:B3 Tryz.prog 203 C6i:=sm MO B0 (tc Tryz.call80 I3 (tc Tryz.call262 A2k (tc Tryz.call263 D0u A6))) Tryz.func203 (by kernel_rfl) (by decide) (C6j C2 I0 A4N)
abbrev C6l:List PK:= [.val true (.pair .str (.pair (.rs 5 (.int .u8)) F6)) false]
abbrev C6m:List RK:= [.val true A9]
def C6n(f:B1l):Nat×Fn:=(300,⟨C6l,C6m,fun x=>f x.1⟩)
def D6B:Fn:=(C6n B7D).2
theorem D6C(f_i_ClientOk:O0)(f_i_copyClient:O2)(f_i_Client_isOver:L4):∀ x,(C4 cfg [A4V f_i_ClientOk,A4Z f_i_copyClient,U0 f_i_Client_isOver] (B5 []) 14 [.cell 2 79] (Tryz.f300.body.getD .skip) C6l C6m).fn x=C4J f_i_ClientOk f_i_copyClient f_i_Client_isOver x.1:=by intro x;kernel_rfl
theorem D6D:B3 Tryz.prog 300 D6B:=sm MO B0 (tc Tryz.call145 A75 (tc Tryz.call190 A89 (tc Tryz.call295 A0d A6))) Tryz.func300 (by kernel_rfl) (by decide) (D6C K9 K5 J0)
abbrev B4n:List PK:= [.ptr S9,.val false (.int .i64) false]
abbrev B4o:List RK:= []
def A8G(f:V5):Nat×Fn:=(268,⟨B4n,B4o,fun x=>f x.1 x.2.1⟩)
def C6o:Fn:=(A8G A1f).2
theorem C6p(f_i_CutOff:B1l):∀ x,(C4 cfg [C6n f_i_CutOff] (B5 []) 24 [] (Tryz.f268.body.getD .skip) B4n B4o).fn x=B3m f_i_CutOff x.1 x.2.1:=by intro x;kernel_rfl
theorem B4p:B3 Tryz.prog 268 C6o:=sm MO B0 (tc Tryz.call300 D6D A6) Tryz.func268 (by kernel_rfl) (by decide) (C6p B7D)
abbrev B6b:List PK:= [.ptr S9,.val false (.int .i64) false]
abbrev B6c:List RK:= [.val false .bool]
def B6d(f:A5l):Nat×Fn:=(204,⟨B6b,B6c,fun x=>f x.1 x.2.1⟩)
def C81:Fn:=(B6d A9g).2
theorem C82(f_i_inRange:C0)(f_slices_DeleteFunc_impl_Want_impl_Want:G1)(f_slices_DeleteFunc_impl_Held_impl_Held:G2)(f_i_World_rest:V5):∀ x,(C4 cfg [H3 f_i_inRange,Q9 f_slices_DeleteFunc_impl_Want_impl_Want,R0 f_slices_DeleteFunc_impl_Held_impl_Held,A8G f_i_World_rest] (B5 []) 48 [.tmp 4] (Tryz.f204.body.getD .skip) B6b B6c).fn x=B5q f_i_inRange f_slices_DeleteFunc_impl_Want_impl_Want f_slices_DeleteFunc_impl_Held_impl_Held f_i_World_rest x.1 x.2.1:=by intro x;kernel_rfl
theorem C83:B3 Tryz.prog 204 C81:=sm MO B0 (tc Tryz.call80 I3 (tcC Tryz.call265 A1B (tcC Tryz.call267 A1F (tc Tryz.call268 B4p A6)))) Tryz.func204 (by kernel_rfl) (by decide) (C82 C2 J3 J4 A1f)
abbrev B9Z:List PK:= [.val true (.pair (.rs 9 .str) (.rs 9 .str)) false]
abbrev B9a:List RK:= [.val false (.int .i64)]
def B9b(f:A70):Nat×Fn:=(312,⟨B9Z,B9a,fun x=>f x.1⟩)
def D0v:Fn:=(B9b B1m).2
theorem D0w(f_i_topFrom:A3a):∀ x,(C4 cfg [B4V f_i_topFrom] (B5 []) 6 [.tmp 2] (Tryz.f312.body.getD .skip) B9Z B9a).fn x=B8B f_i_topFrom x.1:=by intro x;kernel_rfl
theorem D0x:B3 Tryz.prog 312 D0v:=sm MO B0 (tc Tryz.call174 C29 A6) Tryz.func312 (by kernel_rfl) (by decide) (D0w A1Z)
def C84:Nat→Option Jn:=B5 [(63,⟨[],lt 22 6 [],false⟩)]
abbrev B6e:List PK:= [.val true (.pair (.rs 9 .str) (.rs 9 .str)) false]
abbrev B6f:List RK:= [.val true A7Q,.val false .bool]
def B6g(f:A5m):Nat×Fn:=(301,⟨B6e,B6f,fun x=>f x.1⟩)
def C85:Fn:=(B6g A9h).2
theorem C86(f_i_DiskOk:A1V)(f_i_ScanRecs:A23)(f_i_FoldRecs:A24)(f_i_copyDisk:X9)(f_i_TopEpoch:A70):∀ x,(C4 cfg [B26 f_i_DiskOk,B27 f_i_ScanRecs,B28 f_i_FoldRecs,A76 f_i_copyDisk,B9b f_i_TopEpoch] C84 36 [.cell 2 29,.tmp 3] (Tryz.f301.body.getD .skip) B6e B6f).fn x=B5r f_i_DiskOk f_i_ScanRecs f_i_FoldRecs f_i_copyDisk f_i_TopEpoch x.1:=by intro x;kernel_rfl
theorem C87:B3 Tryz.prog 301 C85:=sm MO B0 (tc Tryz.call169 B7d (tc Tryz.call170 B9D (tc Tryz.call171 B9G (tc Tryz.call221 B29 (tc Tryz.call312 D0x A6))))) Tryz.func301 (by kernel_rfl) (by decide) (C86 A1W A0V A0W T7 B1m)
def D0y:Nat→Option Jn:=B5 [(122,⟨[.t 16 false [.int .i64],.b 5 [.own 36864,.own 36865],.r 36864 9 .str,.r 36865 9 .str],lt 17 31 [.t 6,.x 35,.x 37,.x 44,.x 46],false⟩),(7833,⟨[.t 28 false [.bool]],lt 19 9 [],true⟩)]
abbrev B9c:List PK:= [.val true (.pair (.rs 9 .str) (.rs 9 .str)) false,.val false (.rs 4 .bool) false]
abbrev B9d:List RK:= [.val true A4p]
def B9e(f:A71):Nat×Fn:=(302,⟨B9c,B9d,fun x=>f x.1 x.2.1⟩)
def D0z:Fn:=(B9e B1n).2
theorem D10(f_i_DiskOk:A1V)(f_i_copyDisk:X9):∀ x,(C4 cfg [B26 f_i_DiskOk,A76 f_i_copyDisk] D0y 49 [.cell 4 26] (Tryz.f302.body.getD .skip) B9c B9d).fn x=B8C f_i_DiskOk f_i_copyDisk x.1 x.2.1:=by intro x;kernel_rfl
theorem D11:B3 Tryz.prog 302 D0z:=sm MO B0 (tc Tryz.call169 B7d (tc Tryz.call221 B29 A6)) Tryz.func302 (by kernel_rfl) (by decide) (D10 A1W T7)
abbrev B0s:List PK:= [.ptr A5U,.val false (.rs 4 .bool) false]
abbrev B0t:List RK:= [.val false .bool]
def B0u(f:A2A):Nat×Fn:=(269,⟨B0s,B0t,fun x=>f x.1 x.2.1⟩)
def C0y:Fn:=(B0u A5H).2
theorem C0z(f_i_OpenStore:A5m)(f_i_FallDisk:A71):∀ x,(C4 cfg [B6g f_i_OpenStore,B9e f_i_FallDisk] (B5 []) 24 [.tmp 4] (Tryz.f269.body.getD .skip) B0s B0t).fn x=B0I f_i_OpenStore f_i_FallDisk x.1 x.2.1:=by intro x;kernel_rfl
theorem C10:B3 Tryz.prog 269 C0y:=sm MO B0 (tc Tryz.call301 C87 (tc Tryz.call302 D11 A6)) Tryz.func269 (by kernel_rfl) (by decide) (C0z A9h B1n)
def C2w:Nat→Option Jn:=B5 [(122,⟨[.t 23 false [.int .i64],.b 1000 [.own 100000000,.own 100000001,.int .i64,.int .i64,.own 100000002,.own 100000003,.own 100000004,.own 100000005,.own 100000006,.own 100000007,.own 100000008],.r 100000000 9 .str,.r 100000001 9 .str,.r 100000002 109 kUp,.r 100000003 130 B2,.r 100000004 79 A9,.r 100000005 4 .bool,.r 100000006 113 F8,.r 100000007 130 B2,.r 100000008 3 (.int .i64)],lt 24 6 [.r 1006,.r 1007,.r 1010,.r 47104,.r 47105,.r 47108,.r 47109,.r 120832,.r 120833,.r 120836,.r 120837,.r 120838,.r 120839,.r 120840,.r 120841,.r 120842,.t 5],false⟩)]
abbrev B2j:List PK:= [.ptr S9,.val false (.rs 4 .bool) false]
abbrev B2k:List RK:= [.val false .bool]
def B2l(f:A3C):Nat×Fn:=(205,⟨B2j,B2k,fun x=>f x.1 x.2.1⟩)
def C2x:Fn:=(B2l A6N).2
theorem C2y(f_i_World_rest:V5)(f_i_Server_crash:A2A):∀ x,(C4 cfg [A8G f_i_World_rest,B0u f_i_Server_crash] C2w 30 [.tmp 4] (Tryz.f205.body.getD .skip) B2j B2k).fn x=B2M f_i_World_rest f_i_Server_crash x.1 x.2.1:=by intro x;kernel_rfl
theorem C2z:B3 Tryz.prog 205 C2x:=sm MO B0 (tc Tryz.call268 B4p (tc Tryz.call269 C10 A6)) Tryz.func205 (by kernel_rfl) (by decide) (C2y A1f A5H)
abbrev B9f:List PK:= [.ptr S9,.val true (.pair (.int .i64) (.pair (.int .i64) (.rs 4 .bool))) false]
abbrev B9g:List RK:= [.val false .bool]
def B2F(f:Y2):Nat×Fn:=(112,⟨B9f,B9g,fun x=>f x.1 x.2.1⟩)
def D12:Fn:=(B2F D9).2
theorem D13(f_i_World_send:A4J)(f_i_World_serve:A3A)(f_i_World_sync:A4L)(f_i_World_tell:A4O)(f_i_World_cut:A5l)(f_i_World_crash:A3C):∀ x,(C4 cfg [B4e f_i_World_send,B2f f_i_World_serve,B4j f_i_World_sync,B4m f_i_World_tell,B6d f_i_World_cut,B2l f_i_World_crash] (B5 []) 41 [.tmp 4] (Tryz.f112.body.getD .skip) B9f B9g).fn x=A2B f_i_World_send f_i_World_serve f_i_World_sync f_i_World_tell f_i_World_cut f_i_World_crash x.1 x.2.1:=by intro x;kernel_rfl
theorem B9h:B3 Tryz.prog 112 D12:=sm MO B0 (tc Tryz.call200 C6a (tc Tryz.call201 C2r (tc Tryz.call202 C6h (tc Tryz.call203 C6k (tc Tryz.call204 C83 (tc Tryz.call205 C2z A6)))))) Tryz.func112 (by kernel_rfl) (by decide) (D13 A1c A0j A1d A1e A9g A6N)
def C30:Nat→Option Jn:=B5 [(2,⟨[.b 1000 [.own 100000000,.own 100000001,.int .i64,.int .i64,.own 100000002,.own 100000003,.own 100000004,.own 100000005,.own 100000006,.own 100000007,.own 100000008],.r 100000000 9 .str,.r 100000001 9 .str,.r 100000002 109 kUp,.r 100000003 130 B2,.r 100000004 79 A9,.r 100000005 4 .bool,.r 100000006 113 F8,.r 100000007 130 B2,.r 100000008 3 (.int .i64)],lt 4 4 [.r 1000,.r 1001,.r 1004,.r 1005,.r 1006,.r 1007,.r 1008,.r 1009,.r 1010,.r 34816,.r 34817,.r 34820,.r 34821,.r 34822,.r 34823,.r 34824,.r 34825,.r 34826],false⟩)]
abbrev B2m:List PK:= [.ptr S9,.val false (.int .i64) false]
abbrev B2n:List RK:= []
def B2o(f:A3D):Nat×Fn:=(192,⟨B2m,B2n,fun x=>f x.1 x.2.1⟩)
def C31:Fn:=(B2o A3E).2
theorem C32(f_i_World_do:Y2):∀ x,(C4 cfg [B2F f_i_World_do] C30 8 [] (Tryz.f192.body.getD .skip) B2m B2n).fn x=A6O f_i_World_do x.1 x.2.1:=by intro x;kernel_rfl
theorem C33:B3 Tryz.prog 192 C31:=sm MO B0 (tc Tryz.call112 B9h A6) Tryz.func192 (by kernel_rfl) (by decide) (C32 D9)
def C6q:Nat→Option Jn:=B5 [(62,⟨[.t 15 false [.int .i64],.b 1000 [.own 100000000,.own 100000001,.int .i64,.int .i64,.own 100000002,.own 100000003,.own 100000004,.own 100000005,.own 100000006,.own 100000007,.own 100000008],.r 100000000 9 .str,.r 100000001 9 .str,.r 100000002 109 kUp,.r 100000003 130 B2,.r 100000004 79 A9,.r 100000005 4 .bool,.r 100000006 113 F8,.r 100000007 130 B2,.r 100000008 3 (.int .i64)],lt 16 7 [.r 43008,.r 43009,.r 43012,.r 43013,.r 43014,.r 43015,.r 43016,.r 43017,.r 43018,.r 92160,.r 92161,.r 92164,.r 92165,.r 92166,.r 92167,.r 92168,.r 92169,.r 92170,.t 2],false⟩)]
abbrev B4q:List PK:= [.ptr S9]
abbrev B4r:List RK:= []
def B4s(f:A1g):Nat×Fn:=(108,⟨B4q,B4r,fun x=>f x.1⟩)
def C6r:Fn:=(B4s O3).2
theorem C6s(f_i_World_do:Y2)(f_i_World_again:A3D):∀ x,(C4 cfg [B2F f_i_World_do,B2o f_i_World_again] C6q 23 [] (Tryz.f108.body.getD .skip) B4q B4r).fn x=A7o f_i_World_do f_i_World_again x.1:=by intro x;kernel_rfl
theorem C6t:B3 Tryz.prog 108 C6r:=sm MO B0 (tc Tryz.call112 B9h (tc Tryz.call192 C33 A6)) Tryz.func108 (by kernel_rfl) (by decide) (C6s D9 A3E)
def D6E:Nat→Option Jn:=B5 [(7,⟨[],lt 8 8 [],false⟩),(122,⟨[.t 18 false [.int .i64],.b 5 [.own 100001000,.own 100001001,.int .i64,.int .i64,.own 100001002,.own 100001003,.own 100001004,.own 100001005,.own 100001006,.own 100001007,.own 100001008],.r 100001000 9 .str,.r 100001001 9 .str,.r 100001002 109 kUp,.r 100001003 130 B2,.r 100001004 79 A9,.r 100001005 4 .bool,.r 100001006 113 F8,.r 100001007 130 B2,.r 100001008 3 (.int .i64)],lt 19 4 [.r 32768,.r 32769,.r 32772,.r 32773,.r 32774,.r 32775,.r 32776,.r 32777,.r 32778,.r 88064,.r 88065,.r 88068,.r 88069,.r 88070,.r 88071,.r 88072,.r 88073,.r 88074,.r 92160,.r 92161,.r 92164,.r 92165,.r 92166,.r 92167,.r 92168,.r 92169,.r 92170],false⟩)]
abbrev C6u:List PK:= [.val true (.pair (.pair (.pair (.pair (.rs 9 .str) (.rs 9 .str)) (.pair (.int .i64) (.pair (.int .i64) (.rs 109 kUp)))) (.rs 130 B2)) (.pair (.rs 79 A9) (.pair (.rs 4 .bool) (.pair (.rs 113 F8) (.pair (.rs 130 B2) (.rs 3 (.int .i64))))))) false,.val false (.int .i64) false]
abbrev C6v:List RK:= [.val true S9]
def B7n(f:A5I):Nat×Fn:=(41,⟨C6u,C6v,fun x=>f x.1 x.2.1⟩)
def D6F:Fn:=(B7n A0b).2
theorem D6G(f_i_WorldOk:A3c)(f_i_inRange:C0)(f_i_copyWorld:A5j)(f_i_World_half:A1g):∀ x,(C4 cfg [B4W f_i_WorldOk,H3 f_i_inRange,B6X f_i_copyWorld,B4s f_i_World_half] D6E 24 [.cell 4 38] (Tryz.f41.body.getD .skip) C6u C6v).fn x=B7E f_i_WorldOk f_i_inRange f_i_copyWorld f_i_World_half x.1 x.2.1:=by intro x;kernel_rfl
theorem C6w:B3 Tryz.prog 41 D6F:=sm MO B0 (tc Tryz.call23 C2F (tc Tryz.call80 I3 (tc Tryz.call107 C7x (tc Tryz.call108 C6t A6)))) Tryz.func41 (by kernel_rfl) (by decide) (D6G A0K C2 A2X O3)
def D3x:Nat→Option Jn:=B5 [(58,⟨[.t 3 false [.int .i64],.t 11 false [.int .i64]],lt 12 23 (lt 5 3 [.b 5,.b 6,.r 90114]),false⟩)]
abbrev C2M:List PK:= [.val true (.pair (.pair (.pair (.pair (.rs 9 .str) (.rs 9 .str)) (.pair (.int .i64) (.pair (.int .i64) (.rs 109 kUp)))) (.rs 130 B2)) (.pair (.rs 79 A9) (.pair (.rs 4 .bool) (.pair (.rs 113 F8) (.pair (.rs 130 B2) (.rs 3 (.int .i64))))))) false]
abbrev C2N:List RK:= [.val false (.int .i64)]
def C2O(f:A8q):Nat×Fn:=(43,⟨C2M,C2N,fun x=>f x.1⟩)
def D3y:Fn:=(C2O A1h).2
theorem D3z(f_i_UpAt:X7):∀ x,(C4 cfg [B4T f_i_UpAt] D3x 36 [.tmp 2] (Tryz.f43.body.getD .skip) C2M C2N).fn x=A8r f_i_UpAt x.1:=by intro x;kernel_rfl
theorem D40:B3 Tryz.prog 43 D3y:=sm MO B0 (tc Tryz.call75 B97 A6) Tryz.func43 (by kernel_rfl) (by decide) (D3z P9)
abbrev C9D:List PK:= [.val true (.pair (.pair (.pair (.pair (.rs 9 .str) (.rs 9 .str)) (.pair (.int .i64) (.pair (.int .i64) (.rs 109 kUp)))) (.rs 130 B2)) (.pair (.rs 79 A9) (.pair (.rs 4 .bool) (.pair (.rs 113 F8) (.pair (.rs 130 B2) (.rs 3 (.int .i64))))))) false]
abbrev C9E:List RK:= [.val true S9]
def C9F(f:B5E):Nat×Fn:=(47,⟨C9D,C9E,fun x=>f x.1⟩)
def D8n:Fn:=(C9F B0J).2
theorem D8o(f_i_Settle:A5I):∀ x,(C4 cfg [B7n f_i_Settle] (B5 []) 5 [.cell 2 38] (Tryz.f47.body.getD .skip) C9D C9E).fn x=C02 f_i_Settle x.1:=by intro x;kernel_rfl
theorem D8p:B3 Tryz.prog 47 D8n:=sm MO B0 (tc Tryz.call41 C6w A6) Tryz.func47 (by kernel_rfl) (by decide) (D8o A0b)
def D41:Nat→Option Jn:=B5 [(58,⟨[.t 3 false [.int .i64],.t 4 false [.int .i64]],lt 5 46 [.b 5,.r 102402],false⟩)]
abbrev C2P:List PK:= [.val true (.pair (.pair (.pair (.pair (.rs 9 .str) (.rs 9 .str)) (.pair (.int .i64) (.pair (.int .i64) (.rs 109 kUp)))) (.rs 130 B2)) (.pair (.rs 79 A9) (.pair (.rs 4 .bool) (.pair (.rs 113 F8) (.pair (.rs 130 B2) (.rs 3 (.int .i64))))))) false]
abbrev C2Q:List RK:= [.val false (.int .i64)]
def C2R(f:A8s):Nat×Fn:=(48,⟨C2P,C2Q,fun x=>f x.1⟩)
def D42:Fn:=(C2R A3d).2
theorem D43(f_s_UpAt:A3y):∀ x,(C4 cfg [B8k f_s_UpAt] D41 52 [.tmp 2] (Tryz.f48.body.getD .skip) C2P C2Q).fn x=B3n f_s_UpAt x.1:=by intro x;kernel_rfl
theorem D44:B3 Tryz.prog 48 D42:=sm MO B0 (tc Tryz.call113 C5X A6) Tryz.func48 (by kernel_rfl) (by decide) (D43 A0e)
def C34:Nat→Option Jn:=B5 [(7,⟨[.t 3 false [.int .i64]],lt 8 20 [.t 4],true⟩),(58,⟨[.t 3 false [.int .i64],.t 4 false [.int .i64]],lt 8 20 [],false⟩),(116,⟨[],lt 8 8 [],false⟩)]
abbrev B2p:List PK:= [.val false (.rs 5 (.int .u8)) false]
abbrev B2q:List RK:= [.new (.pair (.rs 5 (.int .u8)) F6)]
def B2r(f:B5A):Nat×Fn:=(67,⟨B2p,B2q,fun x=>f x.1⟩)
def C35:Fn:=(B2r B0C).2
theorem C36:∀ x,(C4 cfg [] C34 32 [.tmp 2] (Tryz.f67.body.getD .skip) B2p B2q).fn x=B9u x.1:=by intro x;kernel_rfl
theorem C37:B3 Tryz.prog 67 C35:=sm MO B0 A6 Tryz.func67 (by kernel_rfl) (by decide) (C36)
abbrev B2s:List PK:= [.ptr (.pair (.rs 5 (.int .u8)) F6)]
abbrev B2t:List RK:= [.val false (.int .i64)]
def A6U(f:A3I):Nat×Fn:=(153,⟨B2s,B2t,fun x=>f x.1⟩)
def C38:Fn:=(A6U A1J).2
theorem C39:∀ x,(C4 cfg [] (B5 []) 58 [.tmp 2] (Tryz.f153.body.getD .skip) B2s B2t).fn x=B6u x.1:=by intro x;kernel_rfl
theorem B2u:B3 Tryz.prog 153 C38:=sm MO B0 A6 Tryz.func153 (by kernel_rfl) (by decide) (C39)
abbrev B0v:List PK:= [.ptr (.pair (.rs 5 (.int .u8)) F6),.val false (.int .i64) false]
abbrev B0w:List RK:= [.val false (.int .i64)]
def A0H(f:U1):Nat×Fn:=(86,⟨B0v,B0w,fun x=>f x.1 x.2.1⟩)
def C11:Fn:=(A0H L3).2
theorem C12(f_s_l1Byte:A3I):∀ x,(C4 cfg [A6U f_s_l1Byte] (B5 []) 31 [.tmp 4] (Tryz.f86.body.getD .skip) B0v B0w).fn x=A8V f_s_l1Byte x.1 x.2.1:=by intro x;kernel_rfl
theorem A2E:B3 Tryz.prog 86 C11:=sm MO B0 (tc Tryz.call153 B2u A6) Tryz.func86 (by kernel_rfl) (by decide) (C12 A1J)
abbrev B4t:List PK:= [.ptr (.pair (.rs 5 (.int .u8)) F6),.val false (.rs 3 (.int .i64)) false]
abbrev B4u:List RK:= [.val false (.int .i64)]
def B4v(f:B0F):Nat×Fn:=(115,⟨B4t,B4u,fun x=>f x.1 x.2.1⟩)
def C6x:Fn:=(B4v A58).2
theorem C6y(f_s_l1Below:U1):∀ x,(C4 cfg [A0H f_s_l1Below] (B5 []) 12 [.tmp 4] (Tryz.f115.body.getD .skip) B4t B4u).fn x=B9y f_s_l1Below x.1 x.2.1:=by intro x;kernel_rfl
theorem C6z:B3 Tryz.prog 115 C6x:=sm MO B0 (tc Tryz.call86 A2E A6) Tryz.func115 (by kernel_rfl) (by decide) (C6y L3)
def C13:Nat→Option Jn:=B5 [(58,⟨[.t 5 false [.own 100000000],.t 6 false [.int .i64],.b 1000 [.ro 5 (.int .u8),.int .i64,.int .i64],.r 100000000 5 (.int .u8)],lt 8 11 [.r 7,.r 17,.r 18],false⟩)]
abbrev B0x:List PK:= [.ptr (.pair (.rs 5 (.int .u8)) F6),.val false (.int .i64) false]
abbrev B0y:List RK:= [.val false (.sl 5 (.int .u8))]
def B0z(f:A0A):Nat×Fn:=(139,⟨B0x,B0y,fun x=>f x.1 x.2.1⟩)
def C14:Fn:=(B0z Q6).2
theorem C15(f_s_l1Byte:A3I):∀ x,(C4 cfg [A6U f_s_l1Byte] C13 20 [.tmp 4] (Tryz.f139.body.getD .skip) B0x B0y).fn x=A5J f_s_l1Byte x.1 x.2.1:=by intro x;kernel_rfl
theorem C16:B3 Tryz.prog 139 C14:=sm MO B0 (tc Tryz.call153 B2u A6) Tryz.func139 (by kernel_rfl) (by decide) (C15 A1J)
abbrev B2v:List PK:= [.ptr (.pair (.rs 5 (.int .u8)) F6),.val false (.int .i64) false]
abbrev B2w:List RK:= [.val false .bool]
def B2x(f:A7R):Nat×Fn:=(84,⟨B2v,B2w,fun x=>f x.1 x.2.1⟩)
def C3A:Fn:=(B2x A50).2
theorem C3B(f_s_l1Below:U1):∀ x,(C4 cfg [A0H f_s_l1Below] (B5 []) 9 [.tmp 4] (Tryz.f84.body.getD .skip) B2v B2w).fn x=B6v f_s_l1Below x.1 x.2.1:=by intro x;kernel_rfl
theorem C3C:B3 Tryz.prog 84 C3A:=sm MO B0 (tc Tryz.call86 A2E A6) Tryz.func84 (by kernel_rfl) (by decide) (C3B L3)
def B10:Nat→Option Jn:=B5 [(3,⟨[.b 1000 [.ro 5 (.int .u8),.int .i64,.int .i64]],lt 34 3 (lt 30 3 (lt 19 4 (lt 7 6 [.t 44,.t 45]))),false⟩),(26,⟨[.t 9 false [.bool]],lt 10 3 [],true⟩),(107,⟨[.t 19 false [.bool]],lt 20 3 [],true⟩),(122,⟨[.t 6 false [.int .i64],.b 5 [.int .i64,.int .i64,.own 100005000],.b 1000 [.ro 5 (.int .u8),.int .i64,.int .i64],.r 100005000 4 .bool],lt 53 11 [.r 61,.r 62],false⟩),(431,⟨[.t 30 false [.bool]],[.t 31,.t 32],true⟩),(1727,⟨[.t 34 false [.bool]],[.t 35,.t 36],true⟩)]
abbrev A3p:List PK:= [.ptr (.pair (.rs 5 (.int .u8)) F6),.val true (.pair (.pair (.pair (.pair (.rs 9 .str) (.rs 9 .str)) (.pair (.int .i64) (.pair (.int .i64) (.rs 109 (.pair .str (.pair (.int .i64) (.pair (.rs 5 (.int .u8)) .bool))))))) (.sl 130 B2)) (.pair (.sl 79 (.pair .str (.pair (.rs 5 (.int .u8)) F6))) (.pair (.sl 4 .bool) (.pair (.sl 113 (.pair (.int .i64) (.pair W8 (.rs 5 (.int .u8))))) (.pair (.sl 130 B2) (.sl 3 (.int .i64))))))) true]
abbrev A3q:List RK:= [.val true D4c]
def A3r(f:N5):Nat×Fn:=(110,⟨A3p,A3q,fun x=>f x.1 x.2.1⟩)
def B11:Fn:=(A3r J6).2
theorem B12(f_s_l1Once:A7R)(f_s_l1Below:U1):∀ x,(C4 cfg [B2x f_s_l1Once,A0H f_s_l1Below] B10 65 [.cell 4 77] (Tryz.f110.body.getD .skip) A3p A3q).fn x=A0B f_s_l1Once f_s_l1Below x.1 x.2.1:=by intro x;kernel_rfl
theorem B13:B3 Tryz.prog 110 B11:=sm MO B0 (tc Tryz.call84 C3C (tc Tryz.call86 A2E A6)) Tryz.func110 (by kernel_rfl) (by decide) (B12 A50 L3)
def B2G:Nat→Option Jn:=B5 [(15,⟨[.t 5 false [.own 100000000],.b 1000 [.ro 5 (.int .u8),.int .i64,.int .i64],.r 100000000 79 A9],lt 12 21 [.r 10,.r 13,.r 27,.r 31,.r 32,.r 122880,.r 126977,.t 7,.x 23],true⟩),(122,⟨[.t 5 false [.own 100000000],.t 7 false [.int .i64],.b 1000 [.ro 5 (.int .u8),.int .i64,.int .i64],.r 100000000 79 A9],lt 15 18 [.r 10,.r 27,.r 31,.r 32,.r 122880,.r 126977,.x 23],false⟩),(506,⟨[.t 9 false [.int .i64],.b 8 [.ro 9 .str,.ro 9 .str,.int .i64,.int .i64,.ro 109 (.pair .str (.pair (.int .i64) (.pair (.rs 5 (.int .u8)) .bool))),.own 100002001,.own 100002002,.own 100002003,.own 100002004,.own 100002005,.own 100002006],.b 1000 [.ro 5 (.int .u8),.int .i64,.int .i64],.r 100002001 130 B2,.r 100002002 79 (.pair .str (.pair (.rs 5 (.int .u8)) F6)),.r 100002003 4 .bool,.r 100002004 113 (.pair (.int .i64) (.pair W8 (.rs 5 (.int .u8)))),.r 100002005 130 B2,.r 100002006 3 (.int .i64)],lt 38 8 [.r 143360,.r 143361,.r 143364,.r 143365,.r 143366,.r 143367,.r 143368,.r 143369,.r 143370,.r 184322,.r 190469,.r 190470,.r 190471,.r 190472,.r 190473,.r 190474,.t 34],false⟩)]
abbrev A4d:List PK:= [.ptr (.pair (.rs 5 (.int .u8)) F6),.val false (.int .i64) false]
abbrev A4e:List RK:= [.val true (.pair (.pair (.pair (.pair (.rs 9 .str) (.rs 9 .str)) (.pair (.int .i64) (.pair (.int .i64) (.rs 109 kUp)))) (.sl 130 B2)) (.pair (.sl 79 (.pair .str (.pair (.rs 5 (.int .u8)) F6))) (.pair (.sl 4 .bool) (.pair (.sl 113 (.pair (.int .i64) (.pair W8 (.rs 5 (.int .u8))))) (.pair (.sl 130 B2) (.sl 3 (.int .i64)))))))]
def A4f(f:T9):Nat×Fn:=(68,⟨A4d,A4e,fun x=>f x.1 x.2.1⟩)
def B2H:Fn:=(A4f O4).2
theorem B2I(f_s_l1Below:U1)(f_s_l18Event_r0_0_r95_1:N5)(f_s_l18Do_W:A5y)(f_s_l1Int:B0F)(f_s_ClientNew:A2P)(f_s_l1Bytes_r0_0:A0A)(f_s_WorldNew:A6u):∀ x,(C4 cfg [A0H f_s_l1Below,A3r f_s_l18Event_r0_0_r95_1,C1y f_s_l18Do_W,B4v f_s_l1Int,B6A f_s_ClientNew,B0z f_s_l1Bytes_r0_0,A2q f_s_WorldNew] B2G 47 [.cell 4 38] (Tryz.f68.body.getD .skip) A4d A4e).fn x=A0c f_s_l1Below f_s_l18Event_r0_0_r95_1 f_s_l18Do_W f_s_l1Int f_s_ClientNew f_s_l1Bytes_r0_0 f_s_WorldNew x.1 x.2.1:=by intro x;kernel_rfl
theorem B2J:B3 Tryz.prog 68 B2H:=sm MO B0 (tc Tryz.call86 A2E (tc Tryz.call110 B13 (tc Tryz.call111 D3F (tc Tryz.call115 C6z (tc Tryz.call138 C7U (tc Tryz.call139 C16 (tc Tryz.call140 A9t A6))))))) Tryz.func68 (by kernel_rfl) (by decide) (B2I L3 J6 A3Y A58 Y8 Q6 A46)
abbrev A6e:List PK:= [.val false (.rs 5 (.int .u8)) false]
abbrev A6f:List RK:= [.val true (.pair (.pair (.pair (.pair (.rs 9 .str) (.rs 9 .str)) (.pair (.int .i64) (.pair (.int .i64) (.rs 109 kUp)))) (.sl 130 B2)) (.pair (.sl 79 (.pair .str (.pair (.rs 5 (.int .u8)) F6))) (.pair (.sl 4 .bool) (.pair (.sl 113 (.pair (.int .i64) (.pair W8 (.rs 5 (.int .u8))))) (.pair (.sl 130 B2) (.sl 3 (.int .i64)))))))]
def A6g(f:A00):Nat×Fn:=(16,⟨A6e,A6f,fun x=>f x.1⟩)
def B5f:Fn:=(A6g T6).2
theorem B5g(f_s_l1New:B5A)(f_s_l18Draw_r0_0_r99_0:T9)(f_s_l1Size:B1V):∀ x,(C4 cfg [B2r f_s_l1New,A4f f_s_l18Draw_r0_0_r99_0,C5y f_s_l1Size] (B5 []) 11 [.cell 2 38] (Tryz.f16.body.getD .skip) A6e A6f).fn x=A2K f_s_l1New f_s_l18Draw_r0_0_r99_0 f_s_l1Size x.1:=by intro x;kernel_rfl
theorem B5h:B3 Tryz.prog 16 B5f:=sm MO B0 (tc Tryz.call67 C37 (tc Tryz.call68 B2J (tc Tryz.call69 D5g A6))) Tryz.func16 (by kernel_rfl) (by decide) (B5g B0C O4 A7Y)
def D14:Nat→Option Jn:=B5 [(63,⟨[],lt 16 19 [],false⟩),(127,⟨[],lt 35 20 [.t 6,.x 45,.x 51],false⟩),(1018,⟨[.t 6 false [.int .i64]],lt 35 20 [.x 45,.x 51],false⟩)]
abbrev A77:List PK:= [.val false (.rs 5 (.int .u8)) false]
abbrev B9i:List RK:= [.val false .bool]
def D15(f:B8E):Nat×Fn:=(9,⟨A77,B9i,fun x=>f x.1⟩)
def F_w_FnRounds:Fn:=(D15 B1p).2
theorem D16(f_w_big:C3R)(f_s_DrawWorld_r99_0:A00)(f_i_Safe:B8A)(f_w_sameUps:A8o)(f_i_Settle:A5I)(f_i_Lacking:A8q)(f_i_Round:B5E)(f_s_Lacking:A8s):∀ x,(C4 cfg [D78 f_w_big,A6g f_s_DrawWorld_r99_0,D3o f_i_Safe,C2I f_w_sameUps,B7n f_i_Settle,C2O f_i_Lacking,C9F f_i_Round,C2R f_s_Lacking] D14 72 [.tmp 2] (Tryz.f9.body.getD .skip) A77 B9i).fn x=B1o f_w_big f_s_DrawWorld_r99_0 f_i_Safe f_w_sameUps f_i_Settle f_i_Lacking f_i_Round f_s_Lacking x.1:=by intro x;kernel_rfl
theorem D17:B3 Tryz.prog 9 F_w_FnRounds:=sm MO B0 (tc Tryz.call15 E29 (tc Tryz.call16 B5h (tc Tryz.call17 E0z (tc Tryz.call29 D3s (tc Tryz.call41 C6w (tc Tryz.call43 D40 (tc Tryz.call47 D8p (tc Tryz.call48 D44 A6)))))))) Tryz.func9 (by kernel_rfl) (by decide) (D16 C3S T6 B3j A61 A0b A1h B0J A3d)
end
end Go.Proofs.YtpdcljonclhhpaaGreat.Ev
