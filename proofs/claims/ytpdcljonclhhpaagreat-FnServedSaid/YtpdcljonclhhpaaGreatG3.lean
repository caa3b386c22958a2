/- Each function of the program does what its plain function says. -/
import Derived.Test.YtpdcljonclhhpaaGreatG2
import Derived.Test.YtpdcljonclhhpaaGreatFind
set_option linter.unusedVariables false
set_option maxRecDepth 100000
namespace Go.Proofs.YtpdcljonclhhpaaGreat.Ev
noncomputable section
def B52:Nat→Option Jn:=B3 [(3,⟨[],lt 9 8 [],false⟩)]
abbrev A7l:List PK:= [.ptr A6o,.val false .str false,.val false (.int .i64) false]
abbrev A7m:List RK:= [.val false (.int .i64)]
def A7n(f:A14):Nat×Fn:=(222,⟨A7l,A7m,fun x=>f x.1 x.2.1 x.2.2.1⟩)
def B53:Fn:=(A7n Y0).2
theorem B54(f_i_inRange:F7)(f_i_idOk:V7)(f_i_Store_left:K8)(f_i_Store_write_r97_0:D5)(f_i_Store_find:G3):∀ x,(C7 (cfg.withPk 276 ⟨kUp,4,f_i_Store_find⟩) [V9 f_i_inRange,A62 f_i_idOk,A0t f_i_Store_left,O2 f_i_Store_write_r97_0] B52 39 [.tmp 6] (Tryz.f222.body.getD .skip) A7l A7m).fn x=A3P f_i_inRange f_i_idOk f_i_Store_left f_i_Store_write_r97_0 f_i_Store_find x.1 x.2.1 x.2.2.1:=by intro x;kernel_rfl
theorem B55:B1 Tryz.prog 222 B53:=sm MO (A5B B2 (fun args w=>Tryz.call276 args w) Y6) (tc Tryz.call80 Y8 (tc Tryz.call147 A7k (tc Tryz.call277 A2g (tc Tryz.call278 U0 A7)))) Tryz.func222 (by kernel_rfl) (by decide) (B54 F8 T0 J5 B9 E2)
def B6T:Nat→Option Jn:=B3 [(3,⟨[],lt 12 9 [],false⟩),(15,⟨[.b 1000 [.own 215040,.own 215041,.int .i64,.int .i64,.own 215044],.r 215040 9 .str,.r 215041 9 .str,.r 215044 109 kUp],lt 27 31 [.r 1000,.r 1001,.r 1004],false⟩),(243,⟨[.t 30 false [.bool]],lt 31 18 [],true⟩),(250,⟨[.b 6 [.int .i64],.b 1000 [.own 100003000,.own 100003001,.int .i64,.int .i64,.own 100003002],.r 100003000 9 .str,.r 100003001 9 .str,.r 100003002 109 kUp],lt 60 10 [.r 215040,.r 215041,.r 215044,.r 272384,.r 272385,.r 272388,.t 11],false⟩)]
abbrev A9P:List PK:= [.ptr A6o,.val false .str false,.val false (.int .i64) false,.val false (.rs 5 (.int .u8)) false]
abbrev A9Q:List RK:= [.val false (.int .i64)]
def A9R(f:A1a):Nat×Fn:=(223,⟨A9P,A9Q,fun x=>f x.1 x.2.1 x.2.2.1 x.2.2.2.1⟩)
def B6U:Fn:=(A9R A06).2
theorem B6V(f_i_inRange:F7)(f_i_idOk:V7)(f_i_Store_left:K8)(f_i_Store_write_r97_0:D5)(f_i_Store_find:G3):∀ x,(C7 (((cfg.withPk 276 ⟨kUp,4,f_i_Store_find⟩).withCk 279 304).withPt [244]) [V9 f_i_inRange,A62 f_i_idOk,A0t f_i_Store_left,O2 f_i_Store_write_r97_0] B6T 70 [.tmp 8] (Tryz.f223.body.getD .skip) A9P A9Q).fn x=A4H f_i_inRange f_i_idOk f_i_Store_left f_i_Store_write_r97_0 f_i_Store_find x.1 x.2.1 x.2.2.1 x.2.2.2.1:=by intro x;kernel_rfl
theorem B6W:B1 Tryz.prog 223 B6U:=sm MO (C7Y (l:= [244]) (C7X (A5B B2 (fun args w=>Tryz.call276 args w) Y6) (fun args w=>Tryz.call279 args w) D1B) ⟨⟨_,Tryz.underlying244,rfl⟩,trivial⟩) (tc Tryz.call80 Y8 (tc Tryz.call147 A7k (tc Tryz.call277 A2g (tc Tryz.call278 U0 A7)))) Tryz.func223 (by kernel_rfl) (by decide) (B6V F8 T0 J5 B9 E2)
abbrev A9S:List PK:= [.ptr A3h,.val false (.int .i64) false,.val false .str false]
abbrev A9T:List RK:= [.val true U3]
def A1g(f:N2):Nat×Fn:=(224,⟨A9S,A9T,fun x=>f x.1 x.2.1 x.2.2.1⟩)
def B6X:Fn:=(A1g L0).2
theorem B6Y(f_i_Store_find:G3):∀ x,(C7 (cfg.withPk 276 ⟨kUp,4,f_i_Store_find⟩) [] (B3 []) 22 [.cell 6 126] (Tryz.f224.body.getD .skip) A9S A9T).fn x=A4I f_i_Store_find x.1 x.2.1 x.2.2.1:=by intro x;kernel_rfl
theorem A4R:B1 Tryz.prog 224 B6X:=sm MO (A5B B2 (fun args w=>Tryz.call276 args w) Y6) A7 Tryz.func224 (by kernel_rfl) (by decide) (B6Y E2)
def B56:Nat→Option Jn:=B3 [(15,⟨[.b 7 [.str,.int .i64,.any,.bool],.b 1000 [.own 100000000,.own 100000001,.int .i64,.int .i64,.own 100000002],.r 100000000 9 .str,.r 100000001 9 .str,.r 100000002 109 kUp],lt 18 25 [.r 1000,.r 1001,.r 1004,.r 169984,.r 169985,.r 169988],false⟩)]
abbrev A7o:List PK:= [.ptr A6o,.val false .str false,.val false (.int .i64) false]
abbrev A7p:List RK:= [.val false (.int .i64)]
def A7q(f:A15):Nat×Fn:=(225,⟨A7o,A7p,fun x=>f x.1 x.2.1 x.2.2.1⟩)
def B57:Fn:=(A7q Y1).2
theorem B58(f_i_idOk:V7)(f_i_Store_left:K8)(f_i_Store_write_r97_0:D5)(f_i_Crc:B1P)(f_i_Store_find:G3):∀ x,(C7 (cfg.withPk 276 ⟨kUp,4,f_i_Store_find⟩) [A62 f_i_idOk,A0t f_i_Store_left,O2 f_i_Store_write_r97_0,C1y f_i_Crc] B56 49 [.tmp 6] (Tryz.f225.body.getD .skip) A7o A7p).fn x=A3Q f_i_idOk f_i_Store_left f_i_Store_write_r97_0 f_i_Crc f_i_Store_find x.1 x.2.1 x.2.2.1:=by intro x;kernel_rfl
theorem B59:B1 Tryz.prog 225 B57:=sm MO (A5B B2 (fun args w=>Tryz.call276 args w) Y6) (tc Tryz.call147 A7k (tc Tryz.call277 A2g (tc Tryz.call278 U0 (tc Tryz.call280 C6z A7)))) Tryz.func225 (by kernel_rfl) (by decide) (B58 T0 J5 B9 A8b E2)
abbrev A7r:List PK:= [.ptr A6o,.val false .str false]
abbrev A7s:List RK:= [.val false (.int .i64)]
def A7t(f:A16):Nat×Fn:=(226,⟨A7r,A7s,fun x=>f x.1 x.2.1⟩)
def B5A:Fn:=(A7t Y2).2
theorem B5B(f_i_idOk:V7)(f_i_Store_left:K8)(f_i_Store_write_r97_0:D5)(f_i_Store_find:G3):∀ x,(C7 (cfg.withPk 276 ⟨kUp,4,f_i_Store_find⟩) [A62 f_i_idOk,A0t f_i_Store_left,O2 f_i_Store_write_r97_0] (B3 []) 24 [.tmp 4] (Tryz.f226.body.getD .skip) A7r A7s).fn x=A3R f_i_idOk f_i_Store_left f_i_Store_write_r97_0 f_i_Store_find x.1 x.2.1:=by intro x;kernel_rfl
theorem B5C:B1 Tryz.prog 226 B5A:=sm MO (A5B B2 (fun args w=>Tryz.call276 args w) Y6) (tc Tryz.call147 A7k (tc Tryz.call277 A2g (tc Tryz.call278 U0 A7))) Tryz.func226 (by kernel_rfl) (by decide) (B5B T0 J5 B9 E2)
def B6Z:Nat→Option Jn:=B3 [(115,⟨[.t 20 false [.bool]],lt 21 8 [],true⟩)]
abbrev A9U:List PK:= [.ptr A3h,.val true B1d false]
abbrev A9V:List RK:= [.val true U3]
def A9W(f:A1b):Nat×Fn:=(227,⟨A9U,A9V,fun x=>f x.1 x.2.1⟩)
def B6a:Fn:=(A9W A07).2
theorem B6b(f_i_Server_told:N2)(f_i_Store_find:G3):∀ x,(C7 (cfg.withPk 276 ⟨kUp,4,f_i_Store_find⟩) [A1g f_i_Server_told] B6Z 37 [.cell 4 126] (Tryz.f227.body.getD .skip) A9U A9V).fn x=A4J f_i_Server_told f_i_Store_find x.1 x.2.1:=by intro x;kernel_rfl
theorem B6c:B1 Tryz.prog 227 B6a:=sm MO (A5B B2 (fun args w=>Tryz.call276 args w) Y6) (tc Tryz.call224 A4R A7) Tryz.func227 (by kernel_rfl) (by decide) (B6b L0 E2)
def B31:Nat→Option Jn:=B3 [(107,⟨[.t 11 false [.bool]],[.t 12,.t 13],true⟩)]
abbrev A63:List PK:= [.ptr A3h,.val false (.int .i64) false,.val false .str false]
abbrev A64:List RK:= [.val true U3]
def A65(f:A01):Nat×Fn:=(228,⟨A63,A64,fun x=>f x.1 x.2.1 x.2.2.1⟩)
def B32:Fn:=(A65 G9).2
theorem B33(f_i_Server_told:N2):∀ x,(C7 cfg [A1g f_i_Server_told] B31 24 [.cell 6 126] (Tryz.f228.body.getD .skip) A63 A64).fn x=A1n f_i_Server_told x.1 x.2.1 x.2.2.1:=by intro x;kernel_rfl
theorem B34:B1 Tryz.prog 228 B32:=sm MO B2 (tc Tryz.call224 A4R A7) Tryz.func228 (by kernel_rfl) (by decide) (B33 L0)
def B4B:Nat→Option Jn:=B3 [(15,⟨[.t 7 false [.int .i64],.b 8 [.int .i64,.int .i64],.b 1000 [.own 100000000,.own 100000001,.int .i64,.int .i64,.own 100000002,.own 100000003],.r 100000000 9 .str,.r 100000001 9 .str,.r 100000002 109 kUp,.r 100000003 130 J7],lt 15 46 [.r 1000,.r 1001,.r 1004,.r 1005,.r 104448,.r 104449,.r 104452,.r 153600,.r 153601,.r 153604,.r 169984,.r 169985,.r 169988,.r 169989,.r 210944,.r 210945,.r 210948,.r 247808,.r 247809,.r 247812,.t 10,.t 11],false⟩)]
abbrev A6g:List PK:= [.ptr A3h,.val true B1d false,.val false (.rs 5 (.int .u8)) false]
abbrev A6h:List RK:= [.val true U3]
def A6i(f:A0W):Nat×Fn:=(156,⟨A6g,A6h,fun x=>f x.1 x.2.1 x.2.2.1⟩)
def B4C:Fn:=(A6i V8).2
theorem B4D(f_i_Store_makeUp:A14)(f_i_Store_putUp:A1a)(f_i_Server_told:N2)(f_i_Store_doneUp:A15)(f_i_Store_dropUp:A16)(f_i_Server_look:A1b)(f_i_Server_refused:A01):∀ x,(C7 cfg [A7n f_i_Store_makeUp,A9R f_i_Store_putUp,A1g f_i_Server_told,A7q f_i_Store_doneUp,A7t f_i_Store_dropUp,A9W f_i_Server_look,A65 f_i_Server_refused] B4B 69 [.cell 6 126] (Tryz.f156.body.getD .skip) A6g A6h).fn x=A2Y f_i_Store_makeUp f_i_Store_putUp f_i_Server_told f_i_Store_doneUp f_i_Store_dropUp f_i_Server_look f_i_Server_refused x.1 x.2.1 x.2.2.1:=by intro x;kernel_rfl
theorem B4E:B1 Tryz.prog 156 B4C:=sm MO B2 (tc Tryz.call222 B55 (tc Tryz.call223 B6W (tc Tryz.call224 A4R (tc Tryz.call225 B59 (tc Tryz.call226 B5C (tc Tryz.call227 B6c (tc Tryz.call228 B34 A7))))))) Tryz.func156 (by kernel_rfl) (by decide) (B4D Y0 A06 L0 Y1 Y2 A07 G9)
def B5D:Nat→Option Jn:=B3 [(3,⟨[],lt 10 11 [],false⟩)]
abbrev A7u:List PK:= [.ptr A3h,.val false (.int .i64) false,.val true B1d false,.val false (.rs 5 (.int .u8)) false]
abbrev A7v:List RK:= [.val false .bool]
def A7w(f:A17):Nat×Fn:=(88,⟨A7u,A7v,fun x=>f x.1 x.2.1 x.2.2.1 x.2.2.2.1⟩)
def B5E:Fn:=(A7w A18).2
theorem B5F(f_i_ReqOk:B1Q)(f_i_Server_answer:A0W):∀ x,(C7 cfg [C0v f_i_ReqOk,A6i f_i_Server_answer] B5D 37 [.tmp 8] (Tryz.f88.body.getD .skip) A7u A7v).fn x=A3S f_i_ReqOk f_i_Server_answer x.1 x.2.1 x.2.2.1 x.2.2.2.1:=by intro x;kernel_rfl
theorem B5G:B1 Tryz.prog 88 B5E:=sm MO B2 (tc Tryz.call79 C8N (tc Tryz.call156 B4E A7)) Tryz.func88 (by kernel_rfl) (by decide) (B5F A7I V8)
abbrev C0w:List PK:= [.val true (.pair (.pair (.pair (.rs 9 .str) (.rs 9 .str)) (.pair (.int .i64) (.pair (.int .i64) (.rs 109 kUp)))) (.rs 130 J7)) false,.val false (.int .i64) false,.val true B1d false,.val false (.rs 5 (.int .u8)) false]
abbrev C0x:List RK:= [.val true A3h,.val false .bool]
def C0y(f:B1R):Nat×Fn:=(25,⟨C0w,C0x,fun x=>f x.1 x.2.1 x.2.2.1 x.2.2.2.1⟩)
def C8P:Fn:=(C0y A5D).2
theorem C8Q(f_i_ServerOk:A13)(f_i_copyServer:A2X)(f_i_Server_serve:A17):∀ x,(C7 cfg [A95 f_i_ServerOk,B0z f_i_copyServer,A7w f_i_Server_serve] (B3 []) 24 [.cell 8 32,.tmp 9] (Tryz.f25.body.getD .skip) C0w C0x).fn x=B4c f_i_ServerOk f_i_copyServer f_i_Server_serve x.1 x.2.1 x.2.2.1 x.2.2.2.1:=by intro x;kernel_rfl
theorem C8R:B1 Tryz.prog 25 C8P:=sm MO B2 (tc Tryz.call28 B46 (tc Tryz.call87 B9Q (tc Tryz.call88 B5G A7))) Tryz.func25 (by kernel_rfl) (by decide) (C8Q R7 A0l A18)
def C2E:Nat→Option Jn:=B3 [(58,⟨[.t 5 false [.int .i64]],lt 11 15 [],false⟩)]
abbrev B4F:List PK:= [.val false (.rs 130 J7) false,.val false (.rs 130 J7) false]
abbrev B4G:List RK:= [.val false .bool]
def B4H(f:A51):Nat×Fn:=(27,⟨B4F,B4G,fun x=>f x.1 x.2.1⟩)
def C2F:Fn:=(B4H A2a).2
theorem C2G:∀ x,(C7 (cfg.withEq [(130,3)]) [] C2E 26 [.tmp 4] (Tryz.f27.body.getD .skip) B4F B4G).fn x=A8i x.1 x.2.1:=by intro x;kernel_rfl
theorem C2H:B1 Tryz.prog 27 C2F:=sm MO (C7Z (l:= [(130,3)]) B2 ⟨D2e,trivial⟩) A7 Tryz.func27 (by kernel_rfl) (by decide) (C2G)
def B9u:Nat→Option Jn:=B3 [(58,⟨[.t 5 false [.int .i64]],lt 11 15 [],false⟩)]
abbrev B2F:List PK:= [.val false (.rs 5 (.int .u8)) false,.val false (.rs 5 (.int .u8)) false]
abbrev B2G:List RK:= [.val false .bool]
def B2H(f:A1K):Nat×Fn:=(95,⟨B2F,B2G,fun x=>f x.1 x.2.1⟩)
def B9v:Fn:=(B2H A0O).2
theorem B9w:∀ x,(C7 cfg [] B9u 26 [.tmp 4] (Tryz.f95.body.getD .skip) B2F B2G).fn x=A6s x.1 x.2.1:=by intro x;kernel_rfl
theorem B9x:B1 Tryz.prog 95 B9v:=sm MO B2 A7 Tryz.func95 (by kernel_rfl) (by decide) (B9w)
def C4A:Nat→Option Jn:=B3 [(58,⟨[.t 5 false [.int .i64]],lt 11 57 [],false⟩)]
abbrev B6C:List PK:= [.val false (.rs 109 kUp) false,.val false (.rs 109 kUp) false]
abbrev B6D:List RK:= [.val false .bool]
def B6E(f:A6Q):Nat×Fn:=(29,⟨B6C,B6D,fun x=>f x.1 x.2.1⟩)
def C4B:Fn:=(B6E A44).2
theorem C4C(f_w_sameBytes:A1K):∀ x,(C7 cfg [B2H f_w_sameBytes] C4A 68 [.tmp 4] (Tryz.f29.body.getD .skip) B6C B6D).fn x=B0W f_w_sameBytes x.1 x.2.1:=by intro x;kernel_rfl
theorem C4D:B1 Tryz.prog 29 C4B:=sm MO B2 (tc Tryz.call95 B9x A7) Tryz.func29 (by kernel_rfl) (by decide) (C4C A0O)
def B6d:Nat→Option Jn:=B3 [(7,⟨[.t 3 false [.int .i64]],lt 8 20 [.t 4],true⟩),(58,⟨[.t 3 false [.int .i64],.t 4 false [.int .i64]],lt 8 20 [],false⟩),(116,⟨[],lt 8 8 [],false⟩)]
abbrev A9X:List PK:= [.val false (.rs 5 (.int .u8)) false]
abbrev A9Y:List RK:= [.new (.pair (.rs 5 (.int .u8)) U3)]
def A9Z(f:B1K):Nat×Fn:=(67,⟨A9X,A9Y,fun x=>f x.1⟩)
def B6e:Fn:=(A9Z A7D).2
theorem B6f:∀ x,(C7 cfg [] B6d 32 [.tmp 2] (Tryz.f67.body.getD .skip) A9X A9Y).fn x=B4T x.1:=by intro x;kernel_rfl
theorem B6g:B1 Tryz.prog 67 B6e:=sm MO B2 A7 Tryz.func67 (by kernel_rfl) (by decide) (B6f)
abbrev A9a:List PK:= [.ptr (.pair (.rs 5 (.int .u8)) U3)]
abbrev A9b:List RK:= [.val false (.int .i64)]
def A4S(f:A1h):Nat×Fn:=(153,⟨A9a,A9b,fun x=>f x.1⟩)
def B6h:Fn:=(A4S A0e).2
theorem B6i:∀ x,(C7 cfg [] (B3 []) 58 [.tmp 2] (Tryz.f153.body.getD .skip) A9a A9b).fn x=B2T x.1:=by intro x;kernel_rfl
theorem A9c:B1 Tryz.prog 153 B6h:=sm MO B2 A7 Tryz.func153 (by kernel_rfl) (by decide) (B6i)
abbrev A7x:List PK:= [.ptr (.pair (.rs 5 (.int .u8)) U3),.val false (.int .i64) false]
abbrev A7y:List RK:= [.val false (.int .i64)]
def D9(f:C6):Nat×Fn:=(86,⟨A7x,A7y,fun x=>f x.1 x.2.1⟩)
def B5H:Fn:=(D9 C1).2
theorem B5I(f_s_l1Byte:A1h):∀ x,(C7 cfg [A4S f_s_l1Byte] (B3 []) 31 [.tmp 4] (Tryz.f86.body.getD .skip) A7x A7y).fn x=B0O f_s_l1Byte x.1 x.2.1:=by intro x;kernel_rfl
theorem E5:B1 Tryz.prog 86 B5H:=sm MO B2 (tc Tryz.call153 A9c A7) Tryz.func86 (by kernel_rfl) (by decide) (B5I A0e)
abbrev B12:List PK:= [.ptr (.pair (.rs 5 (.int .u8)) U3),.val false (.rs 3 (.int .i64)) false]
abbrev B13:List RK:= [.val false (.int .i64)]
def M7(f:K4):Nat×Fn:=(115,⟨B12,B13,fun x=>f x.1 x.2.1⟩)
def B9V:Fn:=(M7 J9).2
theorem B9W(f_s_l1Below:C6):∀ x,(C7 cfg [D9 f_s_l1Below] (B3 []) 12 [.tmp 4] (Tryz.f115.body.getD .skip) B12 B13).fn x=B4U f_s_l1Below x.1 x.2.1:=by intro x;kernel_rfl
theorem P5:B1 Tryz.prog 115 B9V:=sm MO B2 (tc Tryz.call86 E5 A7) Tryz.func115 (by kernel_rfl) (by decide) (B9W C1)
abbrev A9d:List PK:= [.ptr (.pair (.rs 5 (.int .u8)) U3),.val false (.int .i64) false]
abbrev A9e:List RK:= [.val false .bool]
def U8(f:O8):Nat×Fn:=(84,⟨A9d,A9e,fun x=>f x.1 x.2.1⟩)
def B6j:Fn:=(U8 L4).2
theorem B6k(f_s_l1Below:C6):∀ x,(C7 cfg [D9 f_s_l1Below] (B3 []) 9 [.tmp 4] (Tryz.f84.body.getD .skip) A9d A9e).fn x=B2a f_s_l1Below x.1 x.2.1:=by intro x;kernel_rfl
theorem A0F:B1 Tryz.prog 84 B6j:=sm MO B2 (tc Tryz.call86 E5 A7) Tryz.func84 (by kernel_rfl) (by decide) (B6k C1)
def B5J:Nat→Option Jn:=B3 [(58,⟨[.t 3 false [.own 100000000],.t 4 false [.int .i64],.b 1000 [.ro 5 (.int .u8),.int .i64,.int .i64],.r 100000000 4 .bool],lt 8 9 [.r 5,.r 15,.r 16],false⟩)]
abbrev A7z:List PK:= [.ptr (.pair (.rs 5 (.int .u8)) U3)]
abbrev A80:List RK:= [.val false (.sl 4 .bool)]
def A3e(f:O9):Nat×Fn:=(219,⟨A7z,A80,fun x=>f x.1⟩)
def B5K:Fn:=(A3e M0).2
theorem B5L(f_s_l1Once:O8)(f_s_l1Below:C6):∀ x,(C7 cfg [U8 f_s_l1Once,D9 f_s_l1Below] B5J 18 [.tmp 2] (Tryz.f219.body.getD .skip) A7z A80).fn x=A3T f_s_l1Once f_s_l1Below x.1:=by intro x;kernel_rfl
theorem A81:B1 Tryz.prog 219 B5K:=sm MO B2 (tc Tryz.call84 A0F (tc Tryz.call86 E5 A7)) Tryz.func219 (by kernel_rfl) (by decide) (B5L L4 C1)
abbrev B14:List PK:= [.ptr (.pair (.rs 5 (.int .u8)) U3),.val false (.rs 9 .str) false]
abbrev B15:List RK:= [.val false .str]
def A0u(f:A0M):Nat×Fn:=(151,⟨B14,B15,fun x=>f x.1 x.2.1⟩)
def B9X:Fn:=(A0u X9).2
theorem B9Y(f_s_l1Below:C6):∀ x,(C7 cfg [D9 f_s_l1Below] (B3 []) 12 [.tmp 4] (Tryz.f151.body.getD .skip) B14 B15).fn x=B4Z f_s_l1Below x.1 x.2.1:=by intro x;kernel_rfl
theorem A2h:B1 Tryz.prog 151 B9X:=sm MO B2 (tc Tryz.call86 E5 A7) Tryz.func151 (by kernel_rfl) (by decide) (B9Y C1)
abbrev A9f:List PK:= [.ptr (.pair (.rs 5 (.int .u8)) U3)]
abbrev A9g:List RK:= [.val true B1d]
def A4T(f:A3L):Nat×Fn:=(150,⟨A9f,A9g,fun x=>f x.1⟩)
def B6l:Fn:=(A4T Z8).2
theorem B6m(f_s_l1Once:O8)(f_s_l1Below:C6)(f_s_l1Int:K4)(f_s_l1Str:A0M)(f_s_l11Most:A20):∀ x,(C7 cfg [U8 f_s_l1Once,D9 f_s_l1Below,M7 f_s_l1Int,A0u f_s_l1Str,B0u f_s_l11Most] (B3 []) 28 [.cell 2 43] (Tryz.f150.body.getD .skip) A9f A9g).fn x=A8T f_s_l1Once f_s_l1Below f_s_l1Int f_s_l1Str f_s_l11Most x.1:=by intro x;kernel_rfl
theorem A9h:B1 Tryz.prog 150 B6l:=sm MO B2 (tc Tryz.call84 A0F (tc Tryz.call86 E5 (tc Tryz.call115 P5 (tc Tryz.call151 A2h (tc Tryz.call161 B5v A7))))) Tryz.func150 (by kernel_rfl) (by decide) (B6m L4 C1 J9 X9 S3)
def B5M:Nat→Option Jn:=B3 [(58,⟨[.t 5 false [.own 100000000],.t 6 false [.int .i64],.b 1000 [.ro 5 (.int .u8),.int .i64,.int .i64],.r 100000000 5 (.int .u8)],lt 8 11 [.r 7,.r 17,.r 18],false⟩)]
abbrev A82:List PK:= [.ptr (.pair (.rs 5 (.int .u8)) U3),.val false (.int .i64) false]
abbrev A83:List RK:= [.val false (.sl 5 (.int .u8))]
def A3f(f:S8):Nat×Fn:=(139,⟨A82,A83,fun x=>f x.1 x.2.1⟩)
def B5N:Fn:=(A3f H8).2
theorem B5O(f_s_l1Byte:A1h):∀ x,(C7 cfg [A4S f_s_l1Byte] B5M 20 [.tmp 4] (Tryz.f139.body.getD .skip) A82 A83).fn x=A3U f_s_l1Byte x.1 x.2.1:=by intro x;kernel_rfl
theorem A84:B1 Tryz.prog 139 B5N:=sm MO B2 (tc Tryz.call153 A9c A7) Tryz.func139 (by kernel_rfl) (by decide) (B5O A0e)
def B6n:Nat→Option Jn:=B3 [(32443,⟨[.t 61 false [.bool],.b 1000 [.ro 5 (.int .u8),.int .i64,.int .i64]],lt 52 9 [],true⟩)]
abbrev A9i:List PK:= [.ptr (.pair (.rs 5 (.int .u8)) U3),.val true (.pair (.pair (.rs 9 .str) (.rs 9 .str)) (.pair (.int .i64) (.pair (.int .i64) (.rs 109 kUp)))) false]
abbrev A9j:List RK:= [.val true B1d,.val false (.sl 5 (.int .u8))]
def A4U(f:Q9):Nat×Fn:=(83,⟨A9i,A9j,fun x=>f x.1 x.2.1⟩)
def B6o:Fn:=(A4U H4).2
theorem B6p(f_s_l1Once:O8)(f_s_UpAt:A1G)(f_s_l1Int:K4)(f_s_l1Bytes_r0_0:S8)(f_s_l11Req:A3L)(f_s_l1Str:A0M)(f_s_Crc:A3i):∀ x,(C7 cfg [U8 f_s_l1Once,B0v f_s_UpAt,M7 f_s_l1Int,A3f f_s_l1Bytes_r0_0,A4T f_s_l11Req,A0u f_s_l1Str,B3f f_s_Crc] B6n 84 [.cell 4 43,.tmp 5] (Tryz.f83.body.getD .skip) A9i A9j).fn x=A1d f_s_l1Once f_s_UpAt f_s_l1Int f_s_l1Bytes_r0_0 f_s_l11Req f_s_l1Str f_s_Crc x.1 x.2.1:=by intro x;kernel_rfl
theorem A9k:B1 Tryz.prog 83 B6o:=sm MO B2 (tc Tryz.call84 A0F (tc Tryz.call113 B3l (tc Tryz.call115 P5 (tc Tryz.call139 A84 (tc Tryz.call150 A9h (tc Tryz.call151 A2h (tc Tryz.call152 B7D A7))))))) Tryz.func83 (by kernel_rfl) (by decide) (B6p L4 P3 J9 H8 Z8 X9 A2K)
def A96:Nat→Option Jn:=B3 [(58,⟨[.t 6 false [.int .i64],.b 5 [.own 100000000,.own 100000001,.int .i64,.int .i64,.own 100000002,.own 100000003],.b 1000 [.ro 5 (.int .u8),.int .i64,.int .i64],.r 100000000 9 .str,.r 100000001 9 .str,.r 100000002 109 (.pair .str (.pair (.int .i64) (.pair (.rs 5 (.int .u8)) .bool))),.r 100000003 130 J7],lt 18 40 (lt 7 4 [.b 7,.b 9,.r 61440,.r 61441,.r 61444,.r 61445,.r 118912,.r 155648,.r 155649,.r 155652,.r 155653,.r 184320,.r 184321,.r 184324,.r 184325,.r 184448,.r 217088,.r 221184,.r 221185,.r 221188,.r 221189,.t 14]),false⟩)]
abbrev A2i:List PK:= [.ptr (.pair (.rs 5 (.int .u8)) U3),.val false (.int .i64) false]
abbrev A2j:List RK:= [.val true (.pair (.pair U2 (.pair (.int .i64) (.pair (.int .i64) (.sl 109 (.pair .str (.pair (.int .i64) (.pair (.rs 5 (.int .u8)) .bool))))))) (.sl 130 J7))]
def A2k(f:R8):Nat×Fn:=(148,⟨A2i,A2j,fun x=>f x.1 x.2.1⟩)
def A97:Fn:=(A2k M3).2
theorem A98(f_s_Serve_r98_0:Q7)(f_s_l15Req_r0_0:Q9)(f_s_l1Below:C6)(f_s_l1Int:K4)(f_s_ServerNew_r98_0:X3)(f_s_SyncAll_r98_0:V6)(f_s_CrashServer_r92_0_r98_0:I4)(f_s_l12Kept_r0_0:O9):∀ x,(C7 A54 [A4N f_s_Serve_r98_0,A4U f_s_l15Req_r0_0,D9 f_s_l1Below,M7 f_s_l1Int,A4k f_s_ServerNew_r98_0,A6f f_s_SyncAll_r98_0,A0Z f_s_CrashServer_r92_0_r98_0,A3e f_s_l12Kept_r0_0] A96 59 [.cell 4 32] (Tryz.f148.body.getD .skip) A2i A2j).fn x=A02 f_s_Serve_r98_0 f_s_l15Req_r0_0 f_s_l1Below f_s_l1Int f_s_ServerNew_r98_0 f_s_SyncAll_r98_0 f_s_CrashServer_r92_0_r98_0 f_s_l12Kept_r0_0 x.1 x.2.1:=by intro x;kernel_rfl
theorem A99:B1 Tryz.prog 148 A97:=sm MO M6 (tc Tryz.call26 A9L (tc Tryz.call83 A9k (tc Tryz.call86 E5 (tc Tryz.call115 P5 (tc Tryz.call216 B1l (tc Tryz.call217 B3x (tc Tryz.call218 A58 (tc Tryz.call219 A81 A7)))))))) Tryz.func148 (by kernel_rfl) (by decide) (A98 H2 H4 C1 J9 R2 Q0 F2 M0)
def A4V:Nat→Option Jn:=B3 [(58,⟨[.t 29 false [.bool]],[.t 30,.t 31],true⟩),(235,⟨[.t 41 false [.bool]],lt 42 4 [],true⟩),(3771,⟨[.t 8 false [.int .i64],.b 1000 [.ro 5 (.int .u8),.int .i64,.int .i64]],lt 55 22 [],true⟩),(15103,⟨[.t 116 false [.bool]],[.t 117,.t 118],true⟩)]
abbrev A0G:List PK:= [.ptr (.pair (.rs 5 (.int .u8)) U3),.val true (.pair U2 (.pair (.int .i64) (.pair (.int .i64) (.sl 109 (.pair .str (.pair (.int .i64) (.pair (.rs 5 (.int .u8)) .bool))))))) false]
abbrev A0H:List RK:= [.val true (.pair U2 (.pair (.int .i64) (.pair (.int .i64) (.sl 109 (.pair .str (.pair (.int .i64) (.pair (.rs 5 (.int .u8)) .bool)))))))]
def A0I(f:H5):Nat×Fn:=(274,⟨A0G,A0H,fun x=>f x.1 x.2.1⟩)
def A4W:Fn:=(A0I E4).2
theorem A4X(f_s_l1Once:O8)(f_s_l1Below:C6)(f_s_UpAt:A1G)(f_s_l1Int:K4)(f_s_l1Bytes_r0_0:S8)(f_s_l1Str:A0M)(f_s_Crc:A3i)(f_s_MakeUp_r98_0:S5)(f_s_PutUp_r98_0:U7)(f_s_DoneUp_r98_0:S6)(f_s_DropUp_r98_0:S7)(f_s_l12Kept_r0_0:O9)(f_s_OpenStore_r98_0:M9)(f_s_FallDisk:A12)(f_s_SyncStore:A0N):∀ x,(C7 A54 [U8 f_s_l1Once,D9 f_s_l1Below,B0v f_s_UpAt,M7 f_s_l1Int,A3f f_s_l1Bytes_r0_0,A0u f_s_l1Str,B3f f_s_Crc,A3b f_s_MakeUp_r98_0,A4M f_s_PutUp_r98_0,A3c f_s_DoneUp_r98_0,A3d f_s_DropUp_r98_0,A3e f_s_l12Kept_r0_0,A1D f_s_OpenStore_r98_0,A94 f_s_FallDisk,A1C f_s_SyncStore] A4V 122 [.cell 4 29] (Tryz.f274.body.getD .skip) A0G A0H).fn x=R0 f_s_l1Once f_s_l1Below f_s_UpAt f_s_l1Int f_s_l1Bytes_r0_0 f_s_l1Str f_s_Crc f_s_MakeUp_r98_0 f_s_PutUp_r98_0 f_s_DoneUp_r98_0 f_s_DropUp_r98_0 f_s_l12Kept_r0_0 f_s_OpenStore_r98_0 f_s_FallDisk f_s_SyncStore x.1 x.2.1:=by intro x;kernel_rfl
theorem A4Y:B1 Tryz.prog 274 A4W:=sm MO M6 (tc Tryz.call84 A0F (tc Tryz.call86 E5 (tc Tryz.call113 B3l (tc Tryz.call115 P5 (tc Tryz.call139 A84 (tc Tryz.call151 A2h (tc Tryz.call152 B7D (tc Tryz.call162 A7X (tc Tryz.call163 A9I (tc Tryz.call164 A7a (tc Tryz.call165 A7d (tc Tryz.call219 A81 (tc Tryz.call257 A4h (tc Tryz.call258 B3u (tc Tryz.call273 A4e A7))))))))))))))) Tryz.func274 (by kernel_rfl) (by decide) (A4X L4 C1 P3 J9 H8 X9 A2K O5 Q6 O6 O7 M0 F9 V5 W5)
def A9A:Nat→Option Jn:=B3 [(58,⟨[.t 6 false [.int .i64],.b 5 [.own 100000000,.own 100000001,.int .i64,.int .i64,.own 100000002],.b 1000 [.ro 5 (.int .u8),.int .i64,.int .i64],.r 100000000 9 .str,.r 100000001 9 .str,.r 100000002 109 (.pair .str (.pair (.int .i64) (.pair (.rs 5 (.int .u8)) .bool)))],lt 14 7 [.r 45056,.r 45057,.r 45060,.r 86016,.r 86017,.r 86020],false⟩)]
abbrev A2l:List PK:= [.ptr (.pair (.rs 5 (.int .u8)) U3),.val false (.int .i64) false]
abbrev A2m:List RK:= [.val true (.pair U2 (.pair (.int .i64) (.pair (.int .i64) (.sl 109 (.pair .str (.pair (.int .i64) (.pair (.rs 5 (.int .u8)) .bool)))))))]
def A2n(f:R9):Nat×Fn:=(220,⟨A2l,A2m,fun x=>f x.1 x.2.1⟩)
def A9B:Fn:=(A2n M4).2
theorem A9C(f_s_l1Below:C6)(f_s_l1Int:K4)(f_s_StoreNew:A11)(f_s_l14Some_r0_0_r94_0_r98_0:H5):∀ x,(C7 A54 [D9 f_s_l1Below,M7 f_s_l1Int,A1s f_s_StoreNew,A0I f_s_l14Some_r0_0_r94_0_r98_0] A9A 22 [.cell 4 29] (Tryz.f220.body.getD .skip) A2l A2m).fn x=A03 f_s_l1Below f_s_l1Int f_s_StoreNew f_s_l14Some_r0_0_r94_0_r98_0 x.1 x.2.1:=by intro x;kernel_rfl
theorem A9D:B1 Tryz.prog 220 A9B:=sm MO M6 (tc Tryz.call86 E5 (tc Tryz.call115 P5 (tc Tryz.call272 A61 (tc Tryz.call274 A4Y A7)))) Tryz.func220 (by kernel_rfl) (by decide) (A9C C1 J9 Z9 E4)
abbrev A35:List PK:= [.ptr (.pair (.rs 5 (.int .u8)) U3),.val false (.int .i64) false]
abbrev A36:List RK:= [.val true (.pair U2 (.pair (.int .i64) (.pair (.int .i64) (.sl 109 (.pair .str (.pair (.int .i64) (.pair (.rs 5 (.int .u8)) .bool)))))))]
def A37(f:T8):Nat×Fn:=(149,⟨A35,A36,fun x=>f x.1 x.2.1⟩)
def A9x:Fn:=(A37 N9).2
theorem A9y(f_s_l1Below:C6)(f_s_l1Int:K4)(f_s_l14Draw_r0_0_r98_0:R9):∀ x,(C7 A54 [D9 f_s_l1Below,M7 f_s_l1Int,A2n f_s_l14Draw_r0_0_r98_0] (B3 []) 43 [.cell 4 29] (Tryz.f149.body.getD .skip) A35 A36).fn x=A0S f_s_l1Below f_s_l1Int f_s_l14Draw_r0_0_r98_0 x.1 x.2.1:=by intro x;kernel_rfl
theorem A9z:B1 Tryz.prog 149 A9x:=sm MO M6 (tc Tryz.call86 E5 (tc Tryz.call115 P5 (tc Tryz.call220 A9D A7))) Tryz.func149 (by kernel_rfl) (by decide) (A9y C1 J9 M4)
abbrev A38:List PK:= [.ptr (.pair (.rs 5 (.int .u8)) U3),.val false (.int .i64) false]
abbrev A39:List RK:= [.val true (.pair (.pair U2 (.pair (.int .i64) (.pair (.int .i64) (.sl 109 (.pair .str (.pair (.int .i64) (.pair (.rs 5 (.int .u8)) .bool))))))) (.sl 130 J7))]
def A3A(f:T9):Nat×Fn:=(82,⟨A38,A39,fun x=>f x.1 x.2.1⟩)
def B00:Fn:=(A3A O0).2
theorem B01(f_s_l1Below:C6)(f_s_l1Int:K4)(f_s_l15Draw_r0_0_r98_0:R8)(f_s_l14Any_r0_0_r98_0:T8):∀ x,(C7 A54 [D9 f_s_l1Below,M7 f_s_l1Int,A2k f_s_l15Draw_r0_0_r98_0,A37 f_s_l14Any_r0_0_r98_0] (B3 []) 29 [.cell 4 32] (Tryz.f82.body.getD .skip) A38 A39).fn x=A0T f_s_l1Below f_s_l1Int f_s_l15Draw_r0_0_r98_0 f_s_l14Any_r0_0_r98_0 x.1 x.2.1:=by intro x;kernel_rfl
theorem B02:B1 Tryz.prog 82 B00:=sm MO M6 (tc Tryz.call86 E5 (tc Tryz.call115 P5 (tc Tryz.call148 A99 (tc Tryz.call149 A9z A7)))) Tryz.func82 (by kernel_rfl) (by decide) (B01 C1 J9 M3 N9)
abbrev A9l:List PK:= [.ptr (.pair (.rs 5 (.int .u8)) U3)]
abbrev A9m:List RK:= [.val true B1d]
def A9n(f:A8W):Nat×Fn:=(85,⟨A9l,A9m,fun x=>f x.1⟩)
def B6q:Fn:=(A9n A5a).2
theorem B6r(f_s_l1Below:C6)(f_s_l1Int:K4)(f_s_l11Req:A3L)(f_s_l1Str:A0M):∀ x,(C7 cfg [D9 f_s_l1Below,M7 f_s_l1Int,A4T f_s_l11Req,A0u f_s_l1Str] (B3 []) 27 [.cell 2 43] (Tryz.f85.body.getD .skip) A9l A9m).fn x=B2b f_s_l1Below f_s_l1Int f_s_l11Req f_s_l1Str x.1:=by intro x;kernel_rfl
theorem B6s:B1 Tryz.prog 85 B6q:=sm MO B2 (tc Tryz.call86 E5 (tc Tryz.call115 P5 (tc Tryz.call150 A9h (tc Tryz.call151 A2h A7)))) Tryz.func85 (by kernel_rfl) (by decide) (B6r C1 J9 Z8 X9)
def B1q:Nat→Option Jn:=B3 [(31,⟨[.b 8 [.int .i64,.str,.int .i64],.b 49152 [.ro 5 (.int .u8),.int .i64,.int .i64]],lt 23 4 [],true⟩)]
abbrev A4o:List PK:= [.val false (.rs 5 (.int .u8)) false]
abbrev A4p:List RK:= [.val true (.pair (.pair (.pair (.rs 9 .str) (.rs 9 .str)) (.pair (.int .i64) (.pair (.int .i64) (.rs 109 kUp)))) (.sl 130 J7)),.val false (.int .i64),.val true B1d,.val false (.sl 5 (.int .u8))]
def A4q(f:X5):Nat×Fn:=(24,⟨A4o,A4p,fun x=>f x.1⟩)
def B1r:Fn:=(A4q R4).2
theorem B1s(f_s_l1New:B1K)(f_s_l1Size:A8M)(f_s_l15Any_r0_0_r98_0:T9)(f_s_l15Req_r0_0:Q9)(f_s_l1Once:O8)(f_s_l11Any:A8W)(f_s_l1Below:C6):∀ x,(C7 cfg [A9Z f_s_l1New,B8Y f_s_l1Size,A3A f_s_l15Any_r0_0_r98_0,A4U f_s_l15Req_r0_0,U8 f_s_l1Once,A9n f_s_l11Any,D9 f_s_l1Below] B1q 32 [.cell 2 32,.tmp 3,.cell 4 43,.tmp 5] (Tryz.f24.body.getD .skip) A4o A4p).fn x=A1B f_s_l1New f_s_l1Size f_s_l15Any_r0_0_r98_0 f_s_l15Req_r0_0 f_s_l1Once f_s_l11Any f_s_l1Below x.1:=by intro x;kernel_rfl
theorem B1t:B1 Tryz.prog 24 B1r:=sm MO B2 (tc Tryz.call67 B6g (tc Tryz.call69 C5P (tc Tryz.call82 B02 (tc Tryz.call83 A9k (tc Tryz.call84 A0F (tc Tryz.call85 B6s (tc Tryz.call86 E5 A7))))))) Tryz.func24 (by kernel_rfl) (by decide) (B1s A7D A5V O0 H4 L4 A5a C1)
def C2I:Nat→Option Jn:=B3 [(63,⟨[],lt 36 7 [],false⟩),(126,⟨[.t 42 false [.bool]],lt 36 6 [],true⟩),(127,⟨[],lt 53 21 [],false⟩)]
abbrev A59:List PK:= [.val false (.rs 5 (.int .u8)) false]
abbrev B4I:List RK:= [.val false .bool]
def C2J(f:B3P):Nat×Fn:=(4,⟨A59,B4I,fun x=>f x.1⟩)
def F_w_FnServed:Fn:=(C2J A8k).2
theorem C2K(f_w_big:B78)(f_s_DrawServe_r99_0:X5)(f_i_Serve:B1R)(f_s_Serve_r98_0:Q7)(f_w_sameHeld:A51)(f_i_ServerOk:A13)(f_w_sameUps:A6Q):∀ x,(C7 cfg [C6u f_w_big,A4q f_s_DrawServe_r99_0,C0y f_i_Serve,A4N f_s_Serve_r98_0,B4H f_w_sameHeld,A95 f_i_ServerOk,B6E f_w_sameUps] C2I 100 [.tmp 2] (Tryz.f4.body.getD .skip) A59 B4I).fn x=A8j f_w_big f_s_DrawServe_r99_0 f_i_Serve f_s_Serve_r98_0 f_w_sameHeld f_i_ServerOk f_w_sameUps x.1:=by intro x;kernel_rfl
theorem C2L:B1 Tryz.prog 4 F_w_FnServed:=sm MO B2 (tc Tryz.call15 D1E (tc Tryz.call24 B1t (tc Tryz.call25 C8R (tc Tryz.call26 A9L (tc Tryz.call27 C2H (tc Tryz.call28 B46 (tc Tryz.call29 C4D A7))))))) Tryz.func4 (by kernel_rfl) (by decide) (C2K B79 R4 A5D H2 A2a R7 A44)
end
end Go.Proofs.YtpdcljonclhhpaaGreat.Ev
