/- Each function of the program does what its plain function says. -/
import Derived.Test.YtfnmpcbehimkgaaG2
import Derived.Test.YtfnmpcbehimkgaaFind
set_option linter.unusedVariables false
set_option maxRecDepth 100000
namespace Go.Proofs.Ytfnmpcbehimkgaa.Ev
noncomputable section
def B0y:Nat→Option Jn:=B6 [(3,⟨[],lt 9 8 [],false⟩)]
abbrev A53:List PK:= [.ptr A5W,.val false .str false,.val false (.int .i64) false]
abbrev A54:List RK:= [.val false (.int .i64)]
def A55(f:Y6):Nat×Fn:=(29,⟨A53,A54,fun x=>f x.1 x.2.1 x.2.2.1⟩)
def B0z:Fn:=(A55 Q6).2
theorem B10(f_i_idOk:A22)(f_i_inRange:K0)(f_i_Store_left:Q5)(f_i_Store_write_r97_0:H6)(f_i_Store_find:W6):∀ x,(D5 (cfg.withPk 57 ⟨kUp,4,f_i_Store_find⟩) [B08 f_i_idOk,A0e f_i_inRange,A3c f_i_Store_left,V1 f_i_Store_write_r97_0] B0y 39 [.tmp 6] (Try.f29.body.getD .skip) A53 A54).fn x=A1Y f_i_idOk f_i_inRange f_i_Store_left f_i_Store_write_r97_0 f_i_Store_find x.1 x.2.1 x.2.2.1:=by intro x;kernel_rfl
theorem B11:B3 Try.prog 29 B0z:=sm MO (B5U B4 (fun args w=>Try.call57 args w) A7V) (tc Try.call55 B43 (tc Try.call56 A2B (tc Try.call58 A7U (tc Try.call59 A1I A8)))) Try.func29 (by kernel_rfl) (by decide) (B10 A0o K1 N7 E2 N8)
abbrev B4R:List PK:= [.val true (.pair (.pair (.rs 9 .str) (.rs 9 .str)) (.pair (.int .i64) (.pair (.int .i64) (.rs 36 kUp)))) false,.val false .str false,.val false (.int .i64) false]
abbrev B4S:List RK:= [.val true A5W,.val false (.int .i64)]
def B4T(f:A5o):Nat×Fn:=(7,⟨B4R,B4S,fun x=>f x.1 x.2.1 x.2.2.1⟩)
def C0V:Fn:=(B4T W7).2
theorem C0W(f_i_StoreOk:R5)(f_i_copyStore:U7)(f_i_Store_makeUp:Y6):∀ x,(D5 cfg [A48 f_i_StoreOk,A4S f_i_copyStore,A55 f_i_Store_makeUp] (B6 []) 21 [.cell 6 29,.tmp 7] (Try.f7.body.getD .skip) B4R B4S).fn x=A3J f_i_StoreOk f_i_copyStore f_i_Store_makeUp x.1 x.2.1 x.2.2.1:=by intro x;kernel_rfl
theorem C0X:B3 Try.prog 7 C0V:=sm MO B4 (tc Try.call12 A7R (tc Try.call28 A8c (tc Try.call29 B11 A8))) Try.func7 (by kernel_rfl) (by decide) (C0W K2 P3 Q6)
def B4z:Nat→Option Jn:=B6 [(58,⟨[.t 5 false [.int .i64]],lt 11 15 [],false⟩)]
abbrev A8d:List PK:= [.val false (.rs 5 (.int .u8)) false,.val false (.rs 5 (.int .u8)) false]
abbrev A8e:List RK:= [.val false .bool]
def A8f(f:Z7):Nat×Fn:=(16,⟨A8d,A8e,fun x=>f x.1 x.2.1⟩)
def B50:Fn:=(A8f U8).2
theorem B51:∀ x,(D5 cfg [] B4z 26 [.tmp 4] (Try.f16.body.getD .skip) A8d A8e).fn x=A4I x.1 x.2.1:=by intro x;kernel_rfl
theorem B52:B3 Try.prog 16 B50:=sm MO B4 A8 Try.func16 (by kernel_rfl) (by decide) (B51)
def B8e:Nat→Option Jn:=B6 [(58,⟨[.t 5 false [.int .i64]],lt 11 57 [],false⟩)]
abbrev B1q:List PK:= [.val false (.rs 36 kUp) false,.val false (.rs 36 kUp) false]
abbrev B1r:List RK:= [.val false .bool]
def B1s(f:A3w):Nat×Fn:=(9,⟨B1q,B1r,fun x=>f x.1 x.2.1⟩)
def B8f:Fn:=(B1s A0V).2
theorem B8g(f_w_sameBytes:Z7):∀ x,(D5 cfg [A8f f_w_sameBytes] B8e 68 [.tmp 4] (Try.f9.body.getD .skip) B1q B1r).fn x=A72 f_w_sameBytes x.1 x.2.1:=by intro x;kernel_rfl
theorem B8h:B3 Try.prog 9 B8f:=sm MO B4 (tc Try.call16 B52 A8) Try.func9 (by kernel_rfl) (by decide) (B8g U8)
def C4V:Nat→Option Jn:=B6 [(3,⟨[],lt 7 12 [.b 7,.t 21],false⟩),(26,⟨[.t 11 false [.int .i64]],lt 12 7 [.b 7,.t 7,.t 21],false⟩)]
abbrev B8i:List PK:= [.val true (.pair (.pair (.rs 9 .str) (.rs 9 .str)) (.pair (.int .i64) (.pair (.int .i64) (.rs 36 kUp)))) false,.val false .str false]
abbrev B8j:List RK:= [.val true kUp,.val false .bool]
def B8k(f:A9i):Nat×Fn:=(10,⟨B8i,B8j,fun x=>f x.1 x.2.1⟩)
def C4W:Fn:=(B8k A3L).2
theorem C4X(f_i_copyUp:W5):∀ x,(D5 cfg [A9K f_i_copyUp] C4V 23 [.cell 4 36,.tmp 5] (Try.f10.body.getD .skip) B8i B8j).fn x=B3B f_i_copyUp x.1 x.2.1:=by intro x;kernel_rfl
theorem C4Y:B3 Try.prog 10 C4W:=sm MO B4 (tc Try.call37 B4M A8) Try.func10 (by kernel_rfl) (by decide) (C4X M4)
abbrev A56:List PK:= [.ptr A5W,.val false .str false]
abbrev A57:List RK:= [.val false (.int .i64)]
def A58(f:Y7):Nat×Fn:=(38,⟨A56,A57,fun x=>f x.1 x.2.1⟩)
def B12:Fn:=(A58 Q7).2
theorem B13(f_i_idOk:A22)(f_i_Store_left:Q5)(f_i_Store_write_r97_0:H6)(f_i_Store_find:W6):∀ x,(D5 (cfg.withPk 57 ⟨kUp,4,f_i_Store_find⟩) [B08 f_i_idOk,A3c f_i_Store_left,V1 f_i_Store_write_r97_0] (B6 []) 24 [.tmp 4] (Try.f38.body.getD .skip) A56 A57).fn x=A1Z f_i_idOk f_i_Store_left f_i_Store_write_r97_0 f_i_Store_find x.1 x.2.1:=by intro x;kernel_rfl
theorem B14:B3 Try.prog 38 B12:=sm MO (B5U B4 (fun args w=>Try.call57 args w) A7V) (tc Try.call55 B43 (tc Try.call58 A7U (tc Try.call59 A1I A8))) Try.func38 (by kernel_rfl) (by decide) (B13 A0o N7 E2 N8)
abbrev B4U:List PK:= [.val true (.pair (.pair (.rs 9 .str) (.rs 9 .str)) (.pair (.int .i64) (.pair (.int .i64) (.rs 36 kUp)))) false,.val false .str false]
abbrev B4V:List RK:= [.val true A5W,.val false (.int .i64)]
def B4W(f:A5p):Nat×Fn:=(11,⟨B4U,B4V,fun x=>f x.1 x.2.1⟩)
def C0Y:Fn:=(B4W A3M).2
theorem C0Z(f_i_StoreOk:R5)(f_i_copyStore:U7)(f_i_Store_dropUp:Y7):∀ x,(D5 cfg [A48 f_i_StoreOk,A4S f_i_copyStore,A58 f_i_Store_dropUp] (B6 []) 18 [.cell 4 29,.tmp 5] (Try.f11.body.getD .skip) B4U B4V).fn x=A92 f_i_StoreOk f_i_copyStore f_i_Store_dropUp x.1 x.2.1:=by intro x;kernel_rfl
theorem C0a:B3 Try.prog 11 C0Y:=sm MO B4 (tc Try.call12 A7R (tc Try.call28 A8c (tc Try.call38 B14 A8))) Try.func11 (by kernel_rfl) (by decide) (C0Z K2 P3 Q7)
def B21:Nat→Option Jn:=B6 [(7,⟨[.t 3 false [.int .i64]],lt 8 20 [.t 4],true⟩),(58,⟨[.t 3 false [.int .i64],.t 4 false [.int .i64]],lt 8 20 [],false⟩),(116,⟨[],lt 8 8 [],false⟩)]
abbrev A6F:List PK:= [.val false (.rs 5 (.int .u8)) false]
abbrev A6G:List RK:= [.new (.pair (.rs 5 (.int .u8)) (.pair (.int .i64) (.int .i64)))]
def A6H(f:A80):Nat×Fn:=(19,⟨A6F,A6G,fun x=>f x.1⟩)
def B22:Fn:=(A6H A4h).2
theorem B23:∀ x,(D5 cfg [] B21 32 [.tmp 2] (Try.f19.body.getD .skip) A6F A6G).fn x=B0X x.1:=by intro x;kernel_rfl
theorem B24:B3 Try.prog 19 B22:=sm MO B4 A8 Try.func19 (by kernel_rfl) (by decide) (B23)
abbrev A6I:List PK:= [.ptr (.pair (.rs 5 (.int .u8)) (.pair (.int .i64) (.int .i64)))]
abbrev A6J:List RK:= [.val false (.int .i64)]
def A2L(f:A0I):Nat×Fn:=(52,⟨A6I,A6J,fun x=>f x.1⟩)
def B25:Fn:=(A2L V9).2
theorem B26:∀ x,(D5 cfg [] (B6 []) 58 [.tmp 2] (Try.f52.body.getD .skip) A6I A6J).fn x=A8t x.1:=by intro x;kernel_rfl
theorem A6K:B3 Try.prog 52 B25:=sm MO B4 A8 Try.func52 (by kernel_rfl) (by decide) (B26)
abbrev A59:List PK:= [.ptr (.pair (.rs 5 (.int .u8)) (.pair (.int .i64) (.int .i64))),.val false (.int .i64) false]
abbrev A5A:List RK:= [.val false (.int .i64)]
def H4(f:D8):Nat×Fn:=(24,⟨A59,A5A,fun x=>f x.1 x.2.1⟩)
def B15:Fn:=(H4 D0).2
theorem B16(f_s_l1Byte:A0I):∀ x,(D5 cfg [A2L f_s_l1Byte] (B6 []) 31 [.tmp 4] (Try.f24.body.getD .skip) A59 A5A).fn x=A6x f_s_l1Byte x.1 x.2.1:=by intro x;kernel_rfl
theorem I9:B3 Try.prog 24 B15:=sm MO B4 (tc Try.call52 A6K A8) Try.func24 (by kernel_rfl) (by decide) (B16 V9)
abbrev A7W:List PK:= [.ptr (.pair (.rs 5 (.int .u8)) (.pair (.int .i64) (.int .i64))),.val false (.rs 3 (.int .i64)) false]
abbrev A7X:List RK:= [.val false (.int .i64)]
def X5(f:U6):Nat×Fn:=(27,⟨A7W,A7X,fun x=>f x.1 x.2.1⟩)
def B4X:Fn:=(X5 Q2).2
theorem B4Y(f_s_l1Below:D8):∀ x,(D5 cfg [H4 f_s_l1Below] (B6 []) 12 [.tmp 4] (Try.f27.body.getD .skip) A7W A7X).fn x=B0Y f_s_l1Below x.1 x.2.1:=by intro x;kernel_rfl
theorem A11:B3 Try.prog 27 B4X:=sm MO B4 (tc Try.call24 I9 A8) Try.func27 (by kernel_rfl) (by decide) (B4Y D0)
abbrev A7Y:List PK:= [.ptr (.pair (.rs 5 (.int .u8)) (.pair (.int .i64) (.int .i64))),.val false (.rs 9 .str) false]
abbrev A7Z:List RK:= [.val false .str]
def A3d(f:A2p):Nat×Fn:=(53,⟨A7Y,A7Z,fun x=>f x.1 x.2.1⟩)
def B4Z:Fn:=(A3d A1T).2
theorem B4a(f_s_l1Below:D8):∀ x,(D5 cfg [H4 f_s_l1Below] (B6 []) 12 [.tmp 4] (Try.f53.body.getD .skip) A7Y A7Z).fn x=B0Z f_s_l1Below x.1 x.2.1:=by intro x;kernel_rfl
theorem A7a:B3 Try.prog 53 B4Z:=sm MO B4 (tc Try.call24 I9 A8) Try.func53 (by kernel_rfl) (by decide) (B4a D0)
abbrev A6L:List PK:= [.ptr (.pair (.rs 5 (.int .u8)) (.pair (.int .i64) (.int .i64))),.val false (.int .i64) false]
abbrev A6M:List RK:= [.val false .bool]
def A0E(f:S6):Nat×Fn:=(22,⟨A6L,A6M,fun x=>f x.1 x.2.1⟩)
def B27:Fn:=(A0E N6).2
theorem B28(f_s_l1Below:D8):∀ x,(D5 cfg [H4 f_s_l1Below] (B6 []) 9 [.tmp 4] (Try.f22.body.getD .skip) A6L A6M).fn x=A8u f_s_l1Below x.1 x.2.1:=by intro x;kernel_rfl
theorem A2M:B3 Try.prog 22 B27:=sm MO B4 (tc Try.call24 I9 A8) Try.func22 (by kernel_rfl) (by decide) (B28 D0)
def B17:Nat→Option Jn:=B6 [(58,⟨[.t 5 false [.own 100000000],.t 6 false [.int .i64],.b 1000 [.ro 5 (.int .u8),.int .i64,.int .i64],.r 100000000 5 (.int .u8)],lt 8 11 [.r 7,.r 17,.r 18],false⟩)]
abbrev A5B:List PK:= [.ptr (.pair (.rs 5 (.int .u8)) (.pair (.int .i64) (.int .i64))),.val false (.int .i64) false]
abbrev A5C:List RK:= [.val false (.sl 5 (.int .u8))]
def A5D(f:Y8):Nat×Fn:=(47,⟨A5B,A5C,fun x=>f x.1 x.2.1⟩)
def B18:Fn:=(A5D N4).2
theorem B19(f_s_l1Byte:A0I):∀ x,(D5 cfg [A2L f_s_l1Byte] B17 20 [.tmp 4] (Try.f47.body.getD .skip) A5B A5C).fn x=A1a f_s_l1Byte x.1 x.2.1:=by intro x;kernel_rfl
theorem B1A:B3 Try.prog 47 B18:=sm MO B4 (tc Try.call52 A6K A8) Try.func47 (by kernel_rfl) (by decide) (B19 V9)
def B1B:Nat→Option Jn:=B6 [(58,⟨[.t 3 false [.own 100000000],.t 4 false [.int .i64],.b 1000 [.ro 5 (.int .u8),.int .i64,.int .i64],.r 100000000 4 .bool],lt 8 9 [.r 5,.r 15,.r 16],false⟩)]
abbrev A5E:List PK:= [.ptr (.pair (.rs 5 (.int .u8)) (.pair (.int .i64) (.int .i64)))]
abbrev A5F:List RK:= [.val false (.sl 4 .bool)]
def A5G(f:Y9):Nat×Fn:=(94,⟨A5E,A5F,fun x=>f x.1⟩)
def B1C:Fn:=(A5G Q8).2
theorem B1D(f_s_l1Once:S6)(f_s_l1Below:D8):∀ x,(D5 cfg [A0E f_s_l1Once,H4 f_s_l1Below] B1B 18 [.tmp 2] (Try.f94.body.getD .skip) A5E A5F).fn x=A1b f_s_l1Once f_s_l1Below x.1:=by intro x;kernel_rfl
theorem B1E:B3 Try.prog 94 B1C:=sm MO B4 (tc Try.call22 A2M (tc Try.call24 I9 A8)) Try.func94 (by kernel_rfl) (by decide) (B1D N6 D0)
def A2N:Nat→Option Jn:=B6 [(58,⟨[.t 29 false [.bool]],[.t 30,.t 31],true⟩),(235,⟨[.t 41 false [.bool]],lt 42 4 [],true⟩),(3771,⟨[.t 8 false [.int .i64],.b 1000 [.ro 5 (.int .u8),.int .i64,.int .i64]],lt 55 22 [],true⟩),(15103,⟨[.t 116 false [.bool]],[.t 117,.t 118],true⟩)]
abbrev U0:List PK:= [.ptr (.pair (.rs 5 (.int .u8)) (.pair (.int .i64) (.int .i64))),.val true (.pair Z4 (.pair (.int .i64) (.pair (.int .i64) (.sl 36 (.pair .str (.pair (.int .i64) (.pair (.rs 5 (.int .u8)) .bool))))))) false]
abbrev U1:List RK:= [.val true (.pair Z4 (.pair (.int .i64) (.pair (.int .i64) (.sl 36 (.pair .str (.pair (.int .i64) (.pair (.rs 5 (.int .u8)) .bool)))))))]
def U2(f:F4):Nat×Fn:=(74,⟨U0,U1,fun x=>f x.1 x.2.1⟩)
def A2O:Fn:=(U2 D6).2
theorem A2P(f_s_MakeUp_r98_0:H2)(f_s_PutUp_r98_0:A0A)(f_s_l1Once:S6)(f_s_l1Below:D8)(f_s_l1Int:U6)(f_s_UpAt:A9e)(f_s_l1Bytes_r0_0:Y8)(f_s_l1Str:A2p)(f_s_Crc:A3p)(f_s_DoneUp_r98_0:Y4)(f_s_DropUp_r98_0:Y5)(f_s_SyncStore:A1m)(f_s_OpenStore_r98_0:P8)(f_s_FallDisk:A2k)(f_s_l12Kept_r0_0:Y9):∀ x,(D5 A89 [Z1 f_s_MakeUp_r98_0,A6E f_s_PutUp_r98_0,A0E f_s_l1Once,H4 f_s_l1Below,X5 f_s_l1Int,B8J f_s_UpAt,A5D f_s_l1Bytes_r0_0,A3d f_s_l1Str,B2R f_s_Crc,A4z f_s_DoneUp_r98_0,A52 f_s_DropUp_r98_0,A2X f_s_SyncStore,A2a f_s_OpenStore_r98_0,B07 f_s_FallDisk,A5G f_s_l12Kept_r0_0] A2N 122 [.cell 4 29] (Try.f74.body.getD .skip) U0 U1).fn x=M6 f_s_MakeUp_r98_0 f_s_PutUp_r98_0 f_s_l1Once f_s_l1Below f_s_l1Int f_s_UpAt f_s_l1Bytes_r0_0 f_s_l1Str f_s_Crc f_s_DoneUp_r98_0 f_s_DropUp_r98_0 f_s_SyncStore f_s_OpenStore_r98_0 f_s_FallDisk f_s_l12Kept_r0_0 x.1 x.2.1:=by intro x;kernel_rfl
theorem A2Q:B3 Try.prog 74 A2O:=sm MO S9 (tc Try.call8 A1j (tc Try.call15 B20 (tc Try.call22 A2M (tc Try.call24 I9 (tc Try.call27 A11 (tc Try.call46 C4K (tc Try.call47 B1A (tc Try.call53 A7a (tc Try.call81 B6c (tc Try.call89 B0s (tc Try.call90 B0w (tc Try.call91 A8C (tc Try.call92 A8G (tc Try.call93 B6o (tc Try.call94 B1E A8))))))))))))))) Try.func74 (by kernel_rfl) (by decide) (A2P D3 T3 N6 D0 Q2 A6z N4 A1T A2h Q3 Q4 A1n J4 Y2 Q8)
def A64:Nat→Option Jn:=B6 [(58,⟨[.t 6 false [.int .i64],.b 5 [.own 100000000,.own 100000001,.int .i64,.int .i64,.own 100000002],.b 1000 [.ro 5 (.int .u8),.int .i64,.int .i64],.r 100000000 9 .str,.r 100000001 9 .str,.r 100000002 36 (.pair .str (.pair (.int .i64) (.pair (.rs 5 (.int .u8)) .bool)))],lt 14 7 [.r 45056,.r 45057,.r 45060,.r 86016,.r 86017,.r 86020],false⟩)]
abbrev A12:List PK:= [.ptr (.pair (.rs 5 (.int .u8)) (.pair (.int .i64) (.int .i64))),.val false (.int .i64) false]
abbrev A13:List RK:= [.val true (.pair Z4 (.pair (.int .i64) (.pair (.int .i64) (.sl 36 (.pair .str (.pair (.int .i64) (.pair (.rs 5 (.int .u8)) .bool)))))))]
def A14(f:M9):Nat×Fn:=(50,⟨A12,A13,fun x=>f x.1 x.2.1⟩)
def A65:Fn:=(A14 J1).2
theorem A66(f_s_StoreNew:Y1)(f_s_l1Below:D8)(f_s_l1Int:U6)(f_s_l14Some_r0_0_r94_0_r98_0:F4):∀ x,(D5 A89 [A0P f_s_StoreNew,H4 f_s_l1Below,X5 f_s_l1Int,U2 f_s_l14Some_r0_0_r94_0_r98_0] A64 22 [.cell 4 29] (Try.f50.body.getD .skip) A12 A13).fn x=S8 f_s_StoreNew f_s_l1Below f_s_l1Int f_s_l14Some_r0_0_r94_0_r98_0 x.1 x.2.1:=by intro x;kernel_rfl
theorem A67:B3 Try.prog 50 A65:=sm MO S9 (tc Try.call23 A3b (tc Try.call24 I9 (tc Try.call27 A11 (tc Try.call74 A2Q A8)))) Try.func50 (by kernel_rfl) (by decide) (A66 O9 D0 Q2 D6)
abbrev A1J:List PK:= [.ptr (.pair (.rs 5 (.int .u8)) (.pair (.int .i64) (.int .i64))),.val false (.int .i64) false]
abbrev A1K:List RK:= [.val true (.pair Z4 (.pair (.int .i64) (.pair (.int .i64) (.sl 36 (.pair .str (.pair (.int .i64) (.pair (.rs 5 (.int .u8)) .bool)))))))]
def A1L(f:O2):Nat×Fn:=(20,⟨A1J,A1K,fun x=>f x.1 x.2.1⟩)
def A6W:Fn:=(A1L K7).2
theorem A6X(f_s_l1Below:D8)(f_s_l1Int:U6)(f_s_l14Draw_r0_0_r98_0:M9):∀ x,(D5 A89 [H4 f_s_l1Below,X5 f_s_l1Int,A14 f_s_l14Draw_r0_0_r98_0] (B6 []) 43 [.cell 4 29] (Try.f20.body.getD .skip) A1J A1K).fn x=V0 f_s_l1Below f_s_l1Int f_s_l14Draw_r0_0_r98_0 x.1 x.2.1:=by intro x;kernel_rfl
theorem A6Y:B3 Try.prog 20 A6W:=sm MO S9 (tc Try.call24 I9 (tc Try.call27 A11 (tc Try.call50 A67 A8))) Try.func20 (by kernel_rfl) (by decide) (A6X D0 Q2 J1)
abbrev A7b:List PK:= [.ptr (.pair (.rs 5 (.int .u8)) (.pair (.int .i64) (.int .i64)))]
abbrev A7c:List RK:= [.val false .str]
def A7d(f:A81):Nat×Fn:=(26,⟨A7b,A7c,fun x=>f x.1⟩)
def B4b:Fn:=(A7d A2q).2
theorem B4c(f_s_l1Str:A2p):∀ x,(D5 cfg [A3d f_s_l1Str] (B6 []) 6 [.tmp 2] (Try.f26.body.getD .skip) A7b A7c).fn x=B0a f_s_l1Str x.1:=by intro x;kernel_rfl
theorem B4d:B3 Try.prog 26 B4b:=sm MO B4 (tc Try.call53 A7a A8) Try.func26 (by kernel_rfl) (by decide) (B4c A1T)
def A7e:Nat→Option Jn:=B6 [(15,⟨[.b 6 [.own 100001003,.own 100001004,.int .i64,.int .i64,.own 100001005],.b 40960 [.ro 5 (.int .u8),.int .i64,.int .i64],.r 100001003 9 .str,.r 100001004 9 .str,.r 100001005 36 (.pair .str (.pair (.int .i64) (.pair (.rs 5 (.int .u8)) .bool)))],lt 14 18 [.r 57344,.r 57345,.r 57348,.r 69632,.r 69633,.r 69636,.r 122880,.r 122881,.r 122884,.r 100000000,.r 100000001,.r 100000002,.t 7],true⟩),(982,⟨[.t 7 false [.int .i64],.b 6 [.own 100000000,.own 100000001,.int .i64,.int .i64,.own 100000002],.b 40960 [.ro 5 (.int .u8),.int .i64,.int .i64],.r 100000000 9 .str,.r 100000001 9 .str,.r 100000002 36 (.pair .str (.pair (.int .i64) (.pair (.rs 5 (.int .u8)) .bool)))],lt 16 16 [.r 69632,.r 69633,.r 69636,.r 122880,.r 122881,.r 122884],false⟩)]
abbrev A2C:List PK:= [.val false (.rs 5 (.int .u8)) false]
abbrev A2D:List RK:= [.val true (.pair Z4 (.pair (.int .i64) (.pair (.int .i64) (.sl 36 (.pair .str (.pair (.int .i64) (.pair (.rs 5 (.int .u8)) .bool))))))),.val false .str,.val false (.int .i64)]
def A2E(f:P0):Nat×Fn:=(6,⟨A2C,A2D,fun x=>f x.1⟩)
def A7f:Fn:=(A2E L7).2
theorem A7g(f_s_MakeUp_r98_0:H2)(f_s_l1New:A80)(f_s_l14Any_r0_0_r98_0:O2)(f_s_l1Size:A5d)(f_s_l1Once:S6)(f_s_StoreNew:Y1)(f_s_l1Below:D8)(f_s_l1Text:A3B)(f_s_l14Id:A81)(f_s_l1Int:U6):∀ x,(D5 cfg [Z1 f_s_MakeUp_r98_0,A6H f_s_l1New,A1L f_s_l14Any_r0_0_r98_0,B3w f_s_l1Size,A0E f_s_l1Once,A0P f_s_StoreNew,H4 f_s_l1Below,B3z f_s_l1Text,A7d f_s_l14Id,X5 f_s_l1Int] A7e 38 [.cell 2 29,.tmp 3,.tmp 4] (Try.f6.body.getD .skip) A2C A2D).fn x=W8 f_s_MakeUp_r98_0 f_s_l1New f_s_l14Any_r0_0_r98_0 f_s_l1Size f_s_l1Once f_s_StoreNew f_s_l1Below f_s_l1Text f_s_l14Id f_s_l1Int x.1:=by intro x;kernel_rfl
theorem A7h:B3 Try.prog 6 A7f:=sm MO B4 (tc Try.call8 A1j (tc Try.call19 B24 (tc Try.call20 A6Y (tc Try.call21 C06 (tc Try.call22 A2M (tc Try.call23 A3b (tc Try.call24 I9 (tc Try.call25 C09 (tc Try.call26 B4d (tc Try.call27 A11 A8)))))))))) Try.func6 (by kernel_rfl) (by decide) (A7g D3 A4h K7 A3A N6 O9 D0 A0J A2q Q2)
def C0b:Nat→Option Jn:=B6 [(63,⟨[],lt 38 7 [],false⟩),(126,⟨[.t 44 false [.bool]],lt 38 6 [],true⟩)]
abbrev A68:List PK:= [.val false (.rs 5 (.int .u8)) false]
abbrev B4e:List RK:= [.val false .bool]
def C0c(f:B3C):Nat×Fn:=(3,⟨A68,B4e,fun x=>f x.1⟩)
def F_w_FnMade:Fn:=(C0c A94).2
theorem C0d(f_w_big:B2L)(f_s_DrawMakeUp_r99_0:P0)(f_i_MakeUp:A5o)(f_s_MakeUp_r98_0:H2)(f_w_sameUps:A3w)(f_i_UpAt:A9i)(f_i_DropUp:A5p)(f_i_StoreOk:R5):∀ x,(D5 cfg [C1P f_w_big,A2E f_s_DrawMakeUp_r99_0,B4T f_i_MakeUp,Z1 f_s_MakeUp_r98_0,B1s f_w_sameUps,B8k f_i_UpAt,B4W f_i_DropUp,A48 f_i_StoreOk] C0b 115 [.tmp 2] (Try.f3.body.getD .skip) A68 B4e).fn x=A93 f_w_big f_s_DrawMakeUp_r99_0 f_i_MakeUp f_s_MakeUp_r98_0 f_w_sameUps f_i_UpAt f_i_DropUp f_i_StoreOk x.1:=by intro x;kernel_rfl
theorem C0e:B3 Try.prog 3 F_w_FnMade:=sm MO B4 (tc Try.call5 C5S (tc Try.call6 A7h (tc Try.call7 C0X (tc Try.call8 A1j (tc Try.call9 B8h (tc Try.call10 C4Y (tc Try.call11 C0a (tc Try.call12 A7R A8)))))))) Try.func3 (by kernel_rfl) (by decide) (C0d B2M L7 W7 D3 A0V A3L A3M K2)
end
end Go.Proofs.Ytfnmpcbehimkgaa.Ev
