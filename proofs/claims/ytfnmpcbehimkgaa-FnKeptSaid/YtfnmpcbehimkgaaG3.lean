/- Each function of the program does what its plain function says. -/
import Derived.Test.YtfnmpcbehimkgaaG2
import Derived.Test.YtfnmpcbehimkgaaFind
set_option linter.unusedVariables false
set_option maxRecDepth 100000
namespace Go.Proofs.Ytfnmpcbehimkgaa.Ev
noncomputable section
def B1x:Nat→Option Jn:=B6 [(3,⟨[],lt 12 9 [],false⟩),(15,⟨[.b 1000 [.own 215040,.own 215041,.int .i64,.int .i64,.own 215044],.r 215040 9 .str,.r 215041 9 .str,.r 215044 36 kUp],lt 27 31 [.r 1000,.r 1001,.r 1004],false⟩),(243,⟨[.t 30 false [.bool]],lt 31 18 [],true⟩),(250,⟨[.b 6 [.int .i64],.b 1000 [.own 100003000,.own 100003001,.int .i64,.int .i64,.own 100003002],.r 100003000 9 .str,.r 100003001 9 .str,.r 100003002 36 kUp],lt 60 10 [.r 215040,.r 215041,.r 215044,.r 272384,.r 272385,.r 272388,.t 11],false⟩)]
abbrev A6C:List PK:= [.ptr A5U,.val false .str false,.val false (.int .i64) false,.val false (.rs 5 (.int .u8)) false]
abbrev A6D:List RK:= [.val false (.int .i64)]
def A6E(f:A07):Nat×Fn:=(48,⟨A6C,A6D,fun x=>f x.1 x.2.1 x.2.2.1 x.2.2.2.1⟩)
def B1y:Fn:=(A6E T4).2
theorem B1z(f_i_idOk:A1t)(f_i_inRange:J8)(f_i_Store_left:Q8)(f_i_Store_write_r97_0:F9)(f_i_Store_find:W8):∀ x,(D4 (((cfg.withPk 57 ⟨kUp,4,f_i_Store_find⟩).withCk 73 88).withPt [64]) [B02 f_i_idOk,A0S f_i_inRange,A3Z f_i_Store_left,V1 f_i_Store_write_r97_0] B1x 70 [.tmp 8] (Try.f48.body.getD .skip) A6C A6D).fn x=A27 f_i_idOk f_i_inRange f_i_Store_left f_i_Store_write_r97_0 f_i_Store_find x.1 x.2.1 x.2.2.1 x.2.2.2.1:=by intro x;kernel_rfl
theorem B20:B3 Try.prog 48 B1y:=sm MO (C22 (l:= [64]) (C21 (B5S B4 (fun args w=>Try.call57 args w) A7S) (fun args w=>Try.call73 args w) C5R) ⟨⟨_,Try.underlying64,rfl⟩,trivial⟩) (tc Try.call55 B3j (tc Try.call56 A21 (tc Try.call58 A7R (tc Try.call59 A1A A8)))) Try.func48 (by kernel_rfl) (by decide) (B1z A0b J9 N7 C7 N8)
abbrev B5x:List PK:= [.val true (.pair (.pair (.rs 9 .str) (.rs 9 .str)) (.pair (.int .i64) (.pair (.int .i64) (.rs 36 kUp)))) false,.val false .str false,.val false (.int .i64) false,.val false (.rs 5 (.int .u8)) false]
abbrev B5y:List RK:= [.val true A5U,.val false (.int .i64)]
def B5z(f:A7w):Nat×Fn:=(14,⟨B5x,B5y,fun x=>f x.1 x.2.1 x.2.2.1 x.2.2.2.1⟩)
def C2f:Fn:=(B5z A2p).2
theorem C2g(f_i_StoreOk:R6)(f_i_copyStore:U8)(f_i_Store_putUp:A07):∀ x,(D4 cfg [A44 f_i_StoreOk,A4R f_i_copyStore,A6E f_i_Store_putUp] (B6 []) 24 [.cell 8 29,.tmp 9] (Try.f14.body.getD .skip) B5x B5y).fn x=A7x f_i_StoreOk f_i_copyStore f_i_Store_putUp x.1 x.2.1 x.2.2.1 x.2.2.2.1:=by intro x;kernel_rfl
theorem C2h:B3 Try.prog 14 C2f:=sm MO B4 (tc Try.call12 A7H (tc Try.call28 A8f (tc Try.call48 B20 A8))) Try.func14 (by kernel_rfl) (by decide) (C2g K0 P4 T4)
def B0y:Nat→Option Jn:=B6 [(15,⟨[.b 7 [.str,.int .i64,.any,.bool],.b 1000 [.own 100000000,.own 100000001,.int .i64,.int .i64,.own 100000002],.r 100000000 9 .str,.r 100000001 9 .str,.r 100000002 36 kUp],lt 18 25 [.r 1000,.r 1001,.r 1004,.r 169984,.r 169985,.r 169988],false⟩)]
abbrev A54:List PK:= [.ptr A5U,.val false .str false,.val false (.int .i64) false]
abbrev A55:List RK:= [.val false (.int .i64)]
def A56(f:Y4):Nat×Fn:=(49,⟨A54,A55,fun x=>f x.1 x.2.1 x.2.2.1⟩)
def B0z:Fn:=(A56 Q9).2
theorem B10(f_i_Crc:A3o)(f_i_idOk:A1t)(f_i_Store_left:Q8)(f_i_Store_write_r97_0:F9)(f_i_Store_find:W8):∀ x,(D4 (cfg.withPk 57 ⟨kUp,4,f_i_Store_find⟩) [B2S f_i_Crc,B02 f_i_idOk,A3Z f_i_Store_left,V1 f_i_Store_write_r97_0] B0y 49 [.tmp 6] (Try.f49.body.getD .skip) A54 A55).fn x=A1R f_i_Crc f_i_idOk f_i_Store_left f_i_Store_write_r97_0 f_i_Store_find x.1 x.2.1 x.2.2.1:=by intro x;kernel_rfl
theorem B11:B3 Try.prog 49 B0z:=sm MO (B5S B4 (fun args w=>Try.call57 args w) A7S) (tc Try.call18 B6h (tc Try.call55 B3j (tc Try.call58 A7R (tc Try.call59 A1A A8)))) Try.func49 (by kernel_rfl) (by decide) (B10 A2c A0b N7 C7 N8)
abbrev B4T:List PK:= [.val true (.pair (.pair (.rs 9 .str) (.rs 9 .str)) (.pair (.int .i64) (.pair (.int .i64) (.rs 36 kUp)))) false,.val false .str false,.val false (.int .i64) false]
abbrev B4U:List RK:= [.val true A5U,.val false (.int .i64)]
def B4V(f:A5n):Nat×Fn:=(17,⟨B4T,B4U,fun x=>f x.1 x.2.1 x.2.2.1⟩)
def C0c:Fn:=(B4V A3H).2
theorem C0d(f_i_StoreOk:R6)(f_i_copyStore:U8)(f_i_Store_doneUp:Y4):∀ x,(D4 cfg [A44 f_i_StoreOk,A4R f_i_copyStore,A56 f_i_Store_doneUp] (B6 []) 21 [.cell 6 29,.tmp 7] (Try.f17.body.getD .skip) B4T B4U).fn x=A92 f_i_StoreOk f_i_copyStore f_i_Store_doneUp x.1 x.2.1 x.2.2.1:=by intro x;kernel_rfl
theorem C0e:B3 Try.prog 17 C0c:=sm MO B4 (tc Try.call12 A7H (tc Try.call28 A8f (tc Try.call49 B11 A8))) Try.func17 (by kernel_rfl) (by decide) (C0d K0 P4 Q9)
def B21:Nat→Option Jn:=B6 [(7,⟨[.t 3 false [.int .i64]],lt 8 20 [.t 4],true⟩),(58,⟨[.t 3 false [.int .i64],.t 4 false [.int .i64]],lt 8 20 [],false⟩),(116,⟨[],lt 8 8 [],false⟩)]
abbrev A6F:List PK:= [.val false (.rs 5 (.int .u8)) false]
abbrev A6G:List RK:= [.new (.pair (.rs 5 (.int .u8)) (.pair (.int .i64) (.int .i64)))]
def A6H(f:A7s):Nat×Fn:=(19,⟨A6F,A6G,fun x=>f x.1⟩)
def B22:Fn:=(A6H A4f).2
theorem B23:∀ x,(D4 cfg [] B21 32 [.tmp 2] (Try.f19.body.getD .skip) A6F A6G).fn x=B0X x.1:=by intro x;kernel_rfl
theorem B24:B3 Try.prog 19 B22:=sm MO B4 A8 Try.func19 (by kernel_rfl) (by decide) (B23)
abbrev A6I:List PK:= [.ptr (.pair (.rs 5 (.int .u8)) (.pair (.int .i64) (.int .i64)))]
abbrev A6J:List RK:= [.val false (.int .i64)]
def A2C(f:A0B):Nat×Fn:=(52,⟨A6I,A6J,fun x=>f x.1⟩)
def B25:Fn:=(A2C W5).2
theorem B26:∀ x,(D4 cfg [] (B6 []) 58 [.tmp 2] (Try.f52.body.getD .skip) A6I A6J).fn x=A8v x.1:=by intro x;kernel_rfl
theorem A6K:B3 Try.prog 52 B25:=sm MO B4 A8 Try.func52 (by kernel_rfl) (by decide) (B26)
abbrev A57:List PK:= [.ptr (.pair (.rs 5 (.int .u8)) (.pair (.int .i64) (.int .i64))),.val false (.int .i64) false]
abbrev A58:List RK:= [.val false (.int .i64)]
def I9(f:F7):Nat×Fn:=(24,⟨A57,A58,fun x=>f x.1 x.2.1⟩)
def B12:Fn:=(I9 E6).2
theorem B13(f_s_l1Byte:A0B):∀ x,(D4 cfg [A2C f_s_l1Byte] (B6 []) 31 [.tmp 4] (Try.f24.body.getD .skip) A57 A58).fn x=A6x f_s_l1Byte x.1 x.2.1:=by intro x;kernel_rfl
theorem L3:B3 Try.prog 24 B12:=sm MO B4 (tc Try.call52 A6K A8) Try.func24 (by kernel_rfl) (by decide) (B13 W5)
abbrev A7T:List PK:= [.ptr (.pair (.rs 5 (.int .u8)) (.pair (.int .i64) (.int .i64))),.val false (.rs 3 (.int .i64)) false]
abbrev A7U:List RK:= [.val false (.int .i64)]
def X4(f:U6):Nat×Fn:=(27,⟨A7T,A7U,fun x=>f x.1 x.2.1⟩)
def B4W:Fn:=(X4 O5).2
theorem B4X(f_s_l1Below:F7):∀ x,(D4 cfg [I9 f_s_l1Below] (B6 []) 12 [.tmp 4] (Try.f27.body.getD .skip) A7T A7U).fn x=B0Y f_s_l1Below x.1 x.2.1:=by intro x;kernel_rfl
theorem A0t:B3 Try.prog 27 B4W:=sm MO B4 (tc Try.call24 L3 A8) Try.func27 (by kernel_rfl) (by decide) (B4X E6)
abbrev A7V:List PK:= [.ptr (.pair (.rs 5 (.int .u8)) (.pair (.int .i64) (.int .i64))),.val false (.rs 9 .str) false]
abbrev A7W:List RK:= [.val false .str]
def A3a(f:A2o):Nat×Fn:=(53,⟨A7V,A7W,fun x=>f x.1 x.2.1⟩)
def B4Y:Fn:=(A3a A1N).2
theorem B4Z(f_s_l1Below:F7):∀ x,(D4 cfg [I9 f_s_l1Below] (B6 []) 12 [.tmp 4] (Try.f53.body.getD .skip) A7V A7W).fn x=B0c f_s_l1Below x.1 x.2.1:=by intro x;kernel_rfl
theorem A7X:B3 Try.prog 53 B4Y:=sm MO B4 (tc Try.call24 L3 A8) Try.func53 (by kernel_rfl) (by decide) (B4Z E6)
abbrev A6L:List PK:= [.ptr (.pair (.rs 5 (.int .u8)) (.pair (.int .i64) (.int .i64))),.val false (.int .i64) false]
abbrev A6M:List RK:= [.val false .bool]
def A09(f:S8):Nat×Fn:=(22,⟨A6L,A6M,fun x=>f x.1 x.2.1⟩)
def B27:Fn:=(A09 N6).2
theorem B28(f_s_l1Below:F7):∀ x,(D4 cfg [I9 f_s_l1Below] (B6 []) 9 [.tmp 4] (Try.f22.body.getD .skip) A6L A6M).fn x=A90 f_s_l1Below x.1 x.2.1:=by intro x;kernel_rfl
theorem A2D:B3 Try.prog 22 B27:=sm MO B4 (tc Try.call24 L3 A8) Try.func22 (by kernel_rfl) (by decide) (B28 E6)
def B14:Nat→Option Jn:=B6 [(58,⟨[.t 5 false [.own 100000000],.t 6 false [.int .i64],.b 1000 [.ro 5 (.int .u8),.int .i64,.int .i64],.r 100000000 5 (.int .u8)],lt 8 11 [.r 7,.r 17,.r 18],false⟩)]
abbrev A59:List PK:= [.ptr (.pair (.rs 5 (.int .u8)) (.pair (.int .i64) (.int .i64))),.val false (.int .i64) false]
abbrev A5A:List RK:= [.val false (.sl 5 (.int .u8))]
def A1a(f:N4):Nat×Fn:=(47,⟨A59,A5A,fun x=>f x.1 x.2.1⟩)
def B15:Fn:=(A1a I6).2
theorem B16(f_s_l1Byte:A0B):∀ x,(D4 cfg [A2C f_s_l1Byte] B14 20 [.tmp 4] (Try.f47.body.getD .skip) A59 A5A).fn x=A1S f_s_l1Byte x.1 x.2.1:=by intro x;kernel_rfl
theorem A5B:B3 Try.prog 47 B15:=sm MO B4 (tc Try.call52 A6K A8) Try.func47 (by kernel_rfl) (by decide) (B16 W5)
def B17:Nat→Option Jn:=B6 [(58,⟨[.t 3 false [.own 100000000],.t 4 false [.int .i64],.b 1000 [.ro 5 (.int .u8),.int .i64,.int .i64],.r 100000000 4 .bool],lt 8 9 [.r 5,.r 15,.r 16],false⟩)]
abbrev A5C:List PK:= [.ptr (.pair (.rs 5 (.int .u8)) (.pair (.int .i64) (.int .i64)))]
abbrev A5D:List RK:= [.val false (.sl 4 .bool)]
def A5E(f:Y5):Nat×Fn:=(94,⟨A5C,A5D,fun x=>f x.1⟩)
def B18:Fn:=(A5E R0).2
theorem B19(f_s_l1Once:S8)(f_s_l1Below:F7):∀ x,(D4 cfg [A09 f_s_l1Once,I9 f_s_l1Below] B17 18 [.tmp 2] (Try.f94.body.getD .skip) A5C A5D).fn x=A1T f_s_l1Once f_s_l1Below x.1:=by intro x;kernel_rfl
theorem B1A:B3 Try.prog 94 B18:=sm MO B4 (tc Try.call22 A2D (tc Try.call24 L3 A8)) Try.func94 (by kernel_rfl) (by decide) (B19 N6 E6)
def A2E:Nat→Option Jn:=B6 [(58,⟨[.t 29 false [.bool]],[.t 30,.t 31],true⟩),(235,⟨[.t 41 false [.bool]],lt 42 4 [],true⟩),(3771,⟨[.t 8 false [.int .i64],.b 1000 [.ro 5 (.int .u8),.int .i64,.int .i64]],lt 55 22 [],true⟩),(15103,⟨[.t 116 false [.bool]],[.t 117,.t 118],true⟩)]
abbrev U1:List PK:= [.ptr (.pair (.rs 5 (.int .u8)) (.pair (.int .i64) (.int .i64))),.val true (.pair Y9 (.pair (.int .i64) (.pair (.int .i64) (.sl 36 (.pair .str (.pair (.int .i64) (.pair (.rs 5 (.int .u8)) .bool))))))) false]
abbrev U2:List RK:= [.val true (.pair Y9 (.pair (.int .i64) (.pair (.int .i64) (.sl 36 (.pair .str (.pair (.int .i64) (.pair (.rs 5 (.int .u8)) .bool)))))))]
def U3(f:F2):Nat×Fn:=(74,⟨U1,U2,fun x=>f x.1 x.2.1⟩)
def A2F:Fn:=(U3 D5).2
theorem A2G(f_s_MakeUp_r98_0:Y1)(f_s_PutUp_r98_0:O7)(f_s_l1Once:S8)(f_s_l1Below:F7)(f_s_l1Int:U6)(f_s_UpAt:A4i)(f_s_l1Bytes_r0_0:N4)(f_s_l1Str:A2o)(f_s_Crc:A3r)(f_s_DoneUp_r98_0:Y2)(f_s_DropUp_r98_0:Y3)(f_s_SyncStore:A1h)(f_s_OpenStore_r98_0:Q1)(f_s_FallDisk:A2j)(f_s_l12Kept_r0_0:Y5):∀ x,(D4 A85 [A4x f_s_MakeUp_r98_0,A28 f_s_PutUp_r98_0,A09 f_s_l1Once,I9 f_s_l1Below,X4 f_s_l1Int,B4L f_s_UpAt,A1a f_s_l1Bytes_r0_0,A3a f_s_l1Str,B2T f_s_Crc,A50 f_s_DoneUp_r98_0,A53 f_s_DropUp_r98_0,A2S f_s_SyncStore,A2V f_s_OpenStore_r98_0,B0H f_s_FallDisk,A5E f_s_l12Kept_r0_0] A2E 122 [.cell 4 29] (Try.f74.body.getD .skip) U1 U2).fn x=M6 f_s_MakeUp_r98_0 f_s_PutUp_r98_0 f_s_l1Once f_s_l1Below f_s_l1Int f_s_UpAt f_s_l1Bytes_r0_0 f_s_l1Str f_s_Crc f_s_DoneUp_r98_0 f_s_DropUp_r98_0 f_s_SyncStore f_s_OpenStore_r98_0 f_s_FallDisk f_s_l12Kept_r0_0 x.1 x.2.1:=by intro x;kernel_rfl
theorem A2H:B3 Try.prog 74 A2F:=sm MO T0 (tc Try.call8 B0p (tc Try.call15 A6B (tc Try.call22 A2D (tc Try.call24 L3 (tc Try.call27 A0t (tc Try.call46 B8u (tc Try.call47 A5B (tc Try.call53 A7X (tc Try.call81 B6q (tc Try.call89 B0t (tc Try.call90 B0x (tc Try.call91 A8C (tc Try.call92 A8G (tc Try.call93 B72 (tc Try.call94 B1A A8))))))))))))))) Try.func74 (by kernel_rfl) (by decide) (A2G Q5 H7 N6 E6 O5 Z1 I6 A1N A2h Q6 Q7 A1i J5 Y0 R0)
def A61:Nat→Option Jn:=B6 [(58,⟨[.t 6 false [.int .i64],.b 5 [.own 100000000,.own 100000001,.int .i64,.int .i64,.own 100000002],.b 1000 [.ro 5 (.int .u8),.int .i64,.int .i64],.r 100000000 9 .str,.r 100000001 9 .str,.r 100000002 36 (.pair .str (.pair (.int .i64) (.pair (.rs 5 (.int .u8)) .bool)))],lt 14 7 [.r 45056,.r 45057,.r 45060,.r 86016,.r 86017,.r 86020],false⟩)]
abbrev A0u:List PK:= [.ptr (.pair (.rs 5 (.int .u8)) (.pair (.int .i64) (.int .i64))),.val false (.int .i64) false]
abbrev A0v:List RK:= [.val true (.pair Y9 (.pair (.int .i64) (.pair (.int .i64) (.sl 36 (.pair .str (.pair (.int .i64) (.pair (.rs 5 (.int .u8)) .bool)))))))]
def A0w(f:N0):Nat×Fn:=(50,⟨A0u,A0v,fun x=>f x.1 x.2.1⟩)
def A62:Fn:=(A0w J2).2
theorem A63(f_s_StoreNew:A2f)(f_s_l1Below:F7)(f_s_l1Int:U6)(f_s_l14Some_r0_0_r94_0_r98_0:F2):∀ x,(D4 A85 [A3Y f_s_StoreNew,I9 f_s_l1Below,X4 f_s_l1Int,U3 f_s_l14Some_r0_0_r94_0_r98_0] A61 22 [.cell 4 29] (Try.f50.body.getD .skip) A0u A0v).fn x=S9 f_s_StoreNew f_s_l1Below f_s_l1Int f_s_l14Some_r0_0_r94_0_r98_0 x.1 x.2.1:=by intro x;kernel_rfl
theorem A64:B3 Try.prog 50 A62:=sm MO T0 (tc Try.call23 A9O (tc Try.call24 L3 (tc Try.call27 A0t (tc Try.call74 A2H A8)))) Try.func50 (by kernel_rfl) (by decide) (A63 A2g E6 O5 D5)
abbrev A1B:List PK:= [.ptr (.pair (.rs 5 (.int .u8)) (.pair (.int .i64) (.int .i64))),.val false (.int .i64) false]
abbrev A1C:List RK:= [.val true (.pair Y9 (.pair (.int .i64) (.pair (.int .i64) (.sl 36 (.pair .str (.pair (.int .i64) (.pair (.rs 5 (.int .u8)) .bool)))))))]
def A1D(f:O2):Nat×Fn:=(20,⟨A1B,A1C,fun x=>f x.1 x.2.1⟩)
def A6W:Fn:=(A1D K7).2
theorem A6X(f_s_l1Below:F7)(f_s_l1Int:U6)(f_s_l14Draw_r0_0_r98_0:N0):∀ x,(D4 A85 [I9 f_s_l1Below,X4 f_s_l1Int,A0w f_s_l14Draw_r0_0_r98_0] (B6 []) 43 [.cell 4 29] (Try.f20.body.getD .skip) A1B A1C).fn x=V0 f_s_l1Below f_s_l1Int f_s_l14Draw_r0_0_r98_0 x.1 x.2.1:=by intro x;kernel_rfl
theorem A6Y:B3 Try.prog 20 A6W:=sm MO T0 (tc Try.call24 L3 (tc Try.call27 A0t (tc Try.call50 A64 A8))) Try.func20 (by kernel_rfl) (by decide) (A6X E6 O5 J2)
abbrev A7Y:List PK:= [.ptr (.pair (.rs 5 (.int .u8)) (.pair (.int .i64) (.int .i64)))]
abbrev A7Z:List RK:= [.val false .str]
def A7a(f:A7v):Nat×Fn:=(26,⟨A7Y,A7Z,fun x=>f x.1⟩)
def B4a:Fn:=(A7a A4j).2
theorem B4b(f_s_l1Str:A2o):∀ x,(D4 cfg [A3a f_s_l1Str] (B6 []) 6 [.tmp 2] (Try.f26.body.getD .skip) A7Y A7Z).fn x=B0d f_s_l1Str x.1:=by intro x;kernel_rfl
theorem B4c:B3 Try.prog 26 B4a:=sm MO B4 (tc Try.call53 A7X A8) Try.func26 (by kernel_rfl) (by decide) (B4b A1N)
def A8H:Nat→Option Jn:=B6 [(127,⟨[.t 11 false [.int .i64],.b 57344 [.ro 5 (.int .u8),.int .i64,.int .i64]],lt 29 16 [],true⟩)]
abbrev A2W:List PK:= [.val false (.rs 5 (.int .u8)) false]
abbrev A2X:List RK:= [.val true (.pair Y9 (.pair (.int .i64) (.pair (.int .i64) (.sl 36 (.pair .str (.pair (.int .i64) (.pair (.rs 5 (.int .u8)) .bool))))))),.val false .str,.val false (.int .i64),.val false (.sl 5 (.int .u8))]
def A2Y(f:Q2):Nat×Fn:=(13,⟨A2W,A2X,fun x=>f x.1⟩)
def A8I:Fn:=(A2Y M8).2
theorem A8J(f_s_l1New:A7s)(f_s_l14Any_r0_0_r98_0:O2)(f_s_l1Size:A5l)(f_s_l1Once:S8)(f_s_l14Id:A7v)(f_s_l1Int:U6)(f_s_UpAt:A4i)(f_s_l1Bytes_r0_0:N4):∀ x,(D4 cfg [A6H f_s_l1New,A1D f_s_l14Any_r0_0_r98_0,B4O f_s_l1Size,A09 f_s_l1Once,A7a f_s_l14Id,X4 f_s_l1Int,B4L f_s_UpAt,A1a f_s_l1Bytes_r0_0] A8H 66 [.cell 2 29,.tmp 3,.tmp 4,.tmp 5] (Try.f13.body.getD .skip) A2W A2X).fn x=Y7 f_s_l1New f_s_l14Any_r0_0_r98_0 f_s_l1Size f_s_l1Once f_s_l14Id f_s_l1Int f_s_UpAt f_s_l1Bytes_r0_0 x.1:=by intro x;kernel_rfl
theorem A8K:B3 Try.prog 13 A8I:=sm MO B4 (tc Try.call19 B24 (tc Try.call20 A6Y (tc Try.call21 C0b (tc Try.call22 A2D (tc Try.call26 B4c (tc Try.call27 A0t (tc Try.call46 B8u (tc Try.call47 A5B A8)))))))) Try.func13 (by kernel_rfl) (by decide) (A8J A4f K7 A3F N6 A4j O5 Z1 I6)
def C0f:Nat→Option Jn:=B6 [(63,⟨[],lt 44 7 [],false⟩),(126,⟨[.t 50 false [.bool]],lt 44 6 [],true⟩),(511,⟨[],lt 80 28 [.r 85,.r 88,.r 90],false⟩)]
abbrev A65:List PK:= [.val false (.rs 5 (.int .u8)) false]
abbrev B4d:List RK:= [.val false .bool]
def C0g(f:B3D):Nat×Fn:=(4,⟨A65,B4d,fun x=>f x.1⟩)
def F_w_FnKept:Fn:=(C0g A94).2
theorem C0h(f_w_big:B2M)(f_w_sameUps:A3m)(f_i_UpAt:A9i)(f_i_StoreOk:R6)(f_s_DrawPutUp_r99_0:Q2)(f_i_PutUp:A7w)(f_s_PutUp_r98_0:O7)(f_w_sameBytes:P2)(f_i_DoneUp:A5n)(f_i_Crc:A3o):∀ x,(D4 cfg [C1P f_w_big,B1V f_w_sameUps,B8K f_i_UpAt,A44 f_i_StoreOk,A2Y f_s_DrawPutUp_r99_0,B5z f_i_PutUp,A28 f_s_PutUp_r98_0,A4K f_w_sameBytes,B4V f_i_DoneUp,B2S f_i_Crc] C0f 141 [.tmp 2] (Try.f4.body.getD .skip) A65 B4d).fn x=A93 f_w_big f_w_sameUps f_i_UpAt f_i_StoreOk f_s_DrawPutUp_r99_0 f_i_PutUp f_s_PutUp_r98_0 f_w_sameBytes f_i_DoneUp f_i_Crc x.1:=by intro x;kernel_rfl
theorem C0i:B3 Try.prog 4 F_w_FnKept:=sm MO B4 (tc Try.call5 C5U (tc Try.call9 B8H (tc Try.call10 C4I (tc Try.call12 A7H (tc Try.call13 A8K (tc Try.call14 C2h (tc Try.call15 A6B (tc Try.call16 A8W (tc Try.call17 C0e (tc Try.call18 B6h A8)))))))))) Try.func4 (by kernel_rfl) (by decide) (C0h B2N A0O A1s K0 M8 A2p H7 L4 A3H A2c)
end
end Go.Proofs.Ytfnmpcbehimkgaa.Ev
