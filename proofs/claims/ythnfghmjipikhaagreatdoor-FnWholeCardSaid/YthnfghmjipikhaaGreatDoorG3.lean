/- Each function of the program does what its plain function says. -/
import Derived.Test.YthnfghmjipikhaaGreatDoorG2
set_option linter.unusedVariables false
set_option maxRecDepth 100000
namespace Go.Proofs.YthnfghmjipikhaaGreatDoor.Ev
noncomputable section
abbrev B2m:List PK:= [.ptr (.pair (.rs 5 (.int .u8)) D9)]
abbrev B2n:List RK:= [.val false (.int .i64)]
def A6h(f:A3v):Nat×Fn:=(115,⟨B2m,B2n,fun x=>f x.1⟩)
def C1L:Fn:=(A6h A20).2
theorem C1M:∀ x,(D4 cfg [] (B7 []) 58 [.tmp 2] (Tryz.f115.body.getD .skip) B2m B2n).fn x=B6V x.1:=by intro x;kernel_rfl
theorem B2o:B6 Tryz.prog 115 C1L:=sm MO B3 A8 Tryz.func115 (by kernel_rfl) (by decide) (C1M)
abbrev B0w:List PK:= [.ptr (.pair (.rs 5 (.int .u8)) D9),.val false (.int .i64) false]
abbrev B10:List RK:= [.val false (.int .i64)]
def V2(f:P7):Nat×Fn:=(98,⟨B0w,B10,fun x=>f x.1 x.2.1⟩)
def B9f:Fn:=(V2 N5).2
theorem B9g(f_s_l1Byte:A3v):∀ x,(D4 cfg [A6h f_s_l1Byte] (B7 []) 31 [.tmp 4] (Tryz.f98.body.getD .skip) B0w B10).fn x=B3P f_s_l1Byte x.1 x.2.1:=by intro x;kernel_rfl
theorem A0l:B6 Tryz.prog 98 B9f:=sm MO B3 (tc Tryz.call115 B2o A8) Tryz.func98 (by kernel_rfl) (by decide) (B9g A20)
abbrev B4R:List PK:= [.ptr (.pair (.rs 5 (.int .u8)) D9),.val false (.rs 9 .str) false]
abbrev B4S:List RK:= [.val false .str]
def B4T(f:B4p):Nat×Fn:=(151,⟨B4R,B4S,fun x=>f x.1 x.2.1⟩)
def C57:Fn:=(B4T B0B).2
theorem C58(f_s_l1Below:P7):∀ x,(D4 cfg [V2 f_s_l1Below] (B7 []) 12 [.tmp 4] (Tryz.f151.body.getD .skip) B4R B4S).fn x=B8w f_s_l1Below x.1 x.2.1:=by intro x;kernel_rfl
theorem C59:B6 Tryz.prog 151 C57:=sm MO B3 (tc Tryz.call98 A0l A8) Tryz.func151 (by kernel_rfl) (by decide) (C58 N5)
abbrev B4U:List PK:= [.ptr (.pair (.rs 5 (.int .u8)) D9),.val false (.rs 3 (.int .i64)) false]
abbrev B4V:List RK:= [.val false (.int .i64)]
def A55(f:A4E):Nat×Fn:=(97,⟨B4U,B4V,fun x=>f x.1 x.2.1⟩)
def C5A:Fn:=(A55 A2K).2
theorem C5B(f_s_l1Below:P7):∀ x,(D4 cfg [V2 f_s_l1Below] (B7 []) 12 [.tmp 4] (Tryz.f97.body.getD .skip) B4U B4V).fn x=B8v f_s_l1Below x.1 x.2.1:=by intro x;kernel_rfl
theorem A8F:B6 Tryz.prog 97 C5A:=sm MO B3 (tc Tryz.call98 A0l A8) Tryz.func97 (by kernel_rfl) (by decide) (C5B N5)
abbrev B2p:List PK:= [.ptr (.pair (.rs 5 (.int .u8)) D9),.val false (.int .i64) false]
abbrev B2q:List RK:= [.val false .bool]
def B2r(f:B1f):Nat×Fn:=(114,⟨B2p,B2q,fun x=>f x.1 x.2.1⟩)
def C1N:Fn:=(B2r A7f).2
theorem C1O(f_s_l1Below:P7):∀ x,(D4 cfg [V2 f_s_l1Below] (B7 []) 9 [.tmp 4] (Tryz.f114.body.getD .skip) B2p B2q).fn x=B6W f_s_l1Below x.1 x.2.1:=by intro x;kernel_rfl
theorem C1P:B6 Tryz.prog 114 C1N:=sm MO B3 (tc Tryz.call98 A0l A8) Tryz.func114 (by kernel_rfl) (by decide) (C1O N5)
abbrev B2s:List PK:= [.ptr (.pair (.rs 5 (.int .u8)) D9)]
abbrev B2t:List RK:= [.val true A61]
def B2u(f:B1g):Nat×Fn:=(94,⟨B2s,B2t,fun x=>f x.1⟩)
def C1Q:Fn:=(B2u A7g).2
theorem C1R(f_s_l1Int:A4E)(f_s_l1Below:P7)(f_s_l1Once:B1f)(f_s_l11Most:A8m)(f_s_l1Str:B4p):∀ x,(D4 cfg [A55 f_s_l1Int,V2 f_s_l1Below,B2r f_s_l1Once,C0c f_s_l11Most,B4T f_s_l1Str] (B7 []) 28 [.cell 2 36] (Tryz.f94.body.getD .skip) B2s B2t).fn x=B6a f_s_l1Int f_s_l1Below f_s_l1Once f_s_l11Most f_s_l1Str x.1:=by intro x;kernel_rfl
theorem C1S:B6 Tryz.prog 94 C1Q:=sm MO B3 (tc Tryz.call97 A8F (tc Tryz.call98 A0l (tc Tryz.call114 C1P (tc Tryz.call128 D1k (tc Tryz.call151 C59 A8))))) Tryz.func94 (by kernel_rfl) (by decide) (C1R A2K N5 A7f A64 B0B)
abbrev B11:List PK:= [.ptr (.pair (.rs 5 (.int .u8)) D9)]
abbrev B12:List RK:= [.val true D9]
def B13(f:A8n):Nat×Fn:=(95,⟨B11,B12,fun x=>f x.1⟩)
def B9h:Fn:=(B13 A65).2
theorem B9i(f_s_l1Int:A4E):∀ x,(D4 cfg [A55 f_s_l1Int] (B7 []) 10 [.cell 2 59] (Tryz.f95.body.getD .skip) B11 B12).fn x=B3R f_s_l1Int x.1:=by intro x;kernel_rfl
theorem B9j:B6 Tryz.prog 95 B9h:=sm MO B3 (tc Tryz.call97 A8F A8) Tryz.func95 (by kernel_rfl) (by decide) (B9i A2K)
abbrev A9B:List PK:= [.val false (.rs 5 (.int .u8)) false]
abbrev A9C:List RK:= [.val true A61,.val true D9]
def A9D(f:A8o):Nat×Fn:=(31,⟨A9B,A9C,fun x=>f x.1⟩)
def B8c:Fn:=(A9D A66).2
theorem B8d(f_s_l1New:A7I)(f_s_l11Req:B1g)(f_s_l11Resp:A8n):∀ x,(D4 cfg [A6g f_s_l1New,B2u f_s_l11Req,B13 f_s_l11Resp] (B7 []) 11 [.cell 2 36,.cell 3 59] (Tryz.f31.body.getD .skip) A9B A9C).fn x=B3S f_s_l1New f_s_l11Req f_s_l11Resp x.1:=by intro x;kernel_rfl
theorem B8e:B6 Tryz.prog 31 B8c:=sm MO B3 (tc Tryz.call93 B2l (tc Tryz.call94 C1S (tc Tryz.call95 B9j A8))) Tryz.func31 (by kernel_rfl) (by decide) (B8d A5K A7g A65)
def B9k:Nat->Option Jn:=B7 [(58,⟨[.t 5 false [.own 100000000],.t 6 false [.int .i64],.b 1000 [.ro 5 (.int .u8),.int .i64,.int .i64],.r 100000000 5 (.int .u8)],lt 8 11 [.r 7,.r 17,.r 18],false⟩)]
abbrev B14:List PK:= [.ptr (.pair (.rs 5 (.int .u8)) D9),.val false (.int .i64) false]
abbrev B15:List RK:= [.val false (.sl 5 (.int .u8))]
def B16(f:A2T):Nat×Fn:=(96,⟨B14,B15,fun x=>f x.1 x.2.1⟩)
def B9l:Fn:=(B16 A0j).2
theorem B9m(f_s_l1Byte:A3v):∀ x,(D4 cfg [A6h f_s_l1Byte] B9k 20 [.tmp 4] (Tryz.f96.body.getD .skip) B14 B15).fn x=A5R f_s_l1Byte x.1 x.2.1:=by intro x;kernel_rfl
theorem B9n:B6 Tryz.prog 96 B9l:=sm MO B3 (tc Tryz.call115 B2o A8) Tryz.func96 (by kernel_rfl) (by decide) (B9m A20)
abbrev A6n:List PK:= [.val false (.rs 5 (.int .u8)) false]
abbrev A6o:List RK:= [.val false (.sl 5 (.int .u8)),.val false (.int .i64)]
def A6p(f:A0U):Nat×Fn:=(32,⟨A6n,A6o,fun x=>f x.1⟩)
def B53:Fn:=(A6p T7).2
theorem B54(f_s_l1New:A7I)(f_s_l1Bytes_r0_0:A2T)(f_s_l1Int:A4E)(f_s_l1Below:P7):∀ x,(D4 cfg [A6g f_s_l1New,B16 f_s_l1Bytes_r0_0,A55 f_s_l1Int,V2 f_s_l1Below] (B7 []) 15 [.tmp 2,.tmp 3] (Tryz.f32.body.getD .skip) A6n A6o).fn x=A3A f_s_l1New f_s_l1Bytes_r0_0 f_s_l1Int f_s_l1Below x.1:=by intro x;kernel_rfl
theorem B55:B6 Tryz.prog 32 B53:=sm MO B3 (tc Tryz.call93 B2l (tc Tryz.call96 B9n (tc Tryz.call97 A8F (tc Tryz.call98 A0l A8)))) Tryz.func32 (by kernel_rfl) (by decide) (B54 A5K A0j A2K N5)
def D29:Nat->Option Jn:=B7 [(255,⟨[],lt 60 39 [.x 65,.x 72,.x 80,.x 87],false⟩),(2047,⟨[],lt 112 19 [],false⟩)]
abbrev A6H:List PK:= [.val false (.rs 5 (.int .u8)) false]
abbrev C0s:List RK:= [.val false .bool]
def D2A(f:C05):Nat×Fn:=(5,⟨A6H,C0s,fun x=>f x.1⟩)
def F_w_FnWhole:Fn:=(D2A B3b).2
theorem D2B(f_i_AskWith:A8l)(f_i_AnswerWith:A4W)(f_w_big:C1m)(f_s_DrawReq:A8o)(f_s_DrawBlock_r99_0:A0U)(f_i_HearBytes:A5m)(f_i_ConnNew:A8r)(f_i_Preface:A8t)(f_w_sameBytes:A5n)(f_i_ReadFrames:A4l)(f_i_Feed:B0C)(f_i_GetFields:A1S)(f_i_RespOf:B1t):∀ x,(D4 (cfg.withEq [(36,2010),(59,2)]) [C0W f_i_AskWith,B4D f_i_AnswerWith,D6C f_w_big,A9D f_s_DrawReq,A6p f_s_DrawBlock_r99_0,B67 f_i_HearBytes,C0o f_i_ConnNew,C0r f_i_Preface,B6A f_w_sameBytes,B4Q f_i_ReadFrames,C4S f_i_Feed,A9p f_i_GetFields,C56 f_i_RespOf] D29 177 [.tmp 2] (Tryz.f5.body.getD .skip) A6H C0s).fn x=B3a f_i_AskWith f_i_AnswerWith f_w_big f_s_DrawReq f_s_DrawBlock_r99_0 f_i_HearBytes f_i_ConnNew f_i_Preface f_w_sameBytes f_i_ReadFrames f_i_Feed f_i_GetFields f_i_RespOf x.1:=by intro x;kernel_rfl
theorem D2C:B6 Tryz.prog 5 F_w_FnWhole:=sm MO (B8s (l:= [(36,2010),(59,2)]) B3 ⟨E4w,E50,trivial⟩) (tc Tryz.call15 D1h (tc Tryz.call26 C4O (tc Tryz.call30 E2J (tc Tryz.call31 B8e (tc Tryz.call32 B55 (tc Tryz.call33 C6N (tc Tryz.call34 D25 (tc Tryz.call35 D28 (tc Tryz.call36 C6R (tc Tryz.call37 C50 (tc Tryz.call38 D1q (tc Tryz.call39 B61 (tc Tryz.call40 D4l A8))))))))))))) Tryz.func5 (by kernel_rfl) (by decide) (D2B A4D R4 C1n A66 T7 A1T A8s A68 A3T A26 A7h V0 A7s)
end
end Go.Proofs.YthnfghmjipikhaaGreatDoor.Ev
