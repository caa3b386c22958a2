/- Each function of the program does what its plain function says. -/
import Derived.Test.YthnfghmjipikhaaGreatDoorG1
set_option linter.unusedVariables false
set_option maxRecDepth 100000
namespace Go.Proofs.YthnfghmjipikhaaGreatDoor.Ev
noncomputable section
def A6u:Nat->Option Jn:=B7 [(26,⟨[.t 8 false [.int .i64]],lt 9 8 [.t 5,.t 18],false⟩)]
abbrev A1G:List PK:= [.val false (.rs 9 .str) false,.val false .str false]
abbrev A1H:List RK:= [.val false (.int .i64)]
def A1I(f:M0):Nat×Fn:=(306,⟨A1G,A1H,fun x=>f x.1 x.2.1⟩)
def A6v:Fn:=(A1I M1).2
theorem A6w:∀ x,(C8 cfg [] A6u 19 [.tmp 4] (Tryz.f306.body.getD .skip) A1G A1H).fn x=R8 x.1 x.2.1:=by intro x;kernel_rfl
theorem A70:B4 Tryz.prog 306 A6v:=sm MO B0 A8 Tryz.func306 (by kernel_rfl) (by decide) (A6w)
abbrev A0G:List PK:= [.val false (.rs 9 .str) false,.val false .str false]
abbrev A0H:List RK:= [.val false .bool]
def A0I(f:G1):Nat×Fn:=(286,⟨A0G,A0H,fun x=>f x.1 x.2.1⟩)
def A5I:Fn:=(A0I D0).2
theorem A5J(f_slices_Index_string_string:M0):∀ x,(C8 cfg [A1I f_slices_Index_string_string] (B7 []) 9 [.tmp 4] (Tryz.f286.body.getD .skip) A0G A0H).fn x=P0 f_slices_Index_string_string x.1 x.2.1:=by intro x;kernel_rfl
theorem A5K:B4 Tryz.prog 286 A5I:=sm MO B0 (tc Tryz.call306 A70 A8) Tryz.func286 (by kernel_rfl) (by decide) (A5J M1)
def D6i:Nat->Option Jn:=B7 [(7,⟨[],lt 13 35 (lt 5 4 [.b 5,.r 27,.t 3]),false⟩),(58,⟨[.t 3 false [.bool],.t 15 false [.int .i64]],lt 16 32 (lt 5 4 [.b 5,.r 27]),false⟩),(122,⟨[.t 49 false [.int .i64]],lt 50 11 (lt 10 3 []),false⟩)]
abbrev C72:List PK:= [.val false (.rs 150 A6) false]
abbrev C73:List RK:= [.val false .bool]
def C74(f:B2Q):Nat×Fn:=(257,⟨C72,C73,fun x=>f x.1⟩)
def D6j:Fn:=(C74 A83).2
theorem D6k(f_i_valueOf:A0g)(f_i_nameOk:A82)(f_slices_Contains_string_string:G1):∀ x,(C8 (cfg.withAr [(292,3,9)]) [B56 f_i_valueOf,C71 f_i_nameOk,A0I f_slices_Contains_string_string] D6i 61 [.tmp 2] (Tryz.f257.body.getD .skip) C72 C73).fn x=B7e f_i_valueOf f_i_nameOk f_slices_Contains_string_string x.1:=by intro x;kernel_rfl
theorem D6l:B4 Tryz.prog 257 D6j:=sm MO (A7b (l:= [(292,3,9)]) B0 ⟨B5W (f:=Tryz.t292) (ti:=⟨false,.str,16,[]⟩) Tryz.underlying292 (by kernel_rfl) (by kernel_rfl) (by kernel_rfl),trivial⟩) (tc Tryz.call258 C2e (tc Tryz.call285 D6h (tc Tryz.call286 A5K A8))) Tryz.func257 (by kernel_rfl) (by decide) (D6k G2 A1u D0)
abbrev B9c:List PK:= [.val false (.int .i64) false]
abbrev B9d:List RK:= [.val false .str]
def B9e(f:A2I):Nat×Fn:=(141,⟨B9c,B9d,fun x=>f x.1⟩)
def D1U:Fn:=(B9e M2).2
theorem D1V:∀ x,(C8 (cfg.withAr [(211,6,9)]) [] (B7 []) 7 [.tmp 2] (Tryz.f141.body.getD .skip) B9c B9d).fn x=B8g x.1:=by intro x;kernel_rfl
theorem D1W:B4 Tryz.prog 141 D1U:=sm MO (A7b (l:= [(211,6,9)]) B0 ⟨B5W (f:=Tryz.t211) (ti:=⟨false,.str,16,[]⟩) Tryz.underlying211 (by kernel_rfl) (by kernel_rfl) (by kernel_rfl),trivial⟩) A8 Tryz.func141 (by kernel_rfl) (by decide) (D1V)
def E3B:Nat->Option Jn:=B7 [(26,⟨[.t 3 false [.int .i64]],lt 4 8 [],false⟩)]
abbrev D40:List PK:= [.val false .str false]
abbrev D41:List RK:= [.val false (.int .i64)]
def D42(f:B8h):Nat×Fn:=(259,⟨D40,D41,fun x=>f x.1⟩)
def E3C:Fn:=(D42 B4J).2
theorem E3D(f_i_methodOf:A2I):∀ x,(C8 cfg [B9e f_i_methodOf] E3B 13 [.tmp 2] (Tryz.f259.body.getD .skip) D40 D41).fn x=C5D f_i_methodOf x.1:=by intro x;kernel_rfl
theorem E3E:B4 Tryz.prog 259 E3C:=sm MO B0 (tc Tryz.call141 D1W A8) Tryz.func259 (by kernel_rfl) (by decide) (E3D M2)
abbrev A02:List PK:= [.val false .str false,.val false .str false]
abbrev A03:List RK:= [.val false .bool]
def A04(f:I3):Nat×Fn:=(307,⟨A02,A03,fun x=>f x.1 x.2.1⟩)
def A56:Fn:=(A04 I4).2
theorem A57:∀ x,(C8 cfg [] (B7 []) 18 [.tmp 4] (Tryz.f307.body.getD .skip) A02 A03).fn x=O4 x.1 x.2.1:=by intro x;kernel_rfl
theorem A58:B4 Tryz.prog 307 A56:=sm MO B0 A8 Tryz.func307 (by kernel_rfl) (by decide) (A57)
abbrev A05:List PK:= [.val false .str false,.val false .str false]
abbrev A06:List RK:= [.val false .str,.val false .bool]
def A07(f:I5):Nat×Fn:=(287,⟨A05,A06,fun x=>f x.1 x.2.1⟩)
def A59:Fn:=(A07 I6).2
theorem A5A(f_internal_stringslite_HasPrefix:I3):∀ x,(C8 cfg [A04 f_internal_stringslite_HasPrefix] (B7 []) 15 [.tmp 4,.tmp 5] (Tryz.f287.body.getD .skip) A05 A06).fn x=O5 f_internal_stringslite_HasPrefix x.1 x.2.1:=by intro x;kernel_rfl
theorem A5B:B4 Tryz.prog 287 A59:=sm MO B0 (tc Tryz.call307 A58 A8) Tryz.func287 (by kernel_rfl) (by decide) (A5A I4)
abbrev A74:List PK:= [.val false .str false,.val false .str false]
abbrev A75:List RK:= [.val false .str,.val false .bool]
def A76(f:A0M):Nat×Fn:=(260,⟨A74,A75,fun x=>f x.1 x.2.1⟩)
def B5n:Fn:=(A76 O6).2
theorem B5o(f_internal_stringslite_CutPrefix:I5):∀ x,(C8 cfg [A07 f_internal_stringslite_CutPrefix] (B7 []) 11 [.tmp 4,.tmp 5] (Tryz.f260.body.getD .skip) A74 A75).fn x=A36 f_internal_stringslite_CutPrefix x.1 x.2.1:=by intro x;kernel_rfl
theorem B5p:B4 Tryz.prog 260 B5n:=sm MO B0 (tc Tryz.call287 A5B A8) Tryz.func260 (by kernel_rfl) (by decide) (B5o I6)
def E08:Nat->Option Jn:=B7 [(255,⟨[],lt 42 7 [],false⟩)]
abbrev C9l:List PK:= [.val false (.rs 150 A6) false]
abbrev C9m:List RK:= [.val true A6i,.val false (.int .i64)]
def C9n(f:B5b):Nat×Fn:=(239,⟨C9l,C9m,fun x=>f x.1⟩)
def E09:Fn:=(C9n B0S).2
theorem E0A(f_i_numberField:V4)(f_i_idOk:B4H)(f_i_numberOf:A7M)(f_i_formOk:B2Q)(f_i_valueOf:A0g)(f_i_opOf:B8h)(f_strings_CutPrefix:A0M):∀ x,(C8 cfg [B3O f_i_numberField,D3t f_i_idOk,B9b f_i_numberOf,C74 f_i_formOk,B56 f_i_valueOf,D42 f_i_opOf,A76 f_strings_CutPrefix] E08 83 [.cell 2 36,.tmp 3] (Tryz.f239.body.getD .skip) C9l C9m).fn x=C0J f_i_numberField f_i_idOk f_i_numberOf f_i_formOk f_i_valueOf f_i_opOf f_strings_CutPrefix x.1:=by intro x;kernel_rfl
theorem E0B:B4 Tryz.prog 239 E09:=sm MO B0 (tc Tryz.call136 C3L (tc Tryz.call137 E3A (tc Tryz.call164 D1T (tc Tryz.call257 D6l (tc Tryz.call258 C2e (tc Tryz.call259 E3E (tc Tryz.call260 B5p A8))))))) Tryz.func239 (by kernel_rfl) (by decide) (E0A L9 B0R A4q A83 G2 B4J O6)
def C0r:Nat->Option Jn:=B7 [(63,⟨[],lt 51 21 [.t 44,.t 45],false⟩),(1011,⟨[.t 51 false [.bool]],lt 52 12 [],true⟩)]
abbrev B12:List PK:= [.ptr A0L,.val false (.int .i64) false,.val false .bool false,.val false (.rs 5 (.int .u8)) false]
abbrev B13:List RK:= [.val false (.int .i64)]
def B14(f:A2J):Nat×Fn:=(214,⟨B12,B13,fun x=>f x.1 x.2.1 x.2.2.1 x.2.2.2.1⟩)
def C0s:Fn:=(B14 A0W).2
theorem C0t(f_i_GetFields:A60)(f_i_Conn_str:W6)(f_i_hearer_stepped:P4)(f_i_headOf:B2M)(f_i_ReqOf:B5b)(f_i_StreamStep:A0U)(f_i_hearer_ended:A2F):∀ x,(C8 cfg [B6k f_i_GetFields,A7V f_i_Conn_str,A4D f_i_hearer_stepped,C6v f_i_headOf,C9n f_i_ReqOf,A8J f_i_StreamStep,B11 f_i_hearer_ended] C0r 121 [.tmp 8] (Tryz.f214.body.getD .skip) B12 B13).fn x=A5a f_i_GetFields f_i_Conn_str f_i_hearer_stepped f_i_headOf f_i_ReqOf f_i_StreamStep f_i_hearer_ended x.1 x.2.1 x.2.2.1 x.2.2.2.1:=by intro x;kernel_rfl
theorem C0u:B4 Tryz.prog 214 C0s:=sm MO B0 (tc Tryz.call39 C8G (tc Tryz.call83 B32 (tc Tryz.call216 A8M (tc Tryz.call238 D6d (tc Tryz.call239 E0B (tc Tryz.call240 B55 (tc Tryz.call241 C0q A8))))))) Tryz.func214 (by kernel_rfl) (by decide) (C0t A3K Q1 M5 A81 B0S L4 A0V)
def C3M:Nat->Option Jn:=B7 [(7,⟨[.t 5 false [.int .i64],.t 6 false [.bool]],lt 22 6 [],true⟩),(506,⟨[.t 45 false [.bool]],[.t 46,.t 47],true⟩)]
abbrev B3P:List PK:= [.ptr A0L,.val true (.pair (.int .i64) (.pair (.int .i64) (.pair (.int .i64) (.rs 5 (.int .u8))))) false]
abbrev B3Q:List RK:= [.val false (.int .i64)]
def B3R(f:A3k):Nat×Fn:=(186,⟨B3P,B3Q,fun x=>f x.1 x.2.1⟩)
def C3N:Fn:=(B3R A18).2
theorem C3O(f_i_Feed:B8f)(f_i_Frame_has:G4)(f_i_hearer_block:A2J):∀ x,(C8 cfg [D3g f_i_Feed,A0E f_i_Frame_has,B14 f_i_hearer_block] C3M 57 [.tmp 4] (Tryz.f186.body.getD .skip) B3P B3Q).fn x=A6j f_i_Feed f_i_Frame_has f_i_hearer_block x.1 x.2.1:=by intro x;kernel_rfl
theorem C3P:B4 Tryz.prog 186 C3N:=sm MO B0 (tc Tryz.call38 E32 (tc Tryz.call109 A1T (tc Tryz.call214 C0u A8))) Tryz.func186 (by kernel_rfl) (by decide) (C3O B4E G5 A0W)
def D6m:Nat->Option Jn:=B7 [(58,⟨[.t 0 false [.own 100000000],.t 7 false [.int .i64],.r 100000000 5 (.int .u8)],lt 12 13 [.r 23,.r 24,.r 1000],false⟩)]
abbrev C75:List PK:= [.val false (.sl 5 (.int .u8)) false,.val false (.int .i64) false,.val false (.int .i64) false]
abbrev C76:List RK:= [.val false (.sl 5 (.int .u8))]
def B83(f:A5b):Nat×Fn:=(145,⟨C75,C76,fun x=>f x.1 x.2.1 x.2.2.1⟩)
def D6n:Fn:=(B83 A42).2
theorem D6o:∀ x,(C8 cfg [] D6m 26 [.tmp 6] (Tryz.f145.body.getD .skip) C75 C76).fn x=B7f x.1 x.2.1 x.2.2.1:=by intro x;kernel_rfl
theorem C77:B4 Tryz.prog 145 D6n:=sm MO B0 A8 Tryz.func145 (by kernel_rfl) (by decide) (D6o)
abbrev B9f:List PK:= [.val false (.sl 5 (.int .u8)) false,.val true (.pair (.int .i64) (.pair (.int .i64) (.pair (.int .i64) (.rs 5 (.int .u8))))) false]
abbrev B9g:List RK:= [.val false (.sl 5 (.int .u8))]
def B37(f:Q2):Nat×Fn:=(69,⟨B9f,B9g,fun x=>f x.1 x.2.1⟩)
def D1a:Fn:=(B37 H0).2
theorem D1b(f_i_putBig:A5b):∀ x,(C8 cfg [B83 f_i_putBig] (B7 []) 26 [.tmp 4] (Tryz.f69.body.getD .skip) B9f B9g).fn x=B2S f_i_putBig x.1 x.2.1:=by intro x;kernel_rfl
theorem B9h:B4 Tryz.prog 69 D1a:=sm MO B0 (tc Tryz.call145 C77 A8) Tryz.func69 (by kernel_rfl) (by decide) (D1b A42)
abbrev A9O:List PK:= [.ptr A0L,.val true (.pair (.int .i64) (.pair (.int .i64) (.pair (.int .i64) (.rs 5 (.int .u8))))) false,.val false (.rs 5 (.int .u8)) false]
abbrev A9P:List RK:= []
def A9Q(f:A1c):Nat×Fn:=(187,⟨A9O,A9P,fun x=>f x.1 x.2.1 x.2.2.1⟩)
def B9i:Fn:=(A9Q W8).2
theorem B9j(f_i_putFrame:Q2)(f_i_Frame_has:G4):∀ x,(C8 cfg [B37 f_i_putFrame,A0E f_i_Frame_has] (B7 []) 21 [] (Tryz.f187.body.getD .skip) A9O A9P).fn x=A4r f_i_putFrame f_i_Frame_has x.1 x.2.1 x.2.2.1:=by intro x;kernel_rfl
theorem B9k:B4 Tryz.prog 187 B9i:=sm MO B0 (tc Tryz.call69 B9h (tc Tryz.call109 A1T A8)) Tryz.func187 (by kernel_rfl) (by decide) (B9j H0 G5)
abbrev B9l:List PK:= [.val false (.rs 5 (.int .u8)) false]
abbrev B9m:List RK:= [.val false (.int .i64),.val false .bool]
def B9n(f:A7N):Nat×Fn:=(188,⟨B9l,B9m,fun x=>f x.1⟩)
def D1c:Fn:=(B9n A4s).2
theorem D1d(f_i_GetBig:A5R):∀ x,(C8 cfg [B7w f_i_GetBig] (B7 []) 25 [.tmp 2,.tmp 3] (Tryz.f188.body.getD .skip) B9l B9m).fn x=B2T f_i_GetBig x.1:=by intro x;kernel_rfl
theorem D1e:B4 Tryz.prog 188 D1c:=sm MO B0 (tc Tryz.call155 C6P A8) Tryz.func188 (by kernel_rfl) (by decide) (D1d A1s)
abbrev A8N:List PK:= [.ptr A0L,.val true (.pair (.int .i64) (.pair (.int .i64) (.pair (.int .i64) (.rs 5 (.int .u8))))) false]
abbrev A8O:List RK:= [.val false (.int .i64)]
def A4E(f:P5):Nat×Fn:=(215,⟨A8N,A8O,fun x=>f x.1 x.2.1⟩)
def B84:Fn:=(A4E M6).2
theorem B85:∀ x,(C8 cfg [] (B7 []) 13 [.tmp 4] (Tryz.f215.body.getD .skip) A8N A8O).fn x=A43 x.1 x.2.1:=by intro x;kernel_rfl
theorem A8P:B4 Tryz.prog 215 B84:=sm MO B0 A8 Tryz.func215 (by kernel_rfl) (by decide) (B85)
abbrev B3S:List PK:= [.ptr A0L,.val true (.pair (.int .i64) (.pair (.int .i64) (.pair (.int .i64) (.rs 5 (.int .u8))))) false]
abbrev B3T:List RK:= [.val false (.int .i64)]
def B3U(f:A3l):Nat×Fn:=(189,⟨B3S,B3T,fun x=>f x.1 x.2.1⟩)
def C3Q:Fn:=(B3U A19).2
theorem C3R(f_i_Conn_str:W6)(f_i_Unpad:A7c)(f_i_Frame_has:G4)(f_i_hearer_unknown:P5)(f_i_hearer_stepped:P4):∀ x,(C8 cfg [A7V f_i_Conn_str,C0j f_i_Unpad,A0E f_i_Frame_has,A4E f_i_hearer_unknown,A4D f_i_hearer_stepped] (B7 []) 65 [.tmp 4] (Tryz.f189.body.getD .skip) B3S B3T).fn x=A6k f_i_Conn_str f_i_Unpad f_i_Frame_has f_i_hearer_unknown f_i_hearer_stepped x.1 x.2.1:=by intro x;kernel_rfl
theorem C3S:B4 Tryz.prog 189 C3Q:=sm MO B0 (tc Tryz.call83 B32 (tc Tryz.call108 C9k (tc Tryz.call109 A1T (tc Tryz.call215 A8P (tc Tryz.call216 A8M A8))))) Tryz.func189 (by kernel_rfl) (by decide) (C3R Q1 A5U G5 M6 M5)
abbrev B15:List PK:= [.ptr A0L,.val true (.pair (.int .i64) (.pair (.int .i64) (.pair (.int .i64) (.rs 5 (.int .u8))))) false]
abbrev B16:List RK:= [.val false (.int .i64)]
def B17(f:A2K):Nat×Fn:=(190,⟨B15,B16,fun x=>f x.1 x.2.1⟩)
def C0v:Fn:=(B17 A0a).2
theorem C0w(f_i_Conn_str:W6)(f_slices_Delete_impl_Str_impl_Str:H6)(f_i_hearer_unknown:P5):∀ x,(C8 cfg [A7V f_i_Conn_str,U8 f_slices_Delete_impl_Str_impl_Str,A4E f_i_hearer_unknown] (B7 []) 34 [.tmp 4] (Tryz.f190.body.getD .skip) B15 B16).fn x=A5c f_i_Conn_str f_slices_Delete_impl_Str_impl_Str f_i_hearer_unknown x.1 x.2.1:=by intro x;kernel_rfl
theorem C10:B4 Tryz.prog 190 C0v:=sm MO B0 (tc Tryz.call83 B32 (tc Tryz.call86 A4a (tc Tryz.call215 A8P A8))) Tryz.func190 (by kernel_rfl) (by decide) (C0w Q1 E5 M6)
def C11:Nat->Option Jn:=B7 [(122,⟨[.t 25 false [.bool]],[.t 26,.t 27],true⟩)]
abbrev B18:List PK:= [.ptr A0L,.val true (.pair (.int .i64) (.pair (.int .i64) (.pair (.int .i64) (.rs 5 (.int .u8))))) false]
abbrev B19:List RK:= [.val false (.int .i64)]
def B1A(f:A0b):Nat×Fn:=(152,⟨B18,B19,fun x=>f x.1 x.2.1⟩)
def C12:Fn:=(B1A P6).2
theorem C13(f_i_FrameCode:A1L)(f_i_hearer_feed:A3k)(f_i_hearer_answer:A1c)(f_i_WindowOf:A7N)(f_i_hearer_data:A3l)(f_i_hearer_reset:A2K):∀ x,(C8 cfg [B07 f_i_FrameCode,B3R f_i_hearer_feed,A9Q f_i_hearer_answer,B9n f_i_WindowOf,B3U f_i_hearer_data,B17 f_i_hearer_reset] C11 65 [.tmp 4] (Tryz.f152.body.getD .skip) B18 B19).fn x=A5d f_i_FrameCode f_i_hearer_feed f_i_hearer_answer f_i_WindowOf f_i_hearer_data f_i_hearer_reset x.1 x.2.1:=by intro x;kernel_rfl
theorem C14:B4 Tryz.prog 152 C12:=sm MO B0 (tc Tryz.call105 B6P (tc Tryz.call186 C3P (tc Tryz.call187 B9k (tc Tryz.call188 D1e (tc Tryz.call189 C3S (tc Tryz.call190 C10 A8)))))) Tryz.func152 (by kernel_rfl) (by decide) (C13 G6 A18 W8 A4s A19 A0a)
def B9o:Nat->Option Jn:=B7 [(14,⟨[.t 5 false [.int .i64],.b 1000 [.int .i64,.own 100000000,.int .i64,.bool,.own 100000001,.int .i64,.own 100000002,.int .i64,.own 100000003,.own 100000004,.int .i64,.int .i64,.own 100000005,.own 100000006],.r 100000000 5 (.int .u8),.r 100000001 5 (.int .u8),.r 100000002 150 A6,.r 100000003 150 A6,.r 100000004 113 F8,.r 100000005 75 A0f,.r 100000006 5 (.int .u8)],lt 28 7 (lt 6 14 [.b 6,.r 1001,.r 1004,.r 1006,.r 1008,.r 1009,.r 1012,.r 1013,.r 57347,.r 137217,.r 137220,.r 137222,.r 137224,.r 137225,.r 137228,.r 137229,.t 36]),false⟩)]
abbrev A9R:List PK:= [.ptr A0L,.val false (.rs 5 (.int .u8)) false]
abbrev A9S:List RK:= [.val false (.int .i64)]
def A9T(f:A1d):Nat×Fn:=(100,⟨A9R,A9S,fun x=>f x.1 x.2.1⟩)
def B9p:Fn:=(A9T A1e).2
theorem B9q(f_i_GetFrame:A0n)(f_slices_Clone_byte_byte:B5)(f_i_hearer_frame:A0b):∀ x,(C8 cfg [B30 f_i_GetFrame,E0 f_slices_Clone_byte_byte,B1A f_i_hearer_frame] B9o 37 [.tmp 4] (Tryz.f100.body.getD .skip) A9R A9S).fn x=A4t f_i_GetFrame f_slices_Clone_byte_byte f_i_hearer_frame x.1 x.2.1:=by intro x;kernel_rfl
theorem B9r:B4 Tryz.prog 100 B9p:=sm MO B0 (tc Tryz.call103 B9D (tc Tryz.call144 F9 (tc Tryz.call152 C14 A8))) Tryz.func100 (by kernel_rfl) (by decide) (B9q V9 B2 P6)
def A8l:Nat->Option Jn:=B7 [(7,⟨[.t 3 false [.int .i64]],lt 9 12 [.t 5,.t 22],true⟩),(58,⟨[.t 3 false [.int .i64],.t 11 false [.int .i64]],lt 12 9 [.t 5,.t 22],false⟩),(250,⟨[.t 6 false [.own 100002000],.t 27 false [.int .i64],.r 100002000 5 (.int .u8)],lt 28 7 [.r 33,.r 102400,.t 8],false⟩)]
abbrev A33:List PK:= [.val false (.rs 27 (.sl 5 (.int .u8))) false]
abbrev A34:List RK:= [.val false (.sl 5 (.int .u8))]
def A35(f:P1):Nat×Fn:=(101,⟨A33,A34,fun x=>f x.1⟩)
def A8m:Fn:=(A35 K2).2
theorem A8n(f_slices_Grow_byte_byte:Q7):∀ x,(C8 cfg [A4T f_slices_Grow_byte_byte] A8l 36 [.tmp 2] (Tryz.f101.body.getD .skip) A33 A34).fn x=V0 f_slices_Grow_byte_byte x.1:=by intro x;kernel_rfl
theorem A8o:B4 Tryz.prog 101 A8m:=sm MO B0 (tc Tryz.call153 B0s A8) Tryz.func101 (by kernel_rfl) (by decide) (A8n Q8)
abbrev B6l:List PK:= [.val false (.int .i64) false,.val false (.int .i64) false]
abbrev B6m:List RK:= [.val false (.sl 5 (.int .u8))]
def B6n(f:A61):Nat×Fn:=(154,⟨B6l,B6m,fun x=>f x.1 x.2.1⟩)
def C8H:Fn:=(B6n A62).2
theorem C8I(f_i_putBig:A5b):∀ x,(C8 cfg [B83 f_i_putBig] (B7 []) 9 [.tmp 4] (Tryz.f154.body.getD .skip) B6l B6m).fn x=A9n f_i_putBig x.1 x.2.1:=by intro x;kernel_rfl
theorem C8J:B4 Tryz.prog 154 C8H:=sm MO B0 (tc Tryz.call145 C77 A8) Tryz.func154 (by kernel_rfl) (by decide) (C8I A42)
abbrev B57:List PK:= [.ptr A0L,.val false (.int .i64) false]
abbrev B58:List RK:= []
def B59(f:A4u):Nat×Fn:=(102,⟨B57,B58,fun x=>f x.1 x.2.1⟩)
def C78:Fn:=(B59 A1w).2
theorem C79(f_i_putFrame:Q2)(f_i_PutGoAway:A61):∀ x,(C8 cfg [B37 f_i_putFrame,B6n f_i_PutGoAway] (B7 []) 38 [] (Tryz.f102.body.getD .skip) B57 B58).fn x=A84 f_i_putFrame f_i_PutGoAway x.1 x.2.1:=by intro x;kernel_rfl
theorem C7A:B4 Tryz.prog 102 C78:=sm MO B0 (tc Tryz.call69 B9h (tc Tryz.call154 C8J A8)) Tryz.func102 (by kernel_rfl) (by decide) (C79 H0 A62)
def B38:Nat->Option Jn:=B7 [(3,⟨[.t 1 false [.ro 5 (.int .u8)],.b 1000 [.int .i64,.own 1001,.int .i64,.bool,.own 1004,.int .i64,.own 1006,.int .i64,.own 1008,.own 1009,.int .i64,.int .i64,.own 1012,.own 1013],.r 1001 5 (.int .u8),.r 1004 5 (.int .u8),.r 1006 150 A6,.r 1008 150 A6,.r 1009 113 F8,.r 1012 75 A0f,.r 1013 5 (.int .u8)],lt 6 32 [],false⟩),(12,⟨[.t 1 false [.ro 5 (.int .u8)],.b 1000 [.int .i64,.own 1001,.int .i64,.bool,.own 1004,.int .i64,.own 1006,.int .i64,.own 1008,.own 1009,.int .i64,.int .i64,.own 1012,.own 1013],.r 1001 5 (.int .u8),.r 1004 5 (.int .u8),.r 1006 150 A6,.r 1008 150 A6,.r 1009 113 F8,.r 1012 75 A0f,.r 1013 5 (.int .u8)],lt 6 32 [],false⟩),(24,⟨[],lt 6 11 [],false⟩)]
abbrev A5C:List PK:= [.ptr A0L,.val false (.rs 5 (.int .u8)) false]
abbrev A5D:List RK:= [.val false (.rs 5 (.int .u8)),.val false (.int .i64)]
def A5E(f:S9):Nat×Fn:=(99,⟨A5C,A5D,fun x=>f x.1 x.2.1⟩)
def B39:Fn:=(A5E F2).2
theorem B3A:∀ x,(C8 cfg [] B38 39 [.tmp 4,.tmp 5] (Tryz.f99.body.getD .skip) A5C A5D).fn x=J7 x.1 x.2.1:=by intro x;kernel_rfl
theorem B3B:B4 Tryz.prog 99 B39:=sm MO B0 A8 Tryz.func99 (by kernel_rfl) (by decide) (B3A)
def C8K:Nat->Option Jn:=B7 [(7,⟨[],lt 13 8 [],false⟩),(31,⟨[.t 9 false [.int .i64],.b 7 [.int .i64,.own 100001000,.int .i64,.bool,.own 100001001,.int .i64,.own 100001002,.int .i64,.own 100001003,.own 100001004,.int .i64,.int .i64,.own 100001005,.own 100001006],.r 100001000 5 (.int .u8),.r 100001001 5 (.int .u8),.r 100001002 150 A6,.r 100001003 150 A6,.r 100001004 113 F8,.r 100001005 75 A0f,.r 100001006 5 (.int .u8)],lt 28 8 [.r 33,.r 108545,.r 108548,.r 108550,.r 108552,.r 108553,.r 108556,.r 108557,.r 143360,.r 149505,.r 149508,.r 149510,.r 149512,.r 149513,.r 149516,.r 149517],true⟩),(63,⟨[.b 7 [.int .i64,.own 100002007,.int .i64,.bool,.own 100002008,.int .i64,.own 100002009,.int .i64,.own 100002010,.own 100002011,.int .i64,.int .i64,.own 100002012,.own 100002013],.r 100002007 5 (.int .u8),.r 100002008 5 (.int .u8),.r 100002009 150 A6,.r 100002010 150 A6,.r 100002011 113 F8,.r 100002012 75 A0f,.r 100002013 5 (.int .u8)],lt 36 4 [.r 165889,.r 165892,.r 165894,.r 165896,.r 165897,.r 165900,.r 165901,.r 100001000,.r 100001001,.r 100001002,.r 100001003,.r 100001004,.r 100001005,.r 100001006],true⟩)]
abbrev B6o:List PK:= [.val true (.pair (.int .i64) (.pair (.rs 5 (.int .u8)) (.pair (.pair (.int .i64) (.pair .bool (.rs 5 (.int .u8)))) (.pair (.pair (.int .i64) (.rs 150 A6)) (.pair (.pair (.int .i64) (.rs 150 A6)) (.pair (.rs 113 F8) E9)))))) false,.val false (.rs 5 (.int .u8)) false]
abbrev B6p:List RK:= [.val true C9J,.val false (.sl 75 A0f),.val false (.sl 5 (.int .u8))]
def B6q(f:A63):Nat×Fn:=(33,⟨B6o,B6p,fun x=>f x.1 x.2.1⟩)
def C8L:Fn:=(B6q A3M).2
theorem C8M(f_i_ConnOk:A5S)(f_i_copyConn:A7I)(f_i_hearer_start_r99_0:S9)(f_i_hearer_frames:A1d)(f_slices_Concat_byte_byte:P1)(f_i_hearer_end:A4u):∀ x,(C8 cfg [B80 f_i_ConnOk,B9J f_i_copyConn,A5E f_i_hearer_start_r99_0,A9T f_i_hearer_frames,A35 f_slices_Concat_byte_byte,B59 f_i_hearer_end] C8K 46 [.cell 4 55,.tmp 5,.tmp 6] (Tryz.f33.body.getD .skip) B6o B6p).fn x=A9o f_i_ConnOk f_i_copyConn f_i_hearer_start_r99_0 f_i_hearer_frames f_slices_Concat_byte_byte f_i_hearer_end x.1 x.2.1:=by intro x;kernel_rfl
theorem C8N:B4 Tryz.prog 33 C8L:=sm MO B0 (tc Tryz.call43 C6V (tc Tryz.call82 D1E (tc Tryz.call99 B3B (tc Tryz.call100 B9r (tc Tryz.call101 A8o (tc Tryz.call102 C7A A8)))))) Tryz.func33 (by kernel_rfl) (by decide) (C8M A40 A4i F2 A1e K2 A1w)
abbrev C2f:List PK:= []
abbrev C2g:List RK:= [.val true C9J]
def C2h(f:A92):Nat×Fn:=(34,⟨C2f,C2g,fun x=>f⟩)
def D43:Fn:=(C2h A93).2
theorem D44:∀ x,(C8 cfg [] (B7 []) 4 [.cell 0 55] (Tryz.f34.body.getD .skip) C2f C2g).fn x=C23:=by intro x;kernel_rfl
theorem D45:B4 Tryz.prog 34 D43:=sm MO B0 A8 Tryz.func34 (by kernel_rfl) (by decide) (D44)
def C8O:Nat->Option Jn:=B7 [(58,⟨[.t 5 false [.int .i64]],lt 11 15 [],false⟩)]
abbrev B6r:List PK:= [.val false (.rs 5 (.int .u8)) false,.val false (.rs 5 (.int .u8)) false]
abbrev B6s:List RK:= [.val false .bool]
def B09(f:A0A):Nat×Fn:=(36,⟨B6r,B6s,fun x=>f x.1 x.2.1⟩)
def C8P:Fn:=(B09 T3).2
theorem C8Q:∀ x,(C8 cfg [] C8O 26 [.tmp 4] (Tryz.f36.body.getD .skip) B6r B6s).fn x=A9p x.1 x.2.1:=by intro x;kernel_rfl
theorem B6t:B4 Tryz.prog 36 C8P:=sm MO B0 A8 Tryz.func36 (by kernel_rfl) (by decide) (C8Q)
abbrev D46:List PK:= [.val false (.int .i64) false,.val false (.int .i64) false,.val false (.int .i64) false]
abbrev D47:List RK:= [.val false .bool]
def A28(f:J3):Nat×Fn:=(53,⟨D46,D47,fun x=>f x.1 x.2.1 x.2.2.1⟩)
def E3F:Fn:=(A28 I7).2
theorem E3G:∀ x,(C8 cfg [] (B7 []) 15 [.tmp 6] (Tryz.f53.body.getD .skip) D46 D47).fn x=C5E x.1 x.2.1 x.2.2.1:=by intro x;kernel_rfl
theorem A3h:B4 Tryz.prog 53 E3F:=sm MO B0 A8 Tryz.func53 (by kernel_rfl) (by decide) (E3G)
abbrev D48:List PK:= [.val true A6 false]
abbrev D49:List RK:= [.val false (.int .i64)]
def D4A(f:B4M):Nat×Fn:=(173,⟨D48,D49,fun x=>f x.1⟩)
def E3H:Fn:=(D4A A6S).2
theorem E3I:∀ x,(C8 cfg [] (B7 []) 11 [.tmp 2] (Tryz.f173.body.getD .skip) D48 D49).fn x=B8i x.1:=by intro x;kernel_rfl
theorem E3J:B4 Tryz.prog 173 E3H:=sm MO B0 A8 Tryz.func173 (by kernel_rfl) (by decide) (E3I)
def D6p:Nat->Option Jn:=B7 [(58,⟨[.t 3 false [.int .i64],.t 4 false [.int .i64]],lt 5 15 [],false⟩)]
abbrev C7B:List PK:= [.val true (.pair (.int .i64) (.rs 150 A6)) false]
abbrev C7C:List RK:= [.val false (.int .i64)]
def B86(f:A44):Nat×Fn:=(126,⟨C7B,C7C,fun x=>f x.1⟩)
def D6q:Fn:=(B86 A0s).2
theorem D6r(f_s_l4Of:B4M):∀ x,(C8 cfg [D4A f_s_l4Of] D6p 21 [.tmp 2] (Tryz.f126.body.getD .skip) C7B C7C).fn x=B7h f_s_l4Of x.1:=by intro x;kernel_rfl
theorem C7D:B4 Tryz.prog 126 D6q:=sm MO B0 (tc Tryz.call173 E3J A8) Tryz.func126 (by kernel_rfl) (by decide) (D6r A6S)
abbrev C2i:List PK:= [.val true (.pair (.int .i64) (.rs 150 A6)) false]
abbrev C2j:List RK:= [.val false .bool]
def B5A(f:A4N):Nat×Fn:=(51,⟨C2i,C2j,fun x=>f x.1⟩)
def D4B:Fn:=(B5A Q4).2
theorem D4C(f_s_l1In:J3)(f_s_SizeOf:A44):∀ x,(C8 cfg [A28 f_s_l1In,B86 f_s_SizeOf] (B7 []) 13 [.tmp 2] (Tryz.f51.body.getD .skip) C2i C2j).fn x=A6T f_s_l1In f_s_SizeOf x.1:=by intro x;kernel_rfl
theorem C2k:B4 Tryz.prog 51 D4B:=sm MO B0 (tc Tryz.call53 A3h (tc Tryz.call126 C7D A8)) Tryz.func51 (by kernel_rfl) (by decide) (D4C I7 A0s)
def E0C:Nat->Option Jn:=B7 [(3,⟨[],lt 3 21 [],false⟩),(26,⟨[.t 3 false [.int .i64]],lt 4 20 [],false⟩)]
abbrev C9o:List PK:= [.val false .str false]
abbrev C9p:List RK:= [.val false .bool]
def C9q(f:B5d):Nat×Fn:=(127,⟨C9o,C9p,fun x=>f x.1⟩)
def E0D:Fn:=(C9q B0U).2
theorem E0E(f_s_l1In:J3):∀ x,(C8 cfg [A28 f_s_l1In] E0C 27 [.tmp 2] (Tryz.f127.body.getD .skip) C9o C9p).fn x=C0L f_s_l1In x.1:=by intro x;kernel_rfl
theorem E0F:B4 Tryz.prog 127 E0D:=sm MO B0 (tc Tryz.call53 A3h A8) Tryz.func127 (by kernel_rfl) (by decide) (E0E I7)
abbrev C2l:List PK:= [.val false (.int .i64) false]
abbrev C2m:List RK:= [.val false (.int .i64)]
def B5B(f:A4O):Nat×Fn:=(128,⟨C2l,C2m,fun x=>f x.1⟩)
def D4D:Fn:=(B5B A0h).2
theorem D4E:∀ x,(C8 cfg [] (B7 []) 9 [.tmp 2] (Tryz.f128.body.getD .skip) C2l C2m).fn x=A95 x.1:=by intro x;kernel_rfl
theorem C2n:B4 Tryz.prog 128 D4D:=sm MO B0 A8 Tryz.func128 (by kernel_rfl) (by decide) (D4E)
def E0G:Nat->Option Jn:=B7 [(3,⟨[],lt 4 10 [],false⟩)]
abbrev C9r:List PK:= [.val true A6i false]
abbrev C9s:List RK:= [.val false .bool]
def C15(f:A7d):Nat×Fn:=(52,⟨C9r,C9s,fun x=>f x.1⟩)
def E0H:Fn:=(C15 A5e).2
theorem E0I(f_s_l1In:J3)(f_s_l11Id:B5d)(f_s_l11Most:A4O):∀ x,(C8 cfg [A28 f_s_l1In,C9q f_s_l11Id,B5B f_s_l11Most] E0G 26 [.tmp 2] (Tryz.f52.body.getD .skip) C9r C9s).fn x=C0M f_s_l1In f_s_l11Id f_s_l11Most x.1:=by intro x;kernel_rfl
theorem C9t:B4 Tryz.prog 52 E0H:=sm MO B0 (tc Tryz.call53 A3h (tc Tryz.call127 E0F (tc Tryz.call128 C2n A8))) Tryz.func52 (by kernel_rfl) (by decide) (E0I I7 B0U A0h)
abbrev C7E:List PK:= [.val true (.pair (.int .i64) (.rs 150 A6)) false]
abbrev C7F:List RK:= [.val true A3w]
def B3C(f:A20):Nat×Fn:=(54,⟨C7E,C7F,fun x=>f x.1⟩)
def D6s:Fn:=(B3C A0t).2
theorem D6t:∀ x,(C8 cfg [] (B7 []) 10 [.cell 2 32] (Tryz.f54.body.getD .skip) C7E C7F).fn x=B7i x.1:=by intro x;kernel_rfl
theorem B87:B4 Tryz.prog 54 D6s:=sm MO B0 A8 Tryz.func54 (by kernel_rfl) (by decide) (D6t)
abbrev C2o:List PK:= []
abbrev C2p:List RK:= [.val false (.sl 150 A6)]
def C2q(f:A96):Nat×Fn:=(205,⟨C2o,C2p,fun x=>f⟩)
def D4F:Fn:=(C2q A6U).2
theorem D4G:∀ x,(C8 cfg [] (B7 []) 63 [.tmp 0] (Tryz.f205.body.getD .skip) C2o C2p).fn x=C24:=by intro x;kernel_rfl
theorem D4H:B4 Tryz.prog 205 D4F:=sm MO B0 A8 Tryz.func205 (by kernel_rfl) (by decide) (D4G)
def C8R:Nat->Option Jn:=B7 [(15,⟨[.t 7 false [.int .i64]],lt 37 10 (lt 11 25 [.b 9,.t 8,.t 9,.x 25]),false⟩),(122,⟨[.t 7 false [.int .i64],.t 8 false [.int .i64]],lt 37 10 (lt 11 25 [.b 9,.t 9,.x 25]),false⟩),(3913,⟨[.b 9 [.str,.str]],lt 20 13 [.x 25],true⟩)]
abbrev B6u:List PK:= [.val true (.pair (.int .i64) (.rs 150 A6)) false,.val true A6 false]
abbrev B6v:List RK:= [.val false (.int .i64),.val false .bool]
def B6w(f:A64):Nat×Fn:=(174,⟨B6u,B6v,fun x=>f x.1 x.2.1⟩)
def C8S:Fn:=(B6w A3N).2
theorem C8T(f_s_l4First:A96):∀ x,(C8 (cfg.withEq [(150,1002)]) [C2q f_s_l4First] C8R 48 [.tmp 4,.tmp 5] (Tryz.f174.body.getD .skip) B6u B6v).fn x=A9q f_s_l4First x.1 x.2.1:=by intro x;kernel_rfl
theorem C8U:B4 Tryz.prog 174 C8S:=sm MO (C9H (l:= [(150,1002)]) B0 ⟨E6p,trivial⟩) (tc Tryz.call205 D4H A8) Tryz.func174 (by kernel_rfl) (by decide) (C8T A6U)
def C8V:Nat->Option Jn:=B7 [(7,⟨[],lt 14 8 [],false⟩),(15,⟨[.t 3 false [.int .i64]],[.t 23,.t 24],true⟩),(31,⟨[.t 3 false [.int .i64]],[.t 25,.t 26],true⟩),(2047,⟨[.t 3 false [.int .i64],.t 9 false [.own 100003000],.r 100003000 5 (.int .u8)],lt 54 11 [.r 50,.r 61,.r 62],true⟩),(8188,⟨[.t 3 false [.int .i64],.t 9 false [.own 100003000],.r 100003000 5 (.int .u8)],lt 54 11 [.r 50,.r 61,.r 62],false⟩)]
abbrev B70:List PK:= [.val false (.rs 5 (.int .u8)) false,.val false (.int .i64) false,.val false (.int .i64) false,.val false (.int .i64) false]
abbrev B71:List RK:= [.val false (.sl 5 (.int .u8))]
def B0A(f:A1P):Nat×Fn:=(175,⟨B70,B71,fun x=>f x.1 x.2.1 x.2.2.1 x.2.2.2.1⟩)
def C8W:Fn:=(B0A T4).2
theorem C8a(f_s_l1In:J3):∀ x,(C8 cfg [A28 f_s_l1In] C8V 70 [.tmp 8] (Tryz.f175.body.getD .skip) B70 B71).fn x=A9r f_s_l1In x.1 x.2.1 x.2.2.1 x.2.2.2.1:=by intro x;kernel_rfl
theorem B72:B4 Tryz.prog 175 C8W:=sm MO B0 (tc Tryz.call53 A3h A8) Tryz.func175 (by kernel_rfl) (by decide) (C8a I7)
abbrev C7G:List PK:= [.val false (.int .i64) false]
abbrev C7H:List RK:= [.val false (.int .i64),.val false (.int .i64)]
def C7I(f:B2U):Nat×Fn:=(176,⟨C7G,C7H,fun x=>f x.1⟩)
def D6u:Fn:=(C7I B2V).2
theorem D6v:∀ x,(C8 cfg [] (B7 []) 9 [.tmp 2,.tmp 3] (Tryz.f176.body.getD .skip) C7G C7H).fn x=C5F x.1:=by intro x;kernel_rfl
theorem D6w:B4 Tryz.prog 176 D6u:=sm MO B0 A8 Tryz.func176 (by kernel_rfl) (by decide) (D6v)
abbrev C7J:List PK:= []
abbrev C7K:List RK:= [.val false (.sl 3 (.int .i64))]
def B88(f:A5f):Nat×Fn:=(228,⟨C7J,C7K,fun x=>f⟩)
def D70:Fn:=(B88 A5g).2
theorem D71:∀ x,(C8 cfg [] (B7 []) 2 [.tmp 0] (Tryz.f228.body.getD .skip) C7J C7K).fn x=C5G:=by intro x;kernel_rfl
theorem C7L:B4 Tryz.prog 228 D70:=sm MO B0 A8 Tryz.func228 (by kernel_rfl) (by decide) (D71)
def D4I:Nat->Option Jn:=B7 [(506,⟨[.t 2 false [.own 8],.t 3 false [.int .i64],.t 4 false [.int .i64],.t 5 false [.int .i64],.r 8 3 (.int .i64)],lt 9 28 [.t 6,.x 19,.x 36],false⟩),(32402,⟨[.t 2 false [.own 8],.t 3 false [.int .i64],.t 4 false [.int .i64],.t 6 false [.int .i64],.r 8 3 (.int .i64)],lt 13 24 [.x 19,.x 36],false⟩)]
abbrev C2r:List PK:= []
abbrev C2s:List RK:= [.val false (.sl 3 (.int .i64))]
def C2t(f:A97):Nat×Fn:=(229,⟨C2r,C2s,fun x=>f⟩)
def D4J:Fn:=(C2t A6V).2
theorem D4K(f_s_l3Lens:A5f):∀ x,(C8 cfg [B88 f_s_l3Lens] D4I 38 [.tmp 0] (Tryz.f229.body.getD .skip) C2r C2s).fn x=B4N f_s_l3Lens:=by intro x;kernel_rfl
theorem D4L:B4 Tryz.prog 229 D4J:=sm MO B0 (tc Tryz.call228 C7L A8) Tryz.func229 (by kernel_rfl) (by decide) (D4K A5g)
def E3K:Nat->Option Jn:=B7 [(127,⟨[.t 5 false [.own 100000001],.t 6 false [.int .i64],.t 7 false [.int .i64],.r 100000001 5 (.int .u8)],lt 12 48 [.r 11,.r 52,.r 53,.r 100001000,.t 8,.x 23,.x 31,.x 39],true⟩),(1018,⟨[.t 5 false [.own 100000001],.t 6 false [.int .i64],.t 7 false [.int .i64],.t 8 false [.int .i64],.r 100000001 5 (.int .u8)],lt 12 48 [.r 11,.r 52,.r 53,.r 100001000,.x 23,.x 31,.x 39],false⟩),(130342,⟨[.t 5 false [.own 100001000],.t 6 false [.int .i64],.t 7 false [.int .i64],.r 100001000 5 (.int .u8)],lt 42 18 [.r 11,.r 52,.r 53,.r 100000001],false⟩)]
abbrev D4M:List PK:= [.val false .str false]
abbrev D4N:List RK:= [.val false (.sl 5 (.int .u8))]
def D4O(f:B8j):Nat×Fn:=(206,⟨D4M,D4N,fun x=>f x.1⟩)
def E3L:Fn:=(D4O B4O).2
theorem E3M(f_s_l3Lens:A5f)(f_s_l3Codes:A97):∀ x,(C8 cfg [B88 f_s_l3Lens,C2t f_s_l3Codes] E3K 78 [.tmp 2] (Tryz.f206.body.getD .skip) D4M D4N).fn x=C5H f_s_l3Lens f_s_l3Codes x.1:=by intro x;kernel_rfl
theorem E3N:B4 Tryz.prog 206 E3L:=sm MO B0 (tc Tryz.call228 C7L (tc Tryz.call229 D4L A8)) Tryz.func206 (by kernel_rfl) (by decide) (E3M A5g A6V)
abbrev B73:List PK:= [.val false (.rs 5 (.int .u8)) false,.val false .str false]
abbrev B74:List RK:= [.val false (.sl 5 (.int .u8))]
def B75(f:A66):Nat×Fn:=(177,⟨B73,B74,fun x=>f x.1 x.2.1⟩)
def C8b:Fn:=(B75 A1Q).2
theorem C8c(f_s_PutPrefix:A1P)(f_s_Huff:B8j):∀ x,(C8 cfg [B0A f_s_PutPrefix,D4O f_s_Huff] (B7 []) 25 [.tmp 4] (Tryz.f177.body.getD .skip) B73 B74).fn x=A9s f_s_PutPrefix f_s_Huff x.1 x.2.1:=by intro x;kernel_rfl
theorem C8d:B4 Tryz.prog 177 C8b:=sm MO B0 (tc Tryz.call175 B72 (tc Tryz.call206 E3N A8)) Tryz.func177 (by kernel_rfl) (by decide) (C8c T4 B4O)
def C3T:Nat->Option Jn:=B7 [(12,⟨[.b 1 [.int .i64,.ro 150 A6]],lt 3 13 [],false⟩)]
abbrev B3V:List PK:= [.val true (.pair (.int .i64) (.rs 150 A6)) false]
abbrev B3W:List RK:= [.val true (.pair (.int .i64) (.rs 150 A6))]
def B3a(f:A3n):Nat×Fn:=(207,⟨B3V,B3W,fun x=>f x.1⟩)
def C3U:Fn:=(B3a A1B).2
theorem C3V(f_s_SizeOf:A44):∀ x,(C8 cfg [B86 f_s_SizeOf] C3T 17 [.cell 2 32] (Tryz.f207.body.getD .skip) B3V B3W).fn x=A6l f_s_SizeOf x.1:=by intro x;kernel_rfl
theorem C3W:B4 Tryz.prog 207 C3U:=sm MO B0 (tc Tryz.call126 C7D A8) Tryz.func207 (by kernel_rfl) (by decide) (C3V A0s)
abbrev B3b:List PK:= [.val true (.pair (.int .i64) (.rs 150 A6)) false,.val true A6 false]
abbrev B3c:List RK:= [.val true (.pair (.int .i64) (.rs 150 A6))]
def B3d(f:A3o):Nat×Fn:=(178,⟨B3b,B3c,fun x=>f x.1 x.2.1⟩)
def C3a:Fn:=(B3d A1C).2
theorem C3b(f_s_l4Fit_r99_0:A3n):∀ x,(C8 cfg [B3a f_s_l4Fit_r99_0] (B7 []) 14 [.cell 4 32] (Tryz.f178.body.getD .skip) B3b B3c).fn x=A6m f_s_l4Fit_r99_0 x.1 x.2.1:=by intro x;kernel_rfl
theorem C3c:B4 Tryz.prog 178 C3a:=sm MO B0 (tc Tryz.call207 C3W A8) Tryz.func178 (by kernel_rfl) (by decide) (C3b A1B)
def B89:Nat->Option Jn:=B7 [(7,⟨[],lt 16 8 [],false⟩),(31,⟨[],lt 32 5 [],false⟩),(62,⟨[.t 36 false [.bool]],lt 32 4 [],true⟩),(255,⟨[.t 13 false [.own 100003000],.r 100003000 5 (.int .u8)],lt 51 6 [.r 208896,.r 233472],true⟩)]
abbrev A8Q:List PK:= [.val true (.pair (.int .i64) (.rs 150 A6)) false,.val true A6 false,.val false (.int .i64) false]
abbrev A8R:List RK:= [.val false (.sl 5 (.int .u8)),.val true (.pair (.int .i64) (.rs 150 A6))]
def A8S(f:U3):Nat×Fn:=(129,⟨A8Q,A8R,fun x=>f x.1 x.2.1 x.2.2.1⟩)
def B8A:Fn:=(A8S J4).2
theorem B8B(f_s_TableOk:A4N)(f_s_l1In:J3)(f_s_l4Copy:A20)(f_s_FindField:A64)(f_s_PutPrefix:A1P)(f_s_l5Mode:B2U)(f_s_PutString:A66)(f_s_l4Add_r99_0:A3o):∀ x,(C8 cfg [B5A f_s_TableOk,A28 f_s_l1In,B3C f_s_l4Copy,B6w f_s_FindField,B0A f_s_PutPrefix,C7I f_s_l5Mode,B75 f_s_PutString,B3d f_s_l4Add_r99_0] B89 69 [.tmp 6,.cell 7 32] (Tryz.f129.body.getD .skip) A8Q A8R).fn x=A45 f_s_TableOk f_s_l1In f_s_l4Copy f_s_FindField f_s_PutPrefix f_s_l5Mode f_s_PutString f_s_l4Add_r99_0 x.1 x.2.1 x.2.2.1:=by intro x;kernel_rfl
theorem B8C:B4 Tryz.prog 129 B8A:=sm MO B0 (tc Tryz.call51 C2k (tc Tryz.call53 A3h (tc Tryz.call54 B87 (tc Tryz.call174 C8U (tc Tryz.call175 B72 (tc Tryz.call176 D6w (tc Tryz.call177 C8d (tc Tryz.call178 C3c A8)))))))) Tryz.func129 (by kernel_rfl) (by decide) (B8B Q4 I7 A0t A3N T4 B2V A1Q A1C)
abbrev B76:List PK:= [.val false (.int .i64) false]
abbrev B77:List RK:= [.val false .str]
def B78(f:A67):Nat×Fn:=(130,⟨B76,B77,fun x=>f x.1⟩)
def C8e:Fn:=(B78 A68).2
theorem C8f:∀ x,(C8 cfg [] (B7 []) 7 [.tmp 2] (Tryz.f130.body.getD .skip) B76 B77).fn x=B62 x.1:=by intro x;kernel_rfl
theorem C8g:B4 Tryz.prog 130 C8e:=sm MO B0 A8 Tryz.func130 (by kernel_rfl) (by decide) (C8f)
abbrev C2u:List PK:= [.val false (.int .i64) false]
abbrev C2v:List RK:= [.val false .str]
def C2w(f:A98):Nat×Fn:=(131,⟨C2u,C2v,fun x=>f x.1⟩)
def D4P:Fn:=(C2w A99).2
theorem D4Q:∀ x,(C8 cfg [] (B7 []) 10 [.tmp 2] (Tryz.f131.body.getD .skip) C2u C2v).fn x=C25 x.1:=by intro x;kernel_rfl
theorem D4R:B4 Tryz.prog 131 D4P:=sm MO B0 A8 Tryz.func131 (by kernel_rfl) (by decide) (D4Q)
abbrev B1B:List PK:= [.val false (.int .i64) false]
abbrev B1C:List RK:= [.val false .str]
def B1D(f:A2M):Nat×Fn:=(132,⟨B1B,B1C,fun x=>f x.1⟩)
def C16:Fn:=(B1D A2N).2
theorem C17(f_s_l1Text_nil:A4e):∀ x,(C8 cfg [B4p f_s_l1Text_nil] (B7 []) 20 [.tmp 2] (Tryz.f132.body.getD .skip) B1B B1C).fn x=A0c f_s_l1Text_nil x.1:=by intro x;kernel_rfl
theorem C18:B4 Tryz.prog 132 C16:=sm MO B0 (tc Tryz.call132 C6G A8) Tryz.func132 (by kernel_rfl) (by decide) (C17 A4f)
abbrev B1E:List PK:= [.val false (.int .i64) false]
abbrev B1F:List RK:= [.val false .str]
def B1G(f:A2O):Nat×Fn:=(132,⟨B1E,B1F,fun x=>f x.1⟩)
def C19:Fn:=(B1G A2P).2
theorem C1A(f_s_l1Text_r89_1:A2M):∀ x,(C8 cfg [B1D f_s_l1Text_r89_1] (B7 []) 20 [.tmp 2] (Tryz.f132.body.getD .skip) B1E B1F).fn x=B0V f_s_l1Text_r89_1 x.1:=by intro x;kernel_rfl
theorem C1B:B4 Tryz.prog 132 C19:=sm MO B0 (tc Tryz.call132 C18 A8) Tryz.func132 (by kernel_rfl) (by decide) (C1A A2N)
abbrev B1H:List PK:= [.val false (.int .i64) false]
abbrev B1I:List RK:= [.val false .str]
def B1J(f:A2Q):Nat×Fn:=(132,⟨B1H,B1I,fun x=>f x.1⟩)
def C1C:Fn:=(B1J A2R).2
theorem C1D(f_s_l1Text_r89_2:A2O):∀ x,(C8 cfg [B1G f_s_l1Text_r89_2] (B7 []) 20 [.tmp 2] (Tryz.f132.body.getD .skip) B1H B1I).fn x=B0W f_s_l1Text_r89_2 x.1:=by intro x;kernel_rfl
theorem C1E:B4 Tryz.prog 132 C1C:=sm MO B0 (tc Tryz.call132 C1B A8) Tryz.func132 (by kernel_rfl) (by decide) (C1D A2P)
abbrev B1K:List PK:= [.val false (.int .i64) false]
abbrev B1L:List RK:= [.val false .str]
def B1M(f:A2S):Nat×Fn:=(132,⟨B1K,B1L,fun x=>f x.1⟩)
def C1F:Fn:=(B1M A2T).2
theorem C1G(f_s_l1Text_r89_3:A2Q):∀ x,(C8 cfg [B1J f_s_l1Text_r89_3] (B7 []) 20 [.tmp 2] (Tryz.f132.body.getD .skip) B1K B1L).fn x=B0a f_s_l1Text_r89_3 x.1:=by intro x;kernel_rfl
theorem C1H:B4 Tryz.prog 132 C1F:=sm MO B0 (tc Tryz.call132 C1E A8) Tryz.func132 (by kernel_rfl) (by decide) (C1G A2R)
abbrev B1N:List PK:= [.val false (.int .i64) false]
abbrev B1O:List RK:= [.val false .str]
def B1P(f:A2U):Nat×Fn:=(132,⟨B1N,B1O,fun x=>f x.1⟩)
def C1I:Fn:=(B1P A2V).2
theorem C1J(f_s_l1Text_r89_4:A2S):∀ x,(C8 cfg [B1M f_s_l1Text_r89_4] (B7 []) 20 [.tmp 2] (Tryz.f132.body.getD .skip) B1N B1O).fn x=B0b f_s_l1Text_r89_4 x.1:=by intro x;kernel_rfl
theorem C1K:B4 Tryz.prog 132 C1I:=sm MO B0 (tc Tryz.call132 C1H A8) Tryz.func132 (by kernel_rfl) (by decide) (C1J A2T)
abbrev B1Q:List PK:= [.val false (.int .i64) false]
abbrev B1R:List RK:= [.val false .str]
def B1S(f:A2W):Nat×Fn:=(132,⟨B1Q,B1R,fun x=>f x.1⟩)
def C1L:Fn:=(B1S A2a).2
theorem C1M(f_s_l1Text_r89_5:A2U):∀ x,(C8 cfg [B1P f_s_l1Text_r89_5] (B7 []) 20 [.tmp 2] (Tryz.f132.body.getD .skip) B1Q B1R).fn x=B0c f_s_l1Text_r89_5 x.1:=by intro x;kernel_rfl
theorem C1N:B4 Tryz.prog 132 C1L:=sm MO B0 (tc Tryz.call132 C1K A8) Tryz.func132 (by kernel_rfl) (by decide) (C1M A2V)
abbrev B1T:List PK:= [.val false (.int .i64) false]
abbrev B1U:List RK:= [.val false .str]
def B1V(f:A2b):Nat×Fn:=(132,⟨B1T,B1U,fun x=>f x.1⟩)
def C1O:Fn:=(B1V A2c).2
theorem C1P(f_s_l1Text_r89_6:A2W):∀ x,(C8 cfg [B1S f_s_l1Text_r89_6] (B7 []) 20 [.tmp 2] (Tryz.f132.body.getD .skip) B1T B1U).fn x=B0d f_s_l1Text_r89_6 x.1:=by intro x;kernel_rfl
theorem C1Q:B4 Tryz.prog 132 C1O:=sm MO B0 (tc Tryz.call132 C1N A8) Tryz.func132 (by kernel_rfl) (by decide) (C1P A2a)
abbrev B1W:List PK:= [.val false (.int .i64) false]
abbrev B1a:List RK:= [.val false .str]
def B1b(f:A2d):Nat×Fn:=(132,⟨B1W,B1a,fun x=>f x.1⟩)
def C1R:Fn:=(B1b A2e).2
theorem C1S(f_s_l1Text_r89_7:A2b):∀ x,(C8 cfg [B1V f_s_l1Text_r89_7] (B7 []) 20 [.tmp 2] (Tryz.f132.body.getD .skip) B1W B1a).fn x=B0e f_s_l1Text_r89_7 x.1:=by intro x;kernel_rfl
theorem C1T:B4 Tryz.prog 132 C1R:=sm MO B0 (tc Tryz.call132 C1Q A8) Tryz.func132 (by kernel_rfl) (by decide) (C1S A2c)
abbrev B1c:List PK:= [.val false (.int .i64) false]
abbrev B1d:List RK:= [.val false .str]
def B1e(f:A2f):Nat×Fn:=(132,⟨B1c,B1d,fun x=>f x.1⟩)
def C1U:Fn:=(B1e A2g).2
theorem C1V(f_s_l1Text_r89_8:A2d):∀ x,(C8 cfg [B1b f_s_l1Text_r89_8] (B7 []) 20 [.tmp 2] (Tryz.f132.body.getD .skip) B1c B1d).fn x=B0f f_s_l1Text_r89_8 x.1:=by intro x;kernel_rfl
theorem C1W:B4 Tryz.prog 132 C1U:=sm MO B0 (tc Tryz.call132 C1T A8) Tryz.func132 (by kernel_rfl) (by decide) (C1V A2e)
abbrev C7M:List PK:= [.val false (.int .i64) false]
abbrev C7N:List RK:= [.val false .str]
def C7O(f:B2W):Nat×Fn:=(132,⟨C7M,C7N,fun x=>f x.1⟩)
def D72:Fn:=(C7O B2a).2
theorem D73(f_s_l1Text_r89_9:A2f):∀ x,(C8 cfg [B1e f_s_l1Text_r89_9] (B7 []) 20 [.tmp 2] (Tryz.f132.body.getD .skip) C7M C7N).fn x=C5I f_s_l1Text_r89_9 x.1:=by intro x;kernel_rfl
theorem D74:B4 Tryz.prog 132 D72:=sm MO B0 (tc Tryz.call132 C1W A8) Tryz.func132 (by kernel_rfl) (by decide) (D73 A2g)
abbrev B9s:List PK:= [.val true A6i false]
abbrev B9t:List RK:= [.val false (.sl 150 A6)]
def B9u(f:A7O):Nat×Fn:=(56,⟨B9s,B9t,fun x=>f x.1⟩)
def D1f:Fn:=(B9u A4w).2
theorem D1g(f_s_ReqOk:A7d)(f_s_l11Method:A67)(f_s_l11Name:A98)(f_s_l1Text:B2W):∀ x,(C8 cfg [C15 f_s_ReqOk,B78 f_s_l11Method,C2w f_s_l11Name,C7O f_s_l1Text] (B7 []) 33 [.tmp 2] (Tryz.f56.body.getD .skip) B9s B9t).fn x=B2b f_s_ReqOk f_s_l11Method f_s_l11Name f_s_l1Text x.1:=by intro x;kernel_rfl
theorem D1h:B4 Tryz.prog 56 D1f:=sm MO B0 (tc Tryz.call52 C9t (tc Tryz.call130 C8g (tc Tryz.call131 D4R (tc Tryz.call132 D74 A8)))) Tryz.func56 (by kernel_rfl) (by decide) (D1g A5e A68 A99 B2a)
abbrev C30:List PK:= [.val true (.pair (.int .i64) (.pair (.int .i64) (.pair (.int .i64) (.rs 5 (.int .u8))))) false]
abbrev C31:List RK:= [.val false .bool]
def C32(f:A9A):Nat×Fn:=(133,⟨C30,C31,fun x=>f x.1⟩)
def D4S:Fn:=(C32 A6W).2
theorem D4T(f_s_l1In:J3):∀ x,(C8 cfg [A28 f_s_l1In] (B7 []) 22 [.tmp 2] (Tryz.f133.body.getD .skip) C30 C31).fn x=B4P f_s_l1In x.1:=by intro x;kernel_rfl
theorem D4U:B4 Tryz.prog 133 D4S:=sm MO B0 (tc Tryz.call53 A3h A8) Tryz.func133 (by kernel_rfl) (by decide) (D4T I7)
end
end Go.Proofs.YthnfghmjipikhaaGreatDoor.Ev
