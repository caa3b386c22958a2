/- Each function of the program does what its plain function says. -/
import Derived.Test.YthnfghmjipikhaaGreatDoorG2
set_option linter.unusedVariables false
set_option maxRecDepth 100000
namespace Go.Proofs.YthnfghmjipikhaaGreatDoor.Ev
open Tryz
noncomputable section
def A5V(f:A6b):Nat×Fn:=(225,⟨[.ptr (.pair (.pair (.int .i64) (.pair (.sl 5 (.int .u8)) (.pair A03 (.pair (.pair (.int .i64) (.rs 150 B8)) (.pair A07 (.pair (.sl 113 E6) M8)))))) (.pair (.sl 75 M6) (.sl 5 (.int .u8)))),.val false (.int .i64) false,.val false (.int .i64) false],[],fun x=>f x.1 x.2.1 x.2.2.1⟩)
theorem C8G{F5:P8}{B0I:A9c}{A2L:A6a}:EF cfg [T2 F5,B5U B0I,A5U A2L] [] f225 (A5V (C0K F5 B0I A2L)):=fun _=>by kernel_rfl
theorem B6o:SQ (A5V A9f):=sF MO C5 (tc call169 A0P (tc call246 D3o (tc call247 B6n B9))) func225 C8G
def B08(f:A5N):Nat×Fn:=(223,⟨[.ptr (.pair (.pair (.int .i64) (.pair (.sl 5 (.int .u8)) (.pair A03 (.pair (.pair (.int .i64) (.rs 150 B8)) (.pair A07 (.pair (.sl 113 E6) M8)))))) (.pair (.sl 75 M6) (.sl 5 (.int .u8)))),.val false (.int .i64) false,.val false .bool false,.val false (.rs 5 (.int .u8)) false],[],fun x=>f x.1 x.2.1 x.2.2.1 x.2.2.2.1⟩)
theorem C8H{A1i:A8e}{F5:P8}{A0o:A6b}{A3t:A3n}{B2A:B1m}:EF cfg [B8h A1i,T2 F5,A5V A0o,A7H A3t,A8N B2A] [] f223 (B08 (A9l A1i F5 A0o A3t B2A)):=fun _=>by kernel_rfl
theorem C8I:SQ (B08 A5O):=sF MO C5 (tc call77 C9c (tc call169 A0P (tc call225 B6o (tc call244 C4l (tc call245 C6k B9))))) func223 C8H
def C1E(f:B3q):Nat×Fn:=(226,⟨[.val false (.rs 5 (.int .u8)) false],[.val false (.int .i64),.val false .bool],fun x=>f x.1⟩)
theorem D7w{A3j:B0p}:EF cfg [C18 A3j] [] f226 (C1E (C0P A3j)):=fun _=>by kernel_rfl
theorem D80:SQ (C1E B3r):=sF MO C5 (tc call171 D3j B9) func226 D7w
def B1A(f:A6f):Nat×Fn:=(202,⟨[.ptr (.pair (.pair (.int .i64) (.pair (.sl 5 (.int .u8)) (.pair A03 (.pair (.pair (.int .i64) (.rs 150 B8)) (.pair A07 (.pair (.sl 113 E6) M8)))))) (.pair (.sl 75 M6) (.sl 5 (.int .u8)))),.val true (.pair (.int .i64) (.pair (.int .i64) (.pair (.int .i64) (.rs 5 (.int .u8))))) false],[],fun x=>f x.1 x.2.1⟩)
theorem C9j{F5:P8}{C8R:C7a}{A5b:A5N}:EF cfg [T2 F5,D3m C8R,B08 A5b] [(7,⟨[.t 4 false [.bool]],lt 14 7 [],true⟩),(126,⟨[.t 44 false [.bool]],[.t 45,.t 46],true⟩)] f202 (B1A (B0v F5 C8R A5b)):=fun _=>by kernel_rfl
theorem C9k:SQ (B1A A6g):=sF MO C5 (tc call169 A0P (tc call222 E96 (tc call223 C8I B9))) func202 C9j
def B1B(f:B6a):Nat×Fn:=(203,⟨[.ptr (.pair (.pair (.int .i64) (.pair (.sl 5 (.int .u8)) (.pair A03 (.pair (.pair (.int .i64) (.rs 150 B8)) (.pair A07 (.pair (.sl 113 E6) M8)))))) (.pair (.sl 75 M6) (.sl 5 (.int .u8)))),.val true (.pair (.int .i64) (.pair (.int .i64) (.pair (.int .i64) (.rs 5 (.int .u8))))) false],[],fun x=>f x.1 x.2.1⟩)
theorem C9l{A1i:A8e}{F5:P8}{A71:B4U}{A0o:A6b}:EF cfg [B8h A1i,T2 F5,C4R A71,A5V A0o] [] f203 (B1B (C2s A1i F5 A71 A0o)):=fun _=>by kernel_rfl
theorem C9m:SQ (B1B B6b):=sF MO C5 (tc call77 C9c (tc call169 A0P (tc call224 D5r (tc call225 B6o B9)))) func203 C9l
def B09(f:A5P):Nat×Fn:=(204,⟨[.ptr (.pair (.pair (.int .i64) (.pair (.sl 5 (.int .u8)) (.pair A03 (.pair (.pair (.int .i64) (.rs 150 B8)) (.pair A07 (.pair (.sl 113 E6) M8)))))) (.pair (.sl 75 M6) (.sl 5 (.int .u8)))),.val true (.pair (.int .i64) (.pair (.int .i64) (.pair (.int .i64) (.rs 5 (.int .u8))))) false],[],fun x=>f x.1 x.2.1⟩)
theorem C8J{A1i:A8e}{F5:P8}{A2U:A8d}{B4L:B3q}{A73:A6B}:EF cfg [B8h A1i,T2 F5,A6q A2U,C1E B4L,B8g A73] [] f204 (B09 (A9m A1i F5 A2U B4L A73)):=fun _=>by kernel_rfl
theorem C8K:SQ (B09 A5Q):=sF MO C5 (tc call77 C9c (tc call169 A0P (tc call199 B8i (tc call226 D80 (tc call227 C9I B9))))) func204 C8J
def B0A(f:A5R):Nat×Fn:=(170,⟨[.ptr (.pair (.pair (.int .i64) (.pair (.sl 5 (.int .u8)) (.pair A03 (.pair (.pair (.int .i64) (.rs 150 B8)) (.pair A07 (.pair (.sl 113 E6) M8)))))) (.pair (.sl 75 M6) (.sl 5 (.int .u8)))),.val true (.pair (.int .i64) (.pair (.int .i64) (.pair (.int .i64) (.rs 5 (.int .u8))))) false],[],fun x=>f x.1 x.2.1⟩)
theorem C8L{F5:P8}{A1O:A52}{A74:A6f}{B71:B6a}{A5c:A5P}:EF cfg [T2 F5,B1w A1O,B1A A74,B1B B71,B09 A5c] [(14,⟨[.t 17 false [.bool]],lt 18 17 [],true⟩)] f170 (B0A (A9n F5 A1O A74 B71 A5c)):=fun _=>by kernel_rfl
theorem C8M:SQ (B0A A5S):=sF MO C5 (tc call169 A0P (tc call201 C5I (tc call202 C9k (tc call203 C9m (tc call204 C8K B9))))) func170 C8L
def B1C(f:A44):Nat×Fn:=(119,⟨[.ptr (.pair (.pair (.int .i64) (.pair (.sl 5 (.int .u8)) (.pair A03 (.pair (.pair (.int .i64) (.rs 150 B8)) (.pair A07 (.pair (.sl 113 E6) M8)))))) (.pair (.sl 75 M6) (.sl 5 (.int .u8)))),.val false (.int .u8) false],[],fun x=>f x.1 x.2.1⟩)
theorem C9n{A2K:A6V}{F5:P8}{A5d:A5R}:EF cfg [B45 A2K,T2 F5,B0A A5d] [] f119 (B1C (A6h A2K F5 A5d)):=fun _=>by kernel_rfl
theorem C9o:SQ (B1C A1H):=sF MO C5 (tc call122 C8D (tc call169 A0P (tc call170 C8M B9))) func119 C9n
def C6l(f:B5D):Nat×Fn:=(123,⟨[.val true (.pair (.int .i64) (.pair B4i (.pair (.rs 5 (.int .u8)) (.int .i64)))) false,.val true (.pair (.int .i64) (.pair B4i (.pair (.rs 5 (.int .u8)) (.int .i64)))) false],[.val false .bool],fun x=>f x.1 x.2.1⟩)
theorem E2s{K0:A11}{A6r:B4S}:EF cfg [A5v K0,C4P A6r] [] f123 (C6l (C64 K0 A6r)):=fun _=>by kernel_rfl
theorem E2t:SQ (C6l C0Q):=sF MO C5 (tc call16 B2a (tc call172 D5p B9)) func123 E2s
def C3g(f:B6c):Nat×Fn:=(47,⟨[.val false (.rs 75 M6) false,.val false (.rs 75 M6) false],[.val false .bool],fun x=>f x.1 x.2.1⟩)
theorem E0P{B1F:B5D}:EF cfg [C6l B1F] [(58,⟨[.t 5 false [.int .i64]],lt 11 16 [],false⟩)] f47 (C3g (C2t B1F)):=fun _=>by kernel_rfl
theorem E0Q:SQ (C3g B2Q):=sF MO C5 (tc call123 E2t B9) func47 E0P
def B80(f:B1o):Nat×Fn:=(48,⟨[.val false (.sl 75 M6) true,.val false (.int .i64) false],[.val false (.int .i64)],fun x=>f x.1 x.2.1⟩)
theorem D4n{H8:Q5}{F7:M1}:EF cfg [A3g H8,A3L F7] [(26,⟨[.t 0 false [.own 1000],.t 1 false [.int .i64],.t 5 false [.int .i64],.r 1000 75 M6],lt 6 52 [.x 15,.x 22,.x 31,.x 39,.x 46,.x 54],false⟩)] f48 (B80 (C50 H8 F7)):=fun _=>by kernel_rfl
theorem D4o:SQ (B80 B1p):=sF MO C5 (tc call19 A7W (tc call124 A6p B9)) func48 D4n
def B81(f:B1q):Nat×Fn:=(49,⟨[.val false (.rs 75 M6) false,.val false (.int .i64) false],[.val false (.int .i64)],fun x=>f x.1 x.2.1⟩)
theorem D4p{H9:Q6}{F7:M1}:EF cfg [A3h H9,A3L F7] [(26,⟨[.t 1 false [.int .i64],.t 5 false [.int .i64]],lt 6 64 [],false⟩)] f49 (B81 (C51 H9 F7)):=fun _=>by kernel_rfl
theorem D4q:SQ (B81 B1r):=sF MO C5 (tc call20 A7a (tc call124 A6p B9)) func49 D4p
def A7I(f:A3p):Nat×Fn:=(45,⟨[.val true (.pair (.int .i64) (.pair (.rs 5 (.int .u8)) (.pair (.pair (.int .i64) (.pair .bool (.rs 5 (.int .u8)))) (.pair (.pair (.int .i64) (.rs 150 B8)) (.pair (.pair (.int .i64) (.rs 150 B8)) (.pair (.rs 113 E6) M8)))))) false,.val false (.rs 5 (.int .u8)) false],[.val true (.pair (.int .i64) (.pair (.sl 5 (.int .u8)) (.pair A03 (.pair (.pair (.int .i64) (.rs 150 B8)) (.pair A07 (.pair (.sl 113 E6) M8)))))),.val false (.sl 75 M6),.val false (.sl 5 (.int .u8))],fun x=>f x.1 x.2.1⟩)
theorem C4m{C1V:C0B}{B72:B6K}{A2e:A44}:EF cfg [C6b C1V,C3U B72,B1C A2e] [(15,⟨[.b 13 [.int .i64,.own 100000000,.int .i64,.bool,.own 100000001,.int .i64,.ro 150 B8,.int .i64,.own 100000002,.own 100000003,.int .i64,.int .i64,.own 100000004,.own 100000005],.r 100000000 5 (.int .u8),.r 100000001 5 (.int .u8),.r 100000002 150 B8,.r 100000003 113 E6,.r 100000004 75 M6,.r 100000005 5 (.int .u8)],lt 16 23 [.r 49153,.r 49156,.r 49158,.r 49160,.r 49161,.r 161793,.r 161796,.r 161800,.r 161801,.r 161804,.r 161805,.t 9,.t 11,.t 12],true⟩),(122,⟨[.t 9 false [.int .i64],.b 13 [.int .i64,.own 100000000,.int .i64,.bool,.own 100000001,.int .i64,.ro 150 B8,.int .i64,.own 100000002,.own 100000003,.int .i64,.int .i64,.own 100000004,.own 100000005],.r 100000000 5 (.int .u8),.r 100000001 5 (.int .u8),.r 100000002 150 B8,.r 100000003 113 E6,.r 100000004 75 M6,.r 100000005 5 (.int .u8)],lt 16 23 [.r 49153,.r 49156,.r 49158,.r 49160,.r 49161,.r 161793,.r 161796,.r 161800,.r 161801,.r 161804,.r 161805,.t 11,.t 12],false⟩),(244,⟨[],lt 16 15 [],false⟩)] f45 (A7I (A3q C1V B72 A2e)):=fun _=>by kernel_rfl
theorem C4n:SQ (A7I T5):=sF MO C5 (tc call46 E2b (tc call76 E0A (tc call119 C9o B9))) func45 C4m
def C3h:Nat->Option Jn:=B8H [(1023,⟨[],lt 48 16 [],false⟩),(65535,⟨[],lt 80 20 [],false⟩),(1073741823,⟨[],lt 136 16 [],false⟩)]
abbrev A1W:List PK:= [.val true (.pair (.int .i64) (.pair (.rs 5 (.int .u8)) (.pair (.pair (.int .i64) (.pair .bool (.rs 5 (.int .u8)))) (.pair (.pair (.int .i64) (.rs 161 B8)) (.pair (.pair (.int .i64) (.rs 161 B8)) (.pair (.rs 180 E6) M8)))))) false,.val false (.rs 5 (.int .u8)) false]
abbrev B2e:List RK:= [.val false .bool]
def C3i(f:B2R):Nat×Fn:=(8,⟨A1W,B2e,fun x=>f x.1 x.2.1⟩)
def F_w_FnExactHearBytes:Fn:=(C3i A5u).2
theorem C3j(M4:A2M)(K0:A11)(H8:Q5)(H9:Q6)(C1W:B9H)(A8O:B9N)(A8P:B9U)(B0K:B3U)(B0L:B3W)(A7f:B1a)(A3u:A3p)(A8r:B6c)(B2B:B1o)(A7g:B1q):∀ x,(E4m cfg [A8m M4,A5v K0,A3g H8,A3h H9,C6H C1W,C6J A8O,C6L A8P,C0l B0K,C0n B0L,B7r A7f,A7I A3u,C3g A8r,B80 B2B,B81 A7g] C3h 170 [.tmp 4] (f8.body.getD .skip) A1W B2e).fn x=A5t M4 K0 H8 H9 C1W A8O A8P B0K B0L A7f A3u A8r B2B A7g x.1 x.2.1:=by intro x;kernel_rfl
theorem C3k:A1e prog 8 F_w_FnExactHearBytes:=sm MO C5 (tc call14 B6j (tc call16 B2a (tc call19 A7W (tc call20 A7a (tc call22 E1s (tc call24 E1w (tc call27 E23 (tc call28 D7R (tc call29 D7V (tc call33 D4a (tc call45 C4n (tc call47 E0Q (tc call48 D4o (tc call49 D4q B9)))))))))))))) func8 (by kernel_rfl) (by decide) (C3j A3B A3C V9 W3 B4j B4l B4n A9D A9I A2Q T5 B2Q B1p B1r)
end
end Go.Proofs.YthnfghmjipikhaaGreatDoor.Ev
