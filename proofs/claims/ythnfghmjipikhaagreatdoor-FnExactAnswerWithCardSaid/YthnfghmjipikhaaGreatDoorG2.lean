/- Each function of the program does what its plain function says. -/
import Derived.Test.YthnfghmjipikhaaGreatDoorG1
set_option linter.unusedVariables false
set_option maxRecDepth 100000
namespace Go.Proofs.YthnfghmjipikhaaGreatDoor.Ev
open Tryz
noncomputable section
def B4g(f:A6d):Nat×Fn:=(146,⟨[.val true B6 false,.val true B6 false],[.val false .bool],fun x=>f x.1 x.2.1⟩)
theorem C6l:EF cfg [] [] f146 (B4g B4F):=fun _=>by kernel_rfl
theorem C6m:SQ (B4g A9e):=sF MO D9 C7 func146 C6l
def B2u(f:A7T):Nat×Fn:=(70,⟨[.val false (.rs 150 B6) false,.val false (.rs 150 B6) false],[.val false .bool],fun x=>f x.1 x.2.1⟩)
theorem C4n{A3k:A6d}:EF cfg [B4g A3k] [(58,⟨[.t 5 false [.int .i64]],lt 11 16 [],false⟩)] f70 (B2u (B2L A3k)):=fun _=>by kernel_rfl
theorem C4o:SQ (B2u A7U):=sF MO D9 (tc call146 C6m C7) func70 C4n
def B4h(f:A9f):Nat×Fn:=(17,⟨[.val true (.pair (.int .i64) (.rs 150 B6)) false,.val true (.pair (.int .i64) (.rs 150 B6)) false],[.val false .bool],fun x=>f x.1 x.2.1⟩)
theorem C6n{A7r:A7T}:EF cfg [B2u A7r] [] f17 (B4h (B4G A7r)):=fun _=>by kernel_rfl
theorem C6o:SQ (B4h A9g):=sF MO D9 (tc call70 C4o C7) func17 C6n
def B2v(f:A7V):Nat×Fn:=(87,⟨[.val true (.pair (.int .i64) (.pair .bool (.rs 5 (.int .u8)))) false,.val true (.pair (.int .i64) (.pair .bool (.rs 5 (.int .u8)))) false],[.val false .bool],fun x=>f x.1 x.2.1⟩)
theorem C4p{J7:W8}:EF cfg [A3h J7] [] f87 (B2v (B2M J7)):=fun _=>by kernel_rfl
theorem C4q:SQ (B2v A7W):=sF MO D9 (tc call16 A9k C7) func87 C4p
def B8o(f:B5E):Nat×Fn:=(172,⟨[.val true A1w false,.val true A1w false],[.val false .bool],fun x=>f x.1 x.2.1⟩)
theorem D1F:EF cfg [] [] f172 (B8o B8D):=fun _=>by kernel_rfl
theorem D1G:SQ (B8o B5F):=sF MO D9 C7 func172 D1F
def B8p(f:B12):Nat×Fn:=(150,⟨[.val true (.pair (.int .i64) (.pair (.int .i64) (.pair A1w (.rs 5 (.int .u8))))) false,.val true (.pair (.int .i64) (.pair (.int .i64) (.pair A1w (.rs 5 (.int .u8))))) false],[.val false .bool],fun x=>f x.1 x.2.1⟩)
theorem D1H{J7:W8}{B5M:B5E}:EF cfg [A3h J7,B8o B5M] [] f150 (B8p (B8E J7 B5M)):=fun _=>by kernel_rfl
theorem D1I:SQ (B8p B5G):=sF MO D9 (tc call16 A9k (tc call172 D1G C7)) func150 D1H
def B6s(f:B2O):Nat×Fn:=(88,⟨[.val false (.rs 113 F6) false,.val false (.rs 113 F6) false],[.val false .bool],fun x=>f x.1 x.2.1⟩)
theorem C8j{A84:B12}:EF cfg [B8p A84] [(58,⟨[.t 5 false [.int .i64]],lt 11 16 [],false⟩)] f88 (B6s (B6M A84)):=fun _=>by kernel_rfl
theorem C8k:SQ (B6s B2P):=sF MO D9 (tc call150 D1I C7) func88 C8j
def B6t(f:B2Q):Nat×Fn:=(27,⟨[.val true (.pair (.int .i64) (.pair (.rs 5 (.int .u8)) (.pair (.pair (.int .i64) (.pair .bool (.rs 5 (.int .u8)))) (.pair (.pair (.int .i64) (.rs 150 B6)) (.pair (.pair (.int .i64) (.rs 150 B6)) (.pair (.rs 113 F6) K9)))))) false,.val true (.pair (.int .i64) (.pair (.rs 5 (.int .u8)) (.pair (.pair (.int .i64) (.pair .bool (.rs 5 (.int .u8)))) (.pair (.pair (.int .i64) (.rs 150 B6)) (.pair (.pair (.int .i64) (.rs 150 B6)) (.pair (.rs 113 F6) K9)))))) false],[.val false .bool],fun x=>f x.1 x.2.1⟩)
theorem C8l{J7:W8}{A6k:A9f}{A7s:A7V}{B3C:B2O}:EF cfg [A3h J7,B4h A6k,B2v A7s,B6s B3C] [] f27 (B6t (B6N J7 A6k A7s B3C)):=fun _=>by kernel_rfl
theorem C8m:SQ (B6t A8R):=sF MO D9 (tc call16 A9k (tc call17 C6o (tc call87 C4q (tc call88 C8k C7)))) func27 C8l
def A2L(f:O3):Nat×Fn:=(124,⟨[.val false (.int .i64) false],[.val false .str],fun x=>f x.1⟩)
theorem C4r:EF cfg [] [(15,⟨[.t 3 false [.str]],lt 6 12 [.r 12,.t 0],true⟩),(60,⟨[.t 0 false [.int .i64],.t 3 false [.str]],lt 6 12 [.r 12],false⟩)] f124 (A2L B2R):=fun _=>by kernel_rfl
theorem A7g:SQ (A2L P5):=sF MO D9 C7 func124 C4r
def A8l(f:A4Q):Nat×Fn:=(71,⟨[.val false (.sl 150 B6) true,.val false (.int .i64) false],[.val false (.int .i64)],fun x=>f x.1 x.2.1⟩)
theorem C20{G8:O3}:EF cfg [A2L G8] [(26,⟨[.t 0 false [.own 1000],.t 1 false [.int .i64],.t 5 false [.int .i64],.r 1000 150 B6],lt 6 22 [.x 16,.x 24],false⟩)] f71 (A8l (A8T G8)):=fun _=>by kernel_rfl
theorem C21:SQ (A8l A4R):=sF MO D9 (tc call124 A7g C7) func71 C20
def B0T(f:A69):Nat×Fn:=(18,⟨[.val true A40 true,.val false (.int .i64) false],[.val false (.int .i64)],fun x=>f x.1 x.2.1⟩)
theorem C2p{A4i:A4Q}:EF cfg [A8l A4i] [] f18 (B0T (B0I A4i)):=fun _=>by kernel_rfl
theorem C2q:SQ (B0T A2q):=sF MO D9 (tc call71 C21 C7) func18 C2p
def A8m(f:A4S):Nat×Fn:=(89,⟨[.val true A1S true,.val false (.int .i64) false],[.val false (.int .i64)],fun x=>f x.1 x.2.1⟩)
theorem C22{I5:Q8}:EF cfg [A1K I5] [] f89 (A8m (A8U I5)):=fun _=>by kernel_rfl
theorem C23:SQ (A8m A8V):=sF MO D9 (tc call19 A6C C7) func89 C22
def B2w(f:A7a):Nat×Fn:=(90,⟨[.val false (.sl 113 F6) true,.val false (.int .i64) false],[.val false (.int .i64)],fun x=>f x.1 x.2.1⟩)
theorem C4s{I5:Q8}{G8:O3}:EF cfg [A1K I5,A2L G8] [(26,⟨[.t 0 false [.own 1000],.t 1 false [.int .i64],.t 5 false [.int .i64],.r 1000 113 F6],lt 6 52 [.x 15,.x 22,.x 29,.x 38,.x 46,.x 53],false⟩)] f90 (B2w (B7T I5 G8)):=fun _=>by kernel_rfl
theorem C4t:SQ (B2w B2S):=sF MO D9 (tc call19 A6C (tc call124 A7g C7)) func90 C4s
def B30(f:A7b):Nat×Fn:=(28,⟨[.val true A8C true,.val false (.int .i64) false],[.val false (.int .i64)],fun x=>f x.1 x.2.1⟩)
theorem C4u{A32:A69}{I5:Q8}{A4j:A4S}{A7t:A7a}:EF cfg [B0T A32,A1K I5,A8m A4j,B2w A7t] [] f28 (B30 (B2T A32 I5 A4j A7t)):=fun _=>by kernel_rfl
theorem C4v:SQ (B30 A4U):=sF MO D9 (tc call18 C2q (tc call19 A6C (tc call89 C23 (tc call90 C4t C7)))) func28 C4u
def A8n(f:A4V):Nat×Fn:=(72,⟨[.val false (.rs 150 B6) false,.val false (.int .i64) false],[.val false (.int .i64)],fun x=>f x.1 x.2.1⟩)
theorem C24{G8:O3}:EF cfg [A2L G8] [(26,⟨[.t 1 false [.int .i64],.t 5 false [.int .i64]],lt 6 26 [],false⟩)] f72 (A8n (A8W G8)):=fun _=>by kernel_rfl
theorem C25:SQ (A8n A4W):=sF MO D9 (tc call124 A7g C7) func72 C24
def B0U(f:A6A):Nat×Fn:=(21,⟨[.val true (.pair (.int .i64) (.rs 150 B6)) false,.val false (.int .i64) false],[.val false (.int .i64)],fun x=>f x.1 x.2.1⟩)
theorem C2r{A4k:A4V}:EF cfg [A8n A4k] [] f21 (B0U (B0J A4k)):=fun _=>by kernel_rfl
theorem C2s:SQ (B0U A2r):=sF MO D9 (tc call72 C25 C7) func21 C2r
def A8o(f:A4a):Nat×Fn:=(91,⟨[.val true (.pair (.int .i64) (.pair .bool (.rs 5 (.int .u8)))) false,.val false (.int .i64) false],[.val false (.int .i64)],fun x=>f x.1 x.2.1⟩)
theorem C26{I1:Q9}:EF cfg [A1L I1] [] f91 (A8o (A8a I1)):=fun _=>by kernel_rfl
theorem C27:SQ (A8o A8b):=sF MO D9 (tc call20 A6D C7) func91 C26
def B31(f:A7c):Nat×Fn:=(92,⟨[.val false (.rs 113 F6) false,.val false (.int .i64) false],[.val false (.int .i64)],fun x=>f x.1 x.2.1⟩)
theorem C4w{I1:Q9}{G8:O3}:EF cfg [A1L I1,A2L G8] [(26,⟨[.t 1 false [.int .i64],.t 5 false [.int .i64]],lt 6 64 [],false⟩)] f92 (B31 (B7U I1 G8)):=fun _=>by kernel_rfl
theorem C50:SQ (B31 B2U):=sF MO D9 (tc call20 A6D (tc call124 A7g C7)) func92 C4w
def B32(f:A7d):Nat×Fn:=(29,⟨[.val true (.pair (.int .i64) (.pair (.rs 5 (.int .u8)) (.pair (.pair (.int .i64) (.pair .bool (.rs 5 (.int .u8)))) (.pair (.pair (.int .i64) (.rs 150 B6)) (.pair (.pair (.int .i64) (.rs 150 B6)) (.pair (.rs 113 F6) K9)))))) false,.val false (.int .i64) false],[.val false (.int .i64)],fun x=>f x.1 x.2.1⟩)
theorem C51{I1:Q9}{A33:A6A}{A4l:A4a}{A7u:A7c}:EF cfg [A1L I1,B0U A33,A8o A4l,B31 A7u] [] f29 (B32 (B2V I1 A33 A4l A7u)):=fun _=>by kernel_rfl
theorem C52:SQ (B32 A4c):=sF MO D9 (tc call20 A6D (tc call21 C2s (tc call91 C27 (tc call92 C50 C7)))) func29 C51
def A0g(f:A9S):Nat×Fn:=(76,⟨[.val true (.pair (.int .i64) (.pair (.rs 5 (.int .u8)) (.pair (.pair (.int .i64) (.pair .bool (.rs 5 (.int .u8)))) (.pair (.pair (.int .i64) (.rs 150 B6)) (.pair (.pair (.int .i64) (.rs 150 B6)) (.pair (.rs 113 F6) K9)))))) false],[.val true (.pair (.int .i64) (.pair (.sl 5 (.int .u8)) (.pair A1S (.pair A40 (.pair A40 (.pair (.sl 113 (.pair (.int .i64) (.pair (.int .i64) (.pair A1w (.rs 5 (.int .u8)))))) K9))))))],fun x=>f x.1⟩)
theorem B18{R8:A1c}{B36:B1q}:EF cfgR [A8f R8,B6h B36] [(2042,⟨[.t 4 false [.int .i64],.b 3 [.int .i64,.own 10,.int .i64,.bool,.own 61442,.int .i64,.own 77825,.int .i64,.own 94209,.own 100000000,.int .i64,.int .i64],.r 10 5 (.int .u8),.r 61442 5 (.int .u8),.r 77825 150 B6,.r 94209 150 B6,.r 100000000 113 (.pair (.int .i64) (.pair (.int .i64) (.pair A1w (.rs 5 (.int .u8)))))],lt 26 23 [.b 5,.r 24,.r 38,.r 41,.r 46,.r 47,.t 5],false⟩)] f76 (A0g (B4A R8 B36)):=fun _=>by kernel_rfl
theorem B19:SQ (A0g A9T):=sF MO B9s (tc call54 B6c (tc call148 C8I C7)) func76 B18
def A1j(f:B7M):Nat×Fn:=(58,⟨[.val false (.int .i64) false,.val false .bool false,.val false (.rs 5 (.int .u8)) false,.val false (.int .i64) false],[.val false (.sl 82 (.pair (.int .i64) (.pair (.int .i64) (.pair (.int .i64) (.rs 5 (.int .u8))))))],fun x=>f x.1 x.2.1 x.2.2.1 x.2.2.2.1⟩)
theorem B4i{F2:M9}:EF cfgR [A0f F2] [(15,⟨[.t 3 false [.int .i64]],[.t 18,.t 19],true⟩),(31,⟨[.t 3 false [.int .i64]],[.t 20,.t 21],true⟩),(506,⟨[.t 9 false [.own 100002000],.t 10 false [.int .i64],.r 100002000 82 (.pair (.int .i64) (.pair (.int .i64) (.pair (.int .i64) (.rs 5 (.int .u8)))))],lt 22 42 [.b 11,.r 13,.r 53,.r 58,.r 62,.r 63,.t 11,.t 12],false⟩),(1012,⟨[],lt 22 8 [],false⟩),(16201,⟨[.b 11 [.int .i64,.int .i64,.int .i64,.nil]],lt 35 5 [],true⟩),(64807,⟨[.t 12 false [.int .i64],.b 11 [.int .i64,.int .i64,.int .i64,.nil]],lt 43 10 [],true⟩)] f58 (A1j (C0t F2)):=fun _=>by kernel_rfl
theorem B4j:SQ (A1j B7N):=sF MO B9s (tc call53 A1h C7) func58 B4i
def A07(f:S7):Nat×Fn:=(23,⟨[.val true (.pair (.int .i64) (.pair (.rs 5 (.int .u8)) (.pair (.pair (.int .i64) (.pair .bool (.rs 5 (.int .u8)))) (.pair (.pair (.int .i64) (.rs 150 B6)) (.pair (.pair (.int .i64) (.rs 150 B6)) (.pair (.rs 113 F6) K9)))))) false,.val false (.int .i64) false,.val true K9 false],[.val true (.pair (.int .i64) (.pair (.sl 5 (.int .u8)) (.pair A1S (.pair A40 (.pair (.pair (.int .i64) (.rs 150 B6)) (.pair (.sl 113 (.pair (.int .i64) (.pair (.int .i64) (.pair A1w (.rs 5 (.int .u8)))))) K9)))))),.val false (.sl 5 (.int .u8)),.val false .bool],fun x=>f x.1 x.2.1 x.2.2.1⟩)
theorem A8p{B3D:B1i}{A0a:A0V}{A6M:A5t}{B7l:B7M}{A9t:A9S}{B5N:B59}{A13:A5H}{A4m:A4B}:EF cfgR [B6b B3D,A2e A0a,B0M A6M,A1j B7l,A0g A9t,B8Q B5N,B2l A13,A8g A4m] [(15,⟨[],lt 18 26 [],false⟩)] f23 (A07 (J3 B3D A0a A6M B7l A9t B5N A13 A4m)):=fun _=>by kernel_rfl
theorem A8q:SQ (A07 G7):=sF MO B9s (tc call46 C8A (tc call55 B5T (tc call57 C2c (tc call58 B4j (tc call76 B19 (tc call77 D1A (tc call78 C1i (tc call79 C1k C7)))))))) func23 A8p
def B3T:Nat->Option Jn:=B0o [(255,⟨[],lt 47 15 [],false⟩),(4095,⟨[],lt 70 19 [],false⟩),(8388607,⟨[],lt 118 15 [],false⟩)]
abbrev T4:List PK:= [.val true (.pair (.int .i64) (.pair (.rs 5 (.int .u8)) (.pair (.pair (.int .i64) (.pair .bool (.rs 5 (.int .u8)))) (.pair (.pair (.int .i64) (.rs 161 B6)) (.pair (.pair (.int .i64) (.rs 161 B6)) (.pair (.rs 180 F6) K9)))))) false,.val false (.int .i64) false,.val true K9 false]
abbrev A53:List RK:= [.val false .bool]
def B3U(f:A52):Nat×Fn:=(4,⟨T4,A53,fun x=>f x.1 x.2.1 x.2.2.1⟩)
def F_w_FnExactAnswerWith:Fn:=(B3U A1P).2
theorem B3V(J7:W8)(I5:Q8)(I1:Q9)(B3E:B1d)(S8:S7)(A3R:B21)(A5f:B22)(A1l:A4P)(A3S:B2Q)(A4n:A7b)(A4o:A7d):∀ x,(D0T cfg [A3h J7,A1K I5,A1L I1,B6W B3E,A07 S8,B6k A3R,B6l A5f,A8k A1l,B6t A3S,B30 A4n,B32 A4o] B3T 146 [.tmp 6] (f4.body.getD .skip) T4 A53).fn x=A1O J7 I5 I1 B3E S8 A3R A5f A1l A3S A4n A4o x.1 x.2.1 x.2.2.1:=by intro x;kernel_rfl
theorem B3W:A0d prog 4 F_w_FnExactAnswerWith:=sm MO D9 (tc call16 A9k (tc call19 A6C (tc call20 A6D (tc call22 C85 (tc call23 A8q (tc call24 C8P (tc call25 C8R (tc call26 C1w (tc call27 C8m (tc call28 C4v (tc call29 C52 C7))))))))))) func4 (by kernel_rfl) (by decide) (B3V A0K S4 S5 A8E G7 A8J B23 N0 A8R A4U A4c)
end
end Go.Proofs.YthnfghmjipikhaaGreatDoor.Ev
