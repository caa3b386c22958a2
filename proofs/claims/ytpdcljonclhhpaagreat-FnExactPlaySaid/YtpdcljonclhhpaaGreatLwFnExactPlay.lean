/- The row of the law holds as soon as its plain function always answers true. -/
import Derived.Test.YtpdcljonclhhpaaGreatEvC
import Derived.Test.YtpdcljonclhhpaaGreatG4
import Derived.Test.YtpdcljonclhhpaaGreatRows
set_option linter.unusedVariables false
set_option maxRecDepth 100000
namespace Go.Proofs.YtpdcljonclhhpaaGreat.Ev
open Go.ChangeShapes Go.WideShapes Go.ChangeAt Go.RowKit
theorem own:ownKnob Tryz.prog.godebug=none:=by kernel_rfl
theorem C14(hg:∀ x,C8p A3M x→∃ y,F_w_FnExactPlay.fn x=some (true,y))(os:Os)(started:os.Started)(H:Type)(enc:TypeId×Value→H) :
  ReturnsInHanded {} Tryz.checked os 14 .any (Rows.fnExactPlaySpec.pre6 enc Tryz.prog Tryz.f14 Rows.fnExactPlayRow.domain false) (Rows.fnExactPlaySpec.post enc Tryz.prog Tryz.f14 false true false false):=
 E2B (C:=Tryz.checked) (f:=14) (fn:=Tryz.f14) own started (by kernel_rfl) Tryz.func14
  (ChangeSpec.witness6 (enc:=enc) (C:=Tryz.checked) false ⟨#[],#[.agg #[.slice none 0 0,.slice none 0 0,.int .i64 0,.int .i64 0,.slice none 0 0,.slice none 0 0,.slice none 0 0,.slice none 0 0,.slice none 0 0,.slice none 0 0,.slice none 0 0],.slice none 0 0],[]⟩ 8 (by kernel_rfl) (by kernel_rfl) (by kernel_rfl) (by kernel_rfl))
  C7t hg (ts:= [86,99]) (by kernel_rfl) (.st Tryz.underlying86 (.st Tryz.underlying86 (by kernel_rfl) (.cons (by kernel_rfl) (by kernel_rfl) (.st Tryz.underlying57 (by kernel_rfl) (.cons (by kernel_rfl) (by kernel_rfl) (.st Tryz.underlying54 (by kernel_rfl) (.cons (by kernel_rfl) (by kernel_rfl) (.st Tryz.underlying51 (by kernel_rfl) (.cons (by kernel_rfl) (by kernel_rfl) (.rs Tryz.underlying24 (by kernel_rfl) (.str Tryz.underlying9)) (.one (by kernel_rfl) (by kernel_rfl) (.rs Tryz.underlying24 (by kernel_rfl) (.str Tryz.underlying9))))) (.cons (by kernel_rfl) (by kernel_rfl) (.int Tryz.underlying3) (.cons (by kernel_rfl) (by kernel_rfl) (.int Tryz.underlying3) (.one (by kernel_rfl) (by kernel_rfl) (.rs Tryz.underlying52 (by kernel_rfl) (.st Tryz.underlying248 (by kernel_rfl) (.cons (by kernel_rfl) (by kernel_rfl) (.str Tryz.underlying9) (.cons (by kernel_rfl) (by kernel_rfl) (.int Tryz.underlying3) (.cons (by kernel_rfl) (by kernel_rfl) (.sl Tryz.underlying22 (by kernel_rfl) (.int Tryz.underlying5)) (.one (by kernel_rfl) (by kernel_rfl) (.bool Tryz.underlying4)))))))))))) (.one (by kernel_rfl) (by kernel_rfl) (.rs Tryz.underlying55 (by kernel_rfl) (.st Tryz.underlying203 (by kernel_rfl) (.cons (by kernel_rfl) (by kernel_rfl) (.int Tryz.underlying3) (.one (by kernel_rfl) (by kernel_rfl) (.st Tryz.underlying201 (by kernel_rfl) (.cons (by kernel_rfl) (by kernel_rfl) (.int Tryz.underlying3) (.one (by kernel_rfl) (by kernel_rfl) (.int Tryz.underlying3))))))))))) (.cons (by kernel_rfl) (by kernel_rfl) (.rs Tryz.underlying83 (by kernel_rfl) (.st Tryz.underlying218 (by kernel_rfl) (.cons (by kernel_rfl) (by kernel_rfl) (.str Tryz.underlying9) (.cons (by kernel_rfl) (by kernel_rfl) (.sl Tryz.underlying22 (by kernel_rfl) (.int Tryz.underlying5)) (.cons (by kernel_rfl) (by kernel_rfl) (.int Tryz.underlying3) (.one (by kernel_rfl) (by kernel_rfl) (.int Tryz.underlying3))))))) (.cons (by kernel_rfl) (by kernel_rfl) (.rs Tryz.underlying34 (by kernel_rfl) (.bool Tryz.underlying4)) (.cons (by kernel_rfl) (by kernel_rfl) (.rs Tryz.underlying84 (by kernel_rfl) (.st Tryz.underlying221 (by kernel_rfl) (.cons (by kernel_rfl) (by kernel_rfl) (.int Tryz.underlying3) (.cons (by kernel_rfl) (by kernel_rfl) (.st Tryz.underlying58 (by kernel_rfl) (.cons (by kernel_rfl) (by kernel_rfl) (.int Tryz.underlying3) (.cons (by kernel_rfl) (by kernel_rfl) (.str Tryz.underlying9) (.one (by kernel_rfl) (by kernel_rfl) (.int Tryz.underlying3))))) (.one (by kernel_rfl) (by kernel_rfl) (.sl Tryz.underlying22 (by kernel_rfl) (.int Tryz.underlying5))))))) (.cons (by kernel_rfl) (by kernel_rfl) (.rs Tryz.underlying55 (by kernel_rfl) (.st Tryz.underlying203 (by kernel_rfl) (.cons (by kernel_rfl) (by kernel_rfl) (.int Tryz.underlying3) (.one (by kernel_rfl) (by kernel_rfl) (.st Tryz.underlying201 (by kernel_rfl) (.cons (by kernel_rfl) (by kernel_rfl) (.int Tryz.underlying3) (.one (by kernel_rfl) (by kernel_rfl) (.int Tryz.underlying3)))))))) (.one (by kernel_rfl) (by kernel_rfl) (.rs Tryz.underlying36 (by kernel_rfl) (.int Tryz.underlying3))))))))) (by decide) (.one (.rs Tryz.underlying99 (by kernel_rfl) (.st Tryz.underlying93 (by kernel_rfl) (.cons (by kernel_rfl) (by kernel_rfl) (.int Tryz.underlying3) (.cons (by kernel_rfl) (by kernel_rfl) (.int Tryz.underlying3) (.one (by kernel_rfl) (by kernel_rfl) (.sl Tryz.underlying34 (by kernel_rfl) (.bool Tryz.underlying4))))))) (fun fs h=>by have h2:=(Tryz.underlying99).symm.trans h;cases h2) (by decide) (by decide) PsOf.nil)) (tb:=4) (by kernel_rfl) Tryz.underlying4 (by kernel_rfl) (by intro t ht;simp only [List.mem_cons,List.not_mem_nil,or_false] at ht;rcases ht with rfl | rfl<;>exact ⟨by kernel_rfl,of_decide_eq_true (by kernel_rfl)⟩) (by kernel_rfl) (fun ds hd=>match ds,hd with | [_,_],_=>rfl)
theorem F33{a0 a1 a2 a3 a4 a5 a6 a7 a8 a9 a10 a11 a12 a13 a14 a15 a16 a17 a18 a19 a20 a21 a22 a23 a24 a25 a26 a27 a28 a29 a30 a31:Bool}(h0:a0=true)(h1:a1=true)(h2:a2=true)(h3:a3=true)(h4:a4=true)(h5:a5=true)(h6:a6=true)(h7:a7=true)(h8:a8=true)(h9:a9=true)(h10:a10=true)(h11:a11=true)(h12:a12=true)(h13:a13=true)(h14:a14=true)(h15:a15=true)(h16:a16=true)(h17:a17=true)(h18:a18=true)(h19:a19=true)(h20:a20=true)(h21:a21=true)(h22:a22=true)(h23:a23=true)(h24:a24=true)(h25:a25=true)(h26:a26=true)(h27:a27=true)(h28:a28=true)(h29:a29=true)(h30:a30=true)(h31:a31=true):(a0&&a1&&a2&&a3&&a4&&a5&&a6&&a7&&a8&&a9&&a10&&a11&&a12&&a13&&a14&&a15&&a16&&a17&&a18&&a19&&a20&&a21&&a22&&a23&&a24&&a25&&a26&&a27&&a28&&a29&&a30&&a31)=true:=by subst_vars;rfl
theorem j0:(Rows.fnExactPlayRow.wf (OpenSpec.ofChange Rows.fnExactPlaySpec))=true:=by kernel_rfl
theorem j1:(laidOutB Tryz.pinned.checked.prog)=true:=by kernel_rfl
theorem j2:(mapsRowed Tryz.pinned.checked.prog)=true:=by kernel_rfl
theorem j3:(Tryz.f14.params.all (Tryz.pinned.checked.prog.readableRec ·))=true:=by kernel_rfl
theorem j4:(namedTie Tryz.pinned.checked.prog Rows.fnExactPlayRow.named Rows.fnExactPlaySpec.vars)=true:=by kernel_rfl
theorem j5:((Rows.fnExactPlayRow.stops == []))=true:=by kernel_rfl
theorem j6:((Tryz.pinned.checked.prog.stops == []))=true:=by kernel_rfl
theorem j7:((Rows.fnExactPlayRow.knobs == []))=true:=by kernel_rfl
theorem j8:((Tryz.pinned.checked.prog.stopKnobs == []))=true:=by kernel_rfl
theorem j9:((Rows.fnExactPlayRow.inPlace == Tryz.pinned.checked.prog.inPlace 14))=true:=by kernel_rfl
theorem j10:((Rows.fnExactPlayRow.unfollowed == Tryz.pinned.checked.prog.unfollowed 14))=true:=by kernel_rfl
theorem j11:((Rows.fnExactPlayRow.recurses == Tryz.pinned.checked.prog.recurses 14))=true:=by kernel_rfl
theorem j12:((Rows.fnExactPlayRow.named == Tryz.pinned.checked.prog.varsNamed 14))=true:=by kernel_rfl
theorem j13:((Rows.fnExactPlayRow.maps == (Tryz.f14.params.toList++Rows.fnExactPlaySpec.plain.varTypes Tryz.pinned.checked.prog).any (Tryz.pinned.checked.prog.mapsRec ·)))=true:=by kernel_rfl
theorem j14:((Rows.fnExactPlayRow.ifaces == (Tryz.f14.params.toList++Rows.fnExactPlaySpec.plain.varTypes Tryz.pinned.checked.prog).any (Tryz.pinned.checked.prog.ifacesRec ·)))=true:=by kernel_rfl
theorem j15:((Rows.fnExactPlayRow.mapsOut == Tryz.pinned.checked.prog.mapsAmong Tryz.f14.resultTypes.toList))=true:=by kernel_rfl
theorem j16:((Rows.fnExactPlayRow.loops == (Tryz.f14.params.toList++Rows.fnExactPlaySpec.plain.varTypes Tryz.pinned.checked.prog).any (Tryz.pinned.checked.prog.loopsFrom ·)))=true:=by kernel_rfl
theorem j17:((Rows.fnExactPlayRow.wideKeys == (Tryz.f14.params.toList++Rows.fnExactPlaySpec.plain.varTypes Tryz.pinned.checked.prog++Tryz.f14.resultTypes.toList).any (Tryz.pinned.checked.prog.wideKeysFrom ·)))=true:=by kernel_rfl
theorem j18:(Rows.fnExactPlaySpec.vars.all (Tryz.pinned.checked.prog.varReadable ·))=true:=by kernel_rfl
theorem j19:(Tryz.f14.resultTypes.all (fun t=>Tryz.pinned.checked.prog.readableRec t&&decide (t<Tryz.pinned.checked.prog.types.size)))=true:=by kernel_rfl
theorem j20:((Rows.fnExactPlayRow.ifacesOut == Tryz.f14.resultTypes.toList.any (Tryz.pinned.checked.prog.ifacesRec ·)))=true:=by kernel_rfl
theorem j21:((Rows.fnExactPlayRow.loopsOut == Tryz.f14.resultTypes.toList.any (Tryz.pinned.checked.prog.loopsFrom ·)))=true:=by kernel_rfl
theorem j22:((Rows.fnExactPlayRow.plainKeys == Tryz.pinned.checked.prog.plainKeys))=true:=by kernel_rfl
theorem j23:(Rows.fnExactPlayRow.shortTexts.isNone)=true:=by kernel_rfl
theorem j24:(Tryz.pinned.checked.prog.stopsHeard)=true:=by kernel_rfl
theorem j25:(Tryz.pinned.checked.prog.mayEnter)=true:=by kernel_rfl
theorem j26:((Rows.fnExactPlayRow.lifted == Tryz.pinned.checked.prog.liftsFinal))=true:=by kernel_rfl
theorem j27:((Tryz.pinned.checked.prog.make == some Rows.fnExactPlayRow.make))=true:=by kernel_rfl
theorem j28:((Rows.fnExactPlayRow.kinds == (if Rows.fnExactPlayRow.domain.isEmpty then [] else Tryz.f14.params.toList.map fun t=>match Tryz.pinned.checked.prog.underlying t with | some (.int k)=>some k | _=>none)))=true:=by kernel_rfl
theorem j29:((Rows.fnExactPlayRow.pinned == Rows.fnExactPlayRow.pinnedBy))=true:=by kernel_rfl
theorem j30:((Rows.fnExactPlayRow.veiled == (Tryz.f14.params.toList++Rows.fnExactPlaySpec.plain.varTypes Tryz.pinned.checked.prog++Tryz.f14.resultTypes.toList).any (Tryz.pinned.checked.prog.veiledRec ·)))=true:=by kernel_rfl
theorem j31:(Rows.fnExactPlayRow.veiledFits Tryz.pinned.checked.prog Tryz.f14.params.toList (Tryz.f14.params.toList++Rows.fnExactPlaySpec.plain.varTypes Tryz.pinned.checked.prog++Tryz.f14.resultTypes.toList))=true:=by kernel_rfl
theorem fnExactPlay_over(hg:∀ x,C8p A3M x→∃ y,F_w_FnExactPlay.fn x=some (true,y)):Rows.fnExactPlayRow.holds Tryz.pinned (OpenSpec.ofChange Rows.fnExactPlaySpec):=
 OpenClaim.holds_of_wide 14 Tryz.f14 rfl rfl rfl rfl rfl rfl rfl ⟨rfl,rfl,rfl,rfl,rfl⟩ rfl rfl rfl rfl rfl (by kernel_rfl) Tryz.func14 (F33 j0 j1 j2 j3 j4 j5 j6 j7 j8 j9 j10 j11 j12 j13 j14 j15 j16 j17 j18 j19 j20 j21 j22 j23 j24 j25 j26 j27 j28 j29 j30 j31)
  (of_decide_eq_true (by kernel_rfl)) (by unfold Func.isWrapper;first | (rw [if_pos (by decide +kernel)];kernel_rfl) | (rw [if_neg (by decide +kernel)];exact ⟨rfl,rfl⟩))
  (fun os started H enc _=>C14 hg os started H enc)
end Go.Proofs.YtpdcljonclhhpaaGreat.Ev
