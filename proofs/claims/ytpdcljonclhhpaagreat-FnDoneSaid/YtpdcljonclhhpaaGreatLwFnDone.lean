/- The row of the law holds as soon as its plain function always answers true. -/
import Derived.Test.YtpdcljonclhhpaaGreatEvC
import Derived.Test.YtpdcljonclhhpaaGreatG4
import Derived.Test.YtpdcljonclhhpaaGreatRows
set_option linter.unusedVariables false
set_option maxRecDepth 100000
namespace Go.Proofs.YtpdcljonclhhpaaGreat.Ev
open Go.ChangeShapes Go.WideShapes Go.ChangeAt Go.RowKit
theorem own:ownKnob Tryz.prog.godebug=none:=by kernel_rfl
theorem D4f(hg:∀ x,D0p B7M x->∃ y,F_w_FnDone.fn x=some (true,y))(os:Os)(started:os.Started)(H:Type)(enc:TypeId×Value->H) :
  ReturnsInHanded {} Tryz.checked os 10 .any (Rows.fnDoneSpec.pre6 enc Tryz.prog Tryz.f10 Rows.fnDoneRow.domain false) (Rows.fnDoneSpec.post enc Tryz.prog Tryz.f10 false true false false):=
 E0n (C:=Tryz.checked) (f:=10) (fn:=Tryz.f10) own started (by kernel_rfl) Tryz.func10
  (ChangeSpec.witness6 (enc:=enc) (C:=Tryz.checked) false ⟨#[],#[.slice none 0 0],[]⟩ 8 (by kernel_rfl) (by kernel_rfl) (by kernel_rfl) (by kernel_rfl))
  E2l hg (ts:= [22]) (by kernel_rfl) (.one (.rs Tryz.underlying22 (by kernel_rfl) (.int Tryz.underlying5)) (fun fs h=>by have h2:=(Tryz.underlying22).symm.trans h;cases h2) (by decide) (by decide) PsOf.nil) (tb:=4) (by kernel_rfl) Tryz.underlying4 (by kernel_rfl) (by intro t ht;simp only [List.mem_cons,List.not_mem_nil,or_false] at ht;rcases ht with rfl<;>exact ⟨by kernel_rfl,of_decide_eq_true (by kernel_rfl)⟩) (by kernel_rfl) (fun ds hd=>match ds,hd with | [_],_=>rfl)
theorem F1T{a0 a1 a2 a3 a4 a5 a6 a7 a8 a9 a10 a11 a12 a13 a14 a15 a16 a17 a18 a19 a20 a21 a22 a23 a24 a25 a26 a27 a28 a29 a30 a31:Bool}(h0:a0=true)(h1:a1=true)(h2:a2=true)(h3:a3=true)(h4:a4=true)(h5:a5=true)(h6:a6=true)(h7:a7=true)(h8:a8=true)(h9:a9=true)(h10:a10=true)(h11:a11=true)(h12:a12=true)(h13:a13=true)(h14:a14=true)(h15:a15=true)(h16:a16=true)(h17:a17=true)(h18:a18=true)(h19:a19=true)(h20:a20=true)(h21:a21=true)(h22:a22=true)(h23:a23=true)(h24:a24=true)(h25:a25=true)(h26:a26=true)(h27:a27=true)(h28:a28=true)(h29:a29=true)(h30:a30=true)(h31:a31=true):(a0&&a1&&a2&&a3&&a4&&a5&&a6&&a7&&a8&&a9&&a10&&a11&&a12&&a13&&a14&&a15&&a16&&a17&&a18&&a19&&a20&&a21&&a22&&a23&&a24&&a25&&a26&&a27&&a28&&a29&&a30&&a31)=true:=by subst_vars;rfl
theorem j0:(Rows.fnDoneRow.wf (OpenSpec.ofChange Rows.fnDoneSpec))=true:=by kernel_rfl
theorem j1:(laidOutB Tryz.pinned.checked.prog)=true:=by kernel_rfl
theorem j2:(mapsRowed Tryz.pinned.checked.prog)=true:=by kernel_rfl
theorem j3:(Tryz.f10.params.all (Tryz.pinned.checked.prog.readableRec ·))=true:=by kernel_rfl
theorem j4:(namedTie Tryz.pinned.checked.prog Rows.fnDoneRow.named Rows.fnDoneSpec.vars)=true:=by kernel_rfl
theorem j5:((Rows.fnDoneRow.stops == []))=true:=by kernel_rfl
theorem j6:((Tryz.pinned.checked.prog.stops == []))=true:=by kernel_rfl
theorem j7:((Rows.fnDoneRow.knobs == []))=true:=by kernel_rfl
theorem j8:((Tryz.pinned.checked.prog.stopKnobs == []))=true:=by kernel_rfl
theorem j9:((Rows.fnDoneRow.inPlace == Tryz.pinned.checked.prog.inPlace 10))=true:=by kernel_rfl
theorem j10:((Rows.fnDoneRow.unfollowed == Tryz.pinned.checked.prog.unfollowed 10))=true:=by kernel_rfl
theorem j11:((Rows.fnDoneRow.recurses == Tryz.pinned.checked.prog.recurses 10))=true:=by kernel_rfl
theorem j12:((Rows.fnDoneRow.named == Tryz.pinned.checked.prog.varsNamed 10))=true:=by kernel_rfl
theorem j13:((Rows.fnDoneRow.maps == (Tryz.f10.params.toList++Rows.fnDoneSpec.plain.varTypes Tryz.pinned.checked.prog).any (Tryz.pinned.checked.prog.mapsRec ·)))=true:=by kernel_rfl
theorem j14:((Rows.fnDoneRow.ifaces == (Tryz.f10.params.toList++Rows.fnDoneSpec.plain.varTypes Tryz.pinned.checked.prog).any (Tryz.pinned.checked.prog.ifacesRec ·)))=true:=by kernel_rfl
theorem j15:((Rows.fnDoneRow.mapsOut == Tryz.pinned.checked.prog.mapsAmong Tryz.f10.resultTypes.toList))=true:=by kernel_rfl
theorem j16:((Rows.fnDoneRow.loops == (Tryz.f10.params.toList++Rows.fnDoneSpec.plain.varTypes Tryz.pinned.checked.prog).any (Tryz.pinned.checked.prog.loopsFrom ·)))=true:=by kernel_rfl
theorem j17:((Rows.fnDoneRow.wideKeys == (Tryz.f10.params.toList++Rows.fnDoneSpec.plain.varTypes Tryz.pinned.checked.prog++Tryz.f10.resultTypes.toList).any (Tryz.pinned.checked.prog.wideKeysFrom ·)))=true:=by kernel_rfl
theorem j18:(Rows.fnDoneSpec.vars.all (Tryz.pinned.checked.prog.varReadable ·))=true:=by kernel_rfl
theorem j19:(Tryz.f10.resultTypes.all (fun t=>Tryz.pinned.checked.prog.readableRec t&&decide (t<Tryz.pinned.checked.prog.types.size)))=true:=by kernel_rfl
theorem j20:((Rows.fnDoneRow.ifacesOut == Tryz.f10.resultTypes.toList.any (Tryz.pinned.checked.prog.ifacesRec ·)))=true:=by kernel_rfl
theorem j21:((Rows.fnDoneRow.loopsOut == Tryz.f10.resultTypes.toList.any (Tryz.pinned.checked.prog.loopsFrom ·)))=true:=by kernel_rfl
theorem j22:((Rows.fnDoneRow.plainKeys == Tryz.pinned.checked.prog.plainKeys))=true:=by kernel_rfl
theorem j23:(Rows.fnDoneRow.shortTexts.isNone)=true:=by kernel_rfl
theorem j24:(Tryz.pinned.checked.prog.stopsHeard)=true:=by kernel_rfl
theorem j25:(Tryz.pinned.checked.prog.mayEnter)=true:=by kernel_rfl
theorem j26:((Rows.fnDoneRow.lifted == Tryz.pinned.checked.prog.liftsFinal))=true:=by kernel_rfl
theorem j27:((Tryz.pinned.checked.prog.make == some Rows.fnDoneRow.make))=true:=by kernel_rfl
theorem j28:((Rows.fnDoneRow.kinds == (if Rows.fnDoneRow.domain.isEmpty then [] else Tryz.f10.params.toList.map fun t=>match Tryz.pinned.checked.prog.underlying t with | some (.int k)=>some k | _=>none)))=true:=by kernel_rfl
theorem j29:((Rows.fnDoneRow.pinned == Rows.fnDoneRow.pinnedBy))=true:=by kernel_rfl
theorem j30:((Rows.fnDoneRow.veiled == (Tryz.f10.params.toList++Rows.fnDoneSpec.plain.varTypes Tryz.pinned.checked.prog++Tryz.f10.resultTypes.toList).any (Tryz.pinned.checked.prog.veiledRec ·)))=true:=by kernel_rfl
theorem j31:(Rows.fnDoneRow.veiledFits Tryz.pinned.checked.prog Tryz.f10.params.toList (Tryz.f10.params.toList++Rows.fnDoneSpec.plain.varTypes Tryz.pinned.checked.prog++Tryz.f10.resultTypes.toList))=true:=by kernel_rfl
theorem fnDone_over(hg:∀ x,D0p B7M x->∃ y,F_w_FnDone.fn x=some (true,y)):Rows.fnDoneRow.holds Tryz.pinned (OpenSpec.ofChange Rows.fnDoneSpec):=
 OpenClaim.holds_of_wide 10 Tryz.f10 rfl rfl rfl rfl rfl rfl rfl ⟨rfl,rfl,rfl,rfl,rfl⟩ rfl rfl rfl rfl rfl (by kernel_rfl) Tryz.func10 (F1T j0 j1 j2 j3 j4 j5 j6 j7 j8 j9 j10 j11 j12 j13 j14 j15 j16 j17 j18 j19 j20 j21 j22 j23 j24 j25 j26 j27 j28 j29 j30 j31)
  (of_decide_eq_true (by kernel_rfl)) (by unfold Func.isWrapper;first | (rw [if_pos (by decide +kernel)];kernel_rfl) | (rw [if_neg (by decide +kernel)];exact ⟨rfl,rfl⟩))
  (fun os started H enc _=>D4f hg os started H enc)
end Go.Proofs.YtpdcljonclhhpaaGreat.Ev
