/- The row of the law holds as soon as its plain function always answers true. -/
import Derived.Test.YtfnmpcbehimkgaaEvC
import Derived.Test.YtfnmpcbehimkgaaG3
import Derived.Test.YtfnmpcbehimkgaaRows
set_option linter.unusedVariables false
set_option maxRecDepth 100000
namespace Go.Proofs.Ytfnmpcbehimkgaa.Ev
open Go.ChangeShapes Go.WideShapes Go.ChangeAt Go.RowKit
theorem own:ownKnob Try.prog.godebug=none:=by kernel_rfl
theorem B52(hg:∀ x,B37 A65 x→∃ y,F_w_FnKept.fn x=some (true,y))(os:Os)(started:os.Started)(H:Type)(enc:TypeId×Value→H) :
  ReturnsInHanded {} Try.checked os 4 .any (Rows.fnKeptSpec.pre6 enc Try.prog Try.f4 Rows.fnKeptRow.domain false) (Rows.fnKeptSpec.post enc Try.prog Try.f4 false true false false):=
 B9U (C:=Try.checked) (f:=4) (fn:=Try.f4) own started (by kernel_rfl) Try.func4
  (ChangeSpec.witness6 (enc:=enc) (C:=Try.checked) false ⟨#[],#[.slice none 0 0],[]⟩ 8 (by kernel_rfl) (by kernel_rfl) (by kernel_rfl) (by kernel_rfl))
  C0i hg (ts:= [22]) (by kernel_rfl) (.one (.rs Try.underlying22 (by kernel_rfl) (.int Try.underlying5)) (fun fs h=>by have h2:=(Try.underlying22).symm.trans h;cases h2) (by decide) (by decide) PsOf.nil) (tb:=4) (by kernel_rfl) Try.underlying4 (by kernel_rfl) (by intro t ht;simp only [List.mem_cons,List.not_mem_nil,or_false] at ht;rcases ht with rfl<;>exact ⟨by kernel_rfl,of_decide_eq_true (by kernel_rfl)⟩) (by kernel_rfl) (fun ds hd=>match ds,hd with | [_],_=>rfl)
theorem C6x{a0 a1 a2 a3 a4 a5 a6 a7 a8 a9 a10 a11 a12 a13 a14 a15 a16 a17 a18 a19 a20 a21 a22 a23 a24 a25 a26 a27 a28 a29 a30 a31:Bool}(h0:a0=true)(h1:a1=true)(h2:a2=true)(h3:a3=true)(h4:a4=true)(h5:a5=true)(h6:a6=true)(h7:a7=true)(h8:a8=true)(h9:a9=true)(h10:a10=true)(h11:a11=true)(h12:a12=true)(h13:a13=true)(h14:a14=true)(h15:a15=true)(h16:a16=true)(h17:a17=true)(h18:a18=true)(h19:a19=true)(h20:a20=true)(h21:a21=true)(h22:a22=true)(h23:a23=true)(h24:a24=true)(h25:a25=true)(h26:a26=true)(h27:a27=true)(h28:a28=true)(h29:a29=true)(h30:a30=true)(h31:a31=true):(a0&&a1&&a2&&a3&&a4&&a5&&a6&&a7&&a8&&a9&&a10&&a11&&a12&&a13&&a14&&a15&&a16&&a17&&a18&&a19&&a20&&a21&&a22&&a23&&a24&&a25&&a26&&a27&&a28&&a29&&a30&&a31)=true:=by subst_vars;rfl
theorem j0:(Rows.fnKeptRow.wf (OpenSpec.ofChange Rows.fnKeptSpec))=true:=by kernel_rfl
theorem j1:(laidOutB Try.pinned.checked.prog)=true:=by kernel_rfl
theorem j2:(mapsRowed Try.pinned.checked.prog)=true:=by kernel_rfl
theorem j3:(Try.f4.params.all (Try.pinned.checked.prog.readableRec ·))=true:=by kernel_rfl
theorem j4:(namedTie Try.pinned.checked.prog Rows.fnKeptRow.named Rows.fnKeptSpec.vars)=true:=by kernel_rfl
theorem j5:((Rows.fnKeptRow.stops == []))=true:=by kernel_rfl
theorem j6:((Try.pinned.checked.prog.stops == []))=true:=by kernel_rfl
theorem j7:((Rows.fnKeptRow.knobs == []))=true:=by kernel_rfl
theorem j8:((Try.pinned.checked.prog.stopKnobs == []))=true:=by kernel_rfl
theorem j9:((Rows.fnKeptRow.inPlace == Try.pinned.checked.prog.inPlace 4))=true:=by kernel_rfl
theorem j10:((Rows.fnKeptRow.unfollowed == Try.pinned.checked.prog.unfollowed 4))=true:=by kernel_rfl
theorem j11:((Rows.fnKeptRow.recurses == Try.pinned.checked.prog.recurses 4))=true:=by kernel_rfl
theorem j12:((Rows.fnKeptRow.named == Try.pinned.checked.prog.varsNamed 4))=true:=by kernel_rfl
theorem j13:((Rows.fnKeptRow.maps == (Try.f4.params.toList++Rows.fnKeptSpec.plain.varTypes Try.pinned.checked.prog).any (Try.pinned.checked.prog.mapsRec ·)))=true:=by kernel_rfl
theorem j14:((Rows.fnKeptRow.ifaces == (Try.f4.params.toList++Rows.fnKeptSpec.plain.varTypes Try.pinned.checked.prog).any (Try.pinned.checked.prog.ifacesRec ·)))=true:=by kernel_rfl
theorem j15:((Rows.fnKeptRow.mapsOut == Try.pinned.checked.prog.mapsAmong Try.f4.resultTypes.toList))=true:=by kernel_rfl
theorem j16:((Rows.fnKeptRow.loops == (Try.f4.params.toList++Rows.fnKeptSpec.plain.varTypes Try.pinned.checked.prog).any (Try.pinned.checked.prog.loopsFrom ·)))=true:=by kernel_rfl
theorem j17:((Rows.fnKeptRow.wideKeys == (Try.f4.params.toList++Rows.fnKeptSpec.plain.varTypes Try.pinned.checked.prog++Try.f4.resultTypes.toList).any (Try.pinned.checked.prog.wideKeysFrom ·)))=true:=by kernel_rfl
theorem j18:(Rows.fnKeptSpec.vars.all (Try.pinned.checked.prog.varReadable ·))=true:=by kernel_rfl
theorem j19:(Try.f4.resultTypes.all (fun t=>Try.pinned.checked.prog.readableRec t&&decide (t<Try.pinned.checked.prog.types.size)))=true:=by kernel_rfl
theorem j20:((Rows.fnKeptRow.ifacesOut == Try.f4.resultTypes.toList.any (Try.pinned.checked.prog.ifacesRec ·)))=true:=by kernel_rfl
theorem j21:((Rows.fnKeptRow.loopsOut == Try.f4.resultTypes.toList.any (Try.pinned.checked.prog.loopsFrom ·)))=true:=by kernel_rfl
theorem j22:((Rows.fnKeptRow.plainKeys == Try.pinned.checked.prog.plainKeys))=true:=by kernel_rfl
theorem j23:(Rows.fnKeptRow.shortTexts.isNone)=true:=by kernel_rfl
theorem j24:(Try.pinned.checked.prog.stopsHeard)=true:=by kernel_rfl
theorem j25:(Try.pinned.checked.prog.mayEnter)=true:=by kernel_rfl
theorem j26:((Rows.fnKeptRow.lifted == Try.pinned.checked.prog.liftsFinal))=true:=by kernel_rfl
theorem j27:((Try.pinned.checked.prog.make == some Rows.fnKeptRow.make))=true:=by kernel_rfl
theorem j28:((Rows.fnKeptRow.kinds == (if Rows.fnKeptRow.domain.isEmpty then [] else Try.f4.params.toList.map fun t=>match Try.pinned.checked.prog.underlying t with | some (.int k)=>some k | _=>none)))=true:=by kernel_rfl
theorem j29:((Rows.fnKeptRow.pinned == Rows.fnKeptRow.pinnedBy))=true:=by kernel_rfl
theorem j30:((Rows.fnKeptRow.veiled == (Try.f4.params.toList++Rows.fnKeptSpec.plain.varTypes Try.pinned.checked.prog++Try.f4.resultTypes.toList).any (Try.pinned.checked.prog.veiledRec ·)))=true:=by kernel_rfl
theorem j31:(Rows.fnKeptRow.veiledFits Try.pinned.checked.prog Try.f4.params.toList (Try.f4.params.toList++Rows.fnKeptSpec.plain.varTypes Try.pinned.checked.prog++Try.f4.resultTypes.toList))=true:=by kernel_rfl
theorem fnKept_over(hg:∀ x,B37 A65 x→∃ y,F_w_FnKept.fn x=some (true,y)):Rows.fnKeptRow.holds Try.pinned (OpenSpec.ofChange Rows.fnKeptSpec):=
 OpenClaim.holds_of_wide 4 Try.f4 rfl rfl rfl rfl rfl rfl rfl ⟨rfl,rfl,rfl,rfl,rfl⟩ rfl rfl rfl rfl rfl (by kernel_rfl) Try.func4 (C6x j0 j1 j2 j3 j4 j5 j6 j7 j8 j9 j10 j11 j12 j13 j14 j15 j16 j17 j18 j19 j20 j21 j22 j23 j24 j25 j26 j27 j28 j29 j30 j31)
  (of_decide_eq_true (by kernel_rfl)) (by unfold Func.isWrapper;first | (rw [if_pos (by decide +kernel)];kernel_rfl) | (rw [if_neg (by decide +kernel)];exact ⟨rfl,rfl⟩))
  (fun os started H enc _=>B52 hg os started H enc)
end Go.Proofs.Ytfnmpcbehimkgaa.Ev
