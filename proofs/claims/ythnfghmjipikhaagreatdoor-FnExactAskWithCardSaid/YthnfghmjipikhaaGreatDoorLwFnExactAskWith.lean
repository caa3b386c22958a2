/- The row of the law, and its tied card, hold as soon as its plain function always answers true. -/
import Derived.Test.YthnfghmjipikhaaGreatDoorEvC
import Derived.Test.YthnfghmjipikhaaGreatDoorG1
import Derived.Test.YthnfghmjipikhaaGreatDoorCe
import Derived.Shelf.Vars
import Derived.MakeChecks
import Derived.LaidMore
import Derived.Lay
import Derived.LaidHandle
import Derived.Stop.LaidErr
set_option linter.unusedVariables false
set_option maxRecDepth 100000
set_option linter.defProp false
namespace Go.Proofs.YthnfghmjipikhaaGreatDoor.Ev
def A7D:=@MakeChecks.laidMetH_plain
open Go.ChangeShapes Go.WideShapes Go.ChangeAt Go.RowKit
theorem own:ownKnob Tryz.prog.godebug=none:=by kernel_rfl
theorem C8W:(Rows.laid_internal_strconv_uint64pow10:DataW Unit)=Lib.tabData .u64 Lib.pow10Tab:=by kernel_rfl
theorem D1T{W:World}(h:laidMetH Tryz.prog Rows.fnExactAskWithRow.laid W)(hsh:W.ShapedOpen Tryz.prog):GI W A40:=by
 rw [A7D _ _ _ (by kernel_rfl)] at h;have h2:=laidMet.tail (laidMet.tail h);obtain ⟨ps,⟨g,t,cs,fuel,p,q,hg,ht,hv,hd,_,_⟩,_⟩:=h2;refine ⟨cell_of_shapedOpen_int (g:=1) (t:=3) (zero:=#[.int .i64 0]) hsh (A8 (by kernel_rfl)) (by kernel_rfl) rfl (by kernel_rfl) (by kernel_rfl) Tryz.underlying3,rfl,?_,rfl⟩;obtain rfl:=B0e (tabN_at.symm.trans hg);obtain rfl:=B0e ((show (Tryz.prog.globals[0]?).map (·.type)=some 268 by kernel_rfl).symm.trans ht);have hd2:DataW.trod (fun _=>()) Tryz.prog W 0 (fun _=>true) false fuel 268 cs.toList=some (Rows.laid_internal_strconv_uint64pow10,p):=hd;rw [C8W] at hd2;have hc:=Lib.cells_of_tab Tryz.underlying268 Tryz.underlying253 (by kernel_rfl) (by kernel_rfl) hd2;have hv2:W.var? Tryz.prog D0H=some cs:=hv;unfold Lib.TabIs;rw [hv2,<- hc]
theorem C8a(os:Os)(args:Array Value):laidMetH Tryz.prog Rows.fnExactAskWithRow.laid ((World.laidAll Tryz.prog os Rows.fnExactAskWithRow.laid).forCall (fun _ _=>0) ⟨#[],args,[]⟩).memory:=by
 rw [A7D _ _ _ (by kernel_rfl)];exact laidMet_laidAll _ (by kernel_rfl) (by kernel_rfl)
theorem B0g(hg:∀ x,B5T U2 x->∃ y,F_w_FnExactAskWith.fn x=some (true,y))(os:Os)(started:os.Started)(H:Type)(enc:TypeId×Value->H) :
  ReturnsInHanded {} Tryz.checked os 3 .any (fun w args=>(Rows.fnExactAskWithSpec.pre enc Tryz.prog Tryz.f3 [] false w args/\laidMetH Tryz.prog Rows.fnExactAskWithRow.laid w)/\sizedMet enc Tryz.prog Tryz.f3 (OpenSpec.ofChange Rows.fnExactAskWithSpec) false w args) (Rows.fnExactAskWithSpec.post enc Tryz.prog Tryz.f3 false true false false):=
 C1E (C:=Tryz.checked) (f:=3) (fn:=Tryz.f3) own started (by kernel_rfl) Tryz.func3
  (ChangeSpec.witness_shaped (enc:=enc) (C:=Tryz.checked) (os:=os) (X:=fun w _=>laidMetH Tryz.prog Rows.fnExactAskWithRow.laid w) false (World.laidAll Tryz.prog os Rows.fnExactAskWithRow.laid) #[.agg #[.int .i64 0,.slice none 0 0],.int .i64 0,.agg #[.int .i64 0,.string ByteArray.empty,.int .i64 0],.slice none 0 0,.int .i64 0] 8 (World.laidAll_os _ _ _) (World.shaped_of_ZipB (by kernel_rfl) (by kernel_rfl)) (by kernel_rfl) (by kernel_rfl) (by kernel_rfl) (C8a os _))
  B3P hg (ts:= [24,3,26,27,3]) (by kernel_rfl) (.st Tryz.underlying24 (.st Tryz.underlying24 (by kernel_rfl) (.cons (by kernel_rfl) (by kernel_rfl) (.int Tryz.underlying3) (.one (by kernel_rfl) (by kernel_rfl) (.rs Tryz.underlying22 (by kernel_rfl) (.st Tryz.underlying161 (by kernel_rfl) (.cons (by kernel_rfl) (by kernel_rfl) (.str Tryz.underlying9) (.one (by kernel_rfl) (by kernel_rfl) (.str Tryz.underlying9)))))))) (by decide) (.one (.int Tryz.underlying3) (fun fs h=>by have h2:=(Tryz.underlying3).symm.trans h;cases h2) (by decide) (by decide) (.st Tryz.underlying26 (.st Tryz.underlying26 (by kernel_rfl) (.cons (by kernel_rfl) (by kernel_rfl) (.int Tryz.underlying3) (.cons (by kernel_rfl) (by kernel_rfl) (.str Tryz.underlying9) (.one (by kernel_rfl) (by kernel_rfl) (.int Tryz.underlying3))))) (by decide) (.one (.rs Tryz.underlying27 (by kernel_rfl) (.int Tryz.underlying5)) (fun fs h=>by have h2:=(Tryz.underlying27).symm.trans h;cases h2) (by decide) (by decide) (.one (.int Tryz.underlying3) (fun fs h=>by have h2:=(Tryz.underlying3).symm.trans h;cases h2) (by decide) (by decide) PsOf.nil))))) (tb:=4) (by kernel_rfl) Tryz.underlying4 (by kernel_rfl) (by intro t ht;simp only [B4,N7,A3q] at ht;rcases ht with rfl | rfl | rfl | rfl | rfl<;>exact ⟨by kernel_rfl,A8 (by kernel_rfl)⟩) (by kernel_rfl) (fun ds hd=>match ds,hd with | [_,_,_,_,_],_=>rfl) (fun W h1 h2=>D1T h1 h2)
theorem D1s{a0 a1 a2 a3 a4 a5 a6 a7 a8 a9 a10 a11 a12 a13 a14 a15 a16 a17 a18 a19 a20 a21 a22 a23 a24 a25 a26 a27 a28 a29 a30 a31:Bool}(h0:a0=true)(h1:a1=true)(h2:a2=true)(h3:a3=true)(h4:a4=true)(h5:a5=true)(h6:a6=true)(h7:a7=true)(h8:a8=true)(h9:a9=true)(h10:a10=true)(h11:a11=true)(h12:a12=true)(h13:a13=true)(h14:a14=true)(h15:a15=true)(h16:a16=true)(h17:a17=true)(h18:a18=true)(h19:a19=true)(h20:a20=true)(h21:a21=true)(h22:a22=true)(h23:a23=true)(h24:a24=true)(h25:a25=true)(h26:a26=true)(h27:a27=true)(h28:a28=true)(h29:a29=true)(h30:a30=true)(h31:a31=true):(a0&&a1&&a2&&a3&&a4&&a5&&a6&&a7&&a8&&a9&&a10&&a11&&a12&&a13&&a14&&a15&&a16&&a17&&a18&&a19&&a20&&a21&&a22&&a23&&a24&&a25&&a26&&a27&&a28&&a29&&a30&&a31)=true:=by subst_vars;rfl
theorem j0:(Rows.fnExactAskWithRow.wf (OpenSpec.ofChange Rows.fnExactAskWithSpec))=true:=by kernel_rfl
theorem j1:(laidOutB Tryz.pinned.checked.prog)=true:=by kernel_rfl
theorem j2:(mapsRowed Tryz.pinned.checked.prog)=true:=by kernel_rfl
theorem j3:(Tryz.f3.params.all (Tryz.pinned.checked.prog.readableRec ·))=true:=by kernel_rfl
theorem j4:(namedTie Tryz.pinned.checked.prog Rows.fnExactAskWithRow.named Rows.fnExactAskWithSpec.vars)=true:=by kernel_rfl
theorem j5:((Rows.fnExactAskWithRow.stops == []))=true:=by kernel_rfl
theorem j6:((Tryz.pinned.checked.prog.stops == []))=true:=by kernel_rfl
theorem j7:((Rows.fnExactAskWithRow.knobs == []))=true:=by kernel_rfl
theorem j8:((Tryz.pinned.checked.prog.stopKnobs == []))=true:=by kernel_rfl
theorem j9:((Rows.fnExactAskWithRow.inPlace == Tryz.pinned.checked.prog.inPlace 3))=true:=by kernel_rfl
theorem j10:((Rows.fnExactAskWithRow.unfollowed == Tryz.pinned.checked.prog.unfollowed 3))=true:=by kernel_rfl
theorem j11:((Rows.fnExactAskWithRow.recurses == Tryz.pinned.checked.prog.recurses 3))=true:=by kernel_rfl
theorem j12:((Rows.fnExactAskWithRow.named == Tryz.pinned.checked.prog.varsNamed 3))=true:=by kernel_rfl
theorem j13:((Rows.fnExactAskWithRow.maps == (Tryz.f3.params.toList++Rows.fnExactAskWithSpec.plain.varTypes Tryz.pinned.checked.prog).any (Tryz.pinned.checked.prog.mapsRec ·)))=true:=by kernel_rfl
theorem j14:((Rows.fnExactAskWithRow.ifaces == (Tryz.f3.params.toList++Rows.fnExactAskWithSpec.plain.varTypes Tryz.pinned.checked.prog).any (Tryz.pinned.checked.prog.ifacesRec ·)))=true:=by kernel_rfl
theorem j15:((Rows.fnExactAskWithRow.mapsOut == Tryz.pinned.checked.prog.mapsAmong Tryz.f3.resultTypes.toList))=true:=by kernel_rfl
theorem j16:((Rows.fnExactAskWithRow.loops == (Tryz.f3.params.toList++Rows.fnExactAskWithSpec.plain.varTypes Tryz.pinned.checked.prog).any (Tryz.pinned.checked.prog.loopsFrom ·)))=true:=by kernel_rfl
theorem j17:((Rows.fnExactAskWithRow.wideKeys == (Tryz.f3.params.toList++Rows.fnExactAskWithSpec.plain.varTypes Tryz.pinned.checked.prog++Tryz.f3.resultTypes.toList).any (Tryz.pinned.checked.prog.wideKeysFrom ·)))=true:=by kernel_rfl
theorem j18:(Rows.fnExactAskWithSpec.vars.all (Tryz.pinned.checked.prog.varReadable ·))=true:=by kernel_rfl
theorem j19:(Tryz.f3.resultTypes.all (fun t=>Tryz.pinned.checked.prog.readableRec t&&decide (t<Tryz.pinned.checked.prog.types.size)))=true:=by kernel_rfl
theorem j20:((Rows.fnExactAskWithRow.ifacesOut == Tryz.f3.resultTypes.toList.any (Tryz.pinned.checked.prog.ifacesRec ·)))=true:=by kernel_rfl
theorem j21:((Rows.fnExactAskWithRow.loopsOut == Tryz.f3.resultTypes.toList.any (Tryz.pinned.checked.prog.loopsFrom ·)))=true:=by kernel_rfl
theorem j22:((Rows.fnExactAskWithRow.plainKeys == Tryz.pinned.checked.prog.plainKeys))=true:=by kernel_rfl
theorem j23:(Rows.fnExactAskWithRow.shortTexts.isNone)=true:=by kernel_rfl
theorem j24:(Tryz.pinned.checked.prog.stopsHeard)=true:=by kernel_rfl
theorem j25:(Tryz.pinned.checked.prog.mayEnter)=true:=by kernel_rfl
theorem j26:((Rows.fnExactAskWithRow.lifted == Tryz.pinned.checked.prog.liftsFinal))=true:=by kernel_rfl
theorem j27:((Tryz.pinned.checked.prog.make == some Rows.fnExactAskWithRow.make))=true:=by kernel_rfl
theorem j28:((Rows.fnExactAskWithRow.kinds == (if Rows.fnExactAskWithRow.domain.isEmpty then [] else Tryz.f3.params.toList.map fun t=>match Tryz.pinned.checked.prog.underlying t with | some (.int k)=>some k | _=>none)))=true:=by kernel_rfl
theorem j29:((Rows.fnExactAskWithRow.pinned == Rows.fnExactAskWithRow.pinnedBy))=true:=by kernel_rfl
theorem j30:((Rows.fnExactAskWithRow.veiled == (Tryz.f3.params.toList++Rows.fnExactAskWithSpec.plain.varTypes Tryz.pinned.checked.prog++Tryz.f3.resultTypes.toList).any (Tryz.pinned.checked.prog.veiledRec ·)))=true:=by kernel_rfl
theorem j31:(Rows.fnExactAskWithRow.veiledFits Tryz.pinned.checked.prog Tryz.f3.params.toList (Tryz.f3.params.toList++Rows.fnExactAskWithSpec.plain.varTypes Tryz.pinned.checked.prog++Tryz.f3.resultTypes.toList))=true:=by kernel_rfl
theorem B2T(hg:∀ x,B5T U2 x->∃ y,F_w_FnExactAskWith.fn x=some (true,y)):Rows.fnExactAskWithRow.holds Tryz.pinned (OpenSpec.ofChange Rows.fnExactAskWithSpec):=
 OpenClaim.holds_of_wide 3 Tryz.f3 rfl rfl rfl rfl rfl rfl rfl ⟨rfl,rfl,rfl,rfl,rfl⟩ rfl rfl rfl rfl rfl (by kernel_rfl) Tryz.func3 (D1s j0 j1 j2 j3 j4 j5 j6 j7 j8 j9 j10 j11 j12 j13 j14 j15 j16 j17 j18 j19 j20 j21 j22 j23 j24 j25 j26 j27 j28 j29 j30 j31)
  (A8 (by kernel_rfl)) (by unfold Func.isWrapper;first | (rw [G0 (by decide +kernel)];kernel_rfl) | (rw [D6 (by decide +kernel)];exact ⟨rfl,rfl⟩))
  (fun os started H enc _=>B0g hg os started H enc)
theorem fnExactAskWith_card(hg:∀ x,B5T U2 x->∃ y,F_w_FnExactAskWith.fn x=some (true,y)):Claim7.holds Tryz.pinned (.plain (OpenSpec.ofChange Rows.fnExactAskWithSpec)) Rows.fnExactAskWithCard:=C9u (B2T hg)
end Go.Proofs.YthnfghmjipikhaaGreatDoor.Ev
