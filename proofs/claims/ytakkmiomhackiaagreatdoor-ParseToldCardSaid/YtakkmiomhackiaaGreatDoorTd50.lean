/-
  The program, one part of its walk. Conditions: none.
-/
import Derived.Test.YtakkmiomhackiaaGreatDoorTd00
import Derived.Test.YtakkmiomhackiaaGreatDoorRows
import Derived.JoinedCond
import Derived.KernelRfl
set_option linter.all false
set_option maxRecDepth 100000
set_option maxHeartbeats 16000000
open Go.Proofs.Tryz
open Bool renaming true->I
open Go renaming joinedFacts->S
open Go.OpenSpec renaming ofChange->N
open Go.Proofs.Tryz renaming f3->J
open Option renaming some->O
namespace Go.Proofs.YtakkmiomhackiaaGreatDoor.ClosedParseTold
open Go
theorem andM{a b:Bool}(h:a=I)(k:b=I):(a&&b)=I:=by rw[h,k];rfl
theorem c0:(Rows.parseToldRow.wf (N (N Rows.parseToldSpec).bare))=I:=by kernel_rfl
theorem c1:(laidOutB Tryz.pinned.checked.prog)=I:=by kernel_rfl
theorem c2:(mapsRowed Tryz.pinned.checked.prog)=I:=by kernel_rfl
theorem c3:(J.params.all (Tryz.pinned.checked.prog.readableRec ·))=I:=by kernel_rfl
theorem c4:(namedTie Tryz.pinned.checked.prog Rows.parseToldRow.named (N Rows.parseToldSpec).bare.vars)=I:=by kernel_rfl
theorem c5:((Rows.parseToldRow.stops== []))=I:=by kernel_rfl
theorem c6:((Tryz.pinned.checked.prog.stops== []))=I:=by kernel_rfl
theorem c7:((Rows.parseToldRow.knobs== []))=I:=by kernel_rfl
theorem c8:((Tryz.pinned.checked.prog.stopKnobs== []))=I:=by kernel_rfl
theorem c9:((Rows.parseToldRow.inPlace==Tryz.pinned.checked.prog.inPlace 3))=I:=by kernel_rfl
theorem c10:((Rows.parseToldRow.unfollowed==Tryz.pinned.checked.prog.unfollowed 3))=I:=by kernel_rfl
theorem c11:((Rows.parseToldRow.recurses==Tryz.pinned.checked.prog.recurses 3))=I:=by kernel_rfl
theorem c12:((Rows.parseToldRow.named==Tryz.pinned.checked.prog.varsNamed 3))=I:=by kernel_rfl
theorem c13:((Rows.parseToldRow.maps==(J.params.toList++(N Rows.parseToldSpec).bare.plain.varTypes Tryz.pinned.checked.prog).any (Tryz.pinned.checked.prog.mapsRec ·)))=I:=by kernel_rfl
theorem c14:((Rows.parseToldRow.ifaces==(J.params.toList++(N Rows.parseToldSpec).bare.plain.varTypes Tryz.pinned.checked.prog).any (Tryz.pinned.checked.prog.ifacesRec ·)))=I:=by kernel_rfl
theorem c15:((Rows.parseToldRow.mapsOut==Tryz.pinned.checked.prog.mapsAmong J.resultTypes.toList))=I:=by kernel_rfl
theorem c16:((Rows.parseToldRow.loops==(J.params.toList++(N Rows.parseToldSpec).bare.plain.varTypes Tryz.pinned.checked.prog).any (Tryz.pinned.checked.prog.loopsFrom ·)))=I:=by kernel_rfl
theorem c17:((Rows.parseToldRow.wideKeys==(J.params.toList++(N Rows.parseToldSpec).bare.plain.varTypes Tryz.pinned.checked.prog++J.resultTypes.toList).any (Tryz.pinned.checked.prog.wideKeysFrom ·)))=I:=by kernel_rfl
theorem c18:((N Rows.parseToldSpec).bare.vars.all (Tryz.pinned.checked.prog.varReadable ·))=I:=by kernel_rfl
theorem c19:(J.resultTypes.all (λt=>Tryz.pinned.checked.prog.readableRec t&&decide (t<Tryz.pinned.checked.prog.types.size)))=I:=by kernel_rfl
theorem c20:((Rows.parseToldRow.ifacesOut==J.resultTypes.toList.any (Tryz.pinned.checked.prog.ifacesRec ·)))=I:=by kernel_rfl
theorem c21:((Rows.parseToldRow.loopsOut==J.resultTypes.toList.any (Tryz.pinned.checked.prog.loopsFrom ·)))=I:=by kernel_rfl
theorem c22:((Rows.parseToldRow.plainKeys==Tryz.pinned.checked.prog.plainKeys))=I:=by kernel_rfl
theorem c23:(Rows.parseToldRow.shortTexts.isNone)=I:=by kernel_rfl
theorem c24:(Tryz.pinned.checked.prog.stopsHeard)=I:=by kernel_rfl
theorem c25:(Tryz.pinned.checked.prog.mayEnter)=I:=by kernel_rfl
theorem c26:((Rows.parseToldRow.lifted==Tryz.pinned.checked.prog.liftsFinal))=I:=by kernel_rfl
theorem c27:((Tryz.pinned.checked.prog.make==O Rows.parseToldRow.make))=I:=by kernel_rfl
theorem c28:((Rows.parseToldRow.kinds==(if Rows.parseToldRow.domain.isEmpty then []else J.params.toList.map λt=>match Tryz.pinned.checked.prog.underlying t with|some (.int k)=>O k|_=>none)))=I:=by kernel_rfl
theorem c29:((Rows.parseToldRow.pinned==Rows.parseToldRow.pinnedBy))=I:=by kernel_rfl
theorem c30:((Rows.parseToldRow.veiled==(J.params.toList++(N Rows.parseToldSpec).bare.plain.varTypes Tryz.pinned.checked.prog++J.resultTypes.toList).any (Tryz.pinned.checked.prog.veiledRec ·)))=I:=by kernel_rfl
theorem c31:(Rows.parseToldRow.veiledFits Tryz.pinned.checked.prog J.params.toList (J.params.toList++(N Rows.parseToldSpec).bare.plain.varTypes Tryz.pinned.checked.prog++J.resultTypes.toList))=I:=by kernel_rfl
theorem closed:S Tryz.pinned.checked.prog 3 J (N Rows.parseToldSpec).bare Rows.parseToldRow=I:=by
 unfold S;exact(andM (andM (andM (andM (andM (andM (andM (andM (andM (andM (andM (andM (andM (andM (andM (andM (andM (andM (andM (andM (andM (andM (andM (andM (andM (andM (andM (andM (andM (andM (andM c0 c1) c2) c3) c4) c5) c6) c7) c8) c9) c10) c11) c12) c13) c14) c15) c16) c17) c18) c19) c20) c21) c22) c23) c24) c25) c26) c27) c28) c29) c30) c31)
theorem fnamed:Tryz.pinned.checked.prog.funcNamed Rows.parseToldRow.func=O 3:=by kernel_rfl
theorem inst:J.isInstance Tryz.pinned.checked.prog Rows.parseToldRow.origin Rows.parseToldRow.targs:=of_decide_eq_true (by kernel_rfl)
theorem wrap:J.isWrapper Tryz.pinned.checked.prog Rows.parseToldRow.wrapper Rows.parseToldRow.mainSum:=by unfold Func.isWrapper;rw[if_neg (of_decide_eq_false (by kernel_rfl))];exact⟨rfl,rfl⟩
end Go.Proofs.YtakkmiomhackiaaGreatDoor.ClosedParseTold
