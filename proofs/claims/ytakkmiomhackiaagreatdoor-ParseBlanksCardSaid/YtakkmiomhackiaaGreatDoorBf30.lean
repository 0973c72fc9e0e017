/-
  The program, one part of its walk. Conditions: none.
-/
import Derived.Test.YtakkmiomhackiaaGreatDoorBf00
import Derived.Test.YtakkmiomhackiaaGreatDoorRows
import Derived.JoinedCond
import Derived.KernelRfl
set_option linter.all false
set_option maxRecDepth 100000
set_option maxHeartbeats 16000000
open Go.Proofs.Tryz
open Bool renaming true->I
open Go renaming joinedFacts->S
open Go.OpenSpec renaming ofChange->N
open Go.Proofs.Tryz renaming f5->J
open Option renaming some->O
namespace Go.Proofs.YtakkmiomhackiaaGreatDoor.ClosedParseBlanks
open Go
def andM{a b:Bool}(h:a=I)(k:b=I):(a&&b)=I:=by rw[h,k];rfl
def c0:(Rows.parseBlanksRow.wf (N (N Rows.parseBlanksSpec).bare))=I:=by kernel_rfl
def c1:(laidOutB Tryz.pinned.checked.prog)=I:=by kernel_rfl
def c2:(mapsRowed Tryz.pinned.checked.prog)=I:=by kernel_rfl
def c3:(J.params.all (Tryz.pinned.checked.prog.readableRec ·))=I:=by kernel_rfl
def c4:(namedTie Tryz.pinned.checked.prog Rows.parseBlanksRow.named (N Rows.parseBlanksSpec).bare.vars)=I:=by kernel_rfl
def c5:((Rows.parseBlanksRow.stops== []))=I:=by kernel_rfl
def c6:((Tryz.pinned.checked.prog.stops== []))=I:=by kernel_rfl
def c7:((Rows.parseBlanksRow.knobs== []))=I:=by kernel_rfl
def c8:((Tryz.pinned.checked.prog.stopKnobs== []))=I:=by kernel_rfl
def c9:((Rows.parseBlanksRow.inPlace==Tryz.pinned.checked.prog.inPlace 5))=I:=by kernel_rfl
def c10:((Rows.parseBlanksRow.unfollowed==Tryz.pinned.checked.prog.unfollowed 5))=I:=by kernel_rfl
def c11:((Rows.parseBlanksRow.recurses==Tryz.pinned.checked.prog.recurses 5))=I:=by kernel_rfl
def c12:((Rows.parseBlanksRow.named==Tryz.pinned.checked.prog.varsNamed 5))=I:=by kernel_rfl
def c13:((Rows.parseBlanksRow.maps==(J.params.toList++(N Rows.parseBlanksSpec).bare.plain.varTypes Tryz.pinned.checked.prog).any (Tryz.pinned.checked.prog.mapsRec ·)))=I:=by kernel_rfl
def c14:((Rows.parseBlanksRow.ifaces==(J.params.toList++(N Rows.parseBlanksSpec).bare.plain.varTypes Tryz.pinned.checked.prog).any (Tryz.pinned.checked.prog.ifacesRec ·)))=I:=by kernel_rfl
def c15:((Rows.parseBlanksRow.mapsOut==Tryz.pinned.checked.prog.mapsAmong J.resultTypes.toList))=I:=by kernel_rfl
def c16:((Rows.parseBlanksRow.loops==(J.params.toList++(N Rows.parseBlanksSpec).bare.plain.varTypes Tryz.pinned.checked.prog).any (Tryz.pinned.checked.prog.loopsFrom ·)))=I:=by kernel_rfl
def c17:((Rows.parseBlanksRow.wideKeys==(J.params.toList++(N Rows.parseBlanksSpec).bare.plain.varTypes Tryz.pinned.checked.prog++J.resultTypes.toList).any (Tryz.pinned.checked.prog.wideKeysFrom ·)))=I:=by kernel_rfl
def c18:((N Rows.parseBlanksSpec).bare.vars.all (Tryz.pinned.checked.prog.varReadable ·))=I:=by kernel_rfl
def c19:(J.resultTypes.all (λt=>Tryz.pinned.checked.prog.readableRec t&&decide (t<Tryz.pinned.checked.prog.types.size)))=I:=by kernel_rfl
def c20:((Rows.parseBlanksRow.ifacesOut==J.resultTypes.toList.any (Tryz.pinned.checked.prog.ifacesRec ·)))=I:=by kernel_rfl
def c21:((Rows.parseBlanksRow.loopsOut==J.resultTypes.toList.any (Tryz.pinned.checked.prog.loopsFrom ·)))=I:=by kernel_rfl
def c22:((Rows.parseBlanksRow.plainKeys==Tryz.pinned.checked.prog.plainKeys))=I:=by kernel_rfl
def c23:(Rows.parseBlanksRow.shortTexts.isNone)=I:=by kernel_rfl
def c24:(Tryz.pinned.checked.prog.stopsHeard)=I:=by kernel_rfl
def c25:(Tryz.pinned.checked.prog.mayEnter)=I:=by kernel_rfl
def c26:((Rows.parseBlanksRow.lifted==Tryz.pinned.checked.prog.liftsFinal))=I:=by kernel_rfl
def c27:((Tryz.pinned.checked.prog.make==O Rows.parseBlanksRow.make))=I:=by kernel_rfl
def c28:((Rows.parseBlanksRow.kinds==(if Rows.parseBlanksRow.domain.isEmpty then []else J.params.toList.map λt=>match Tryz.pinned.checked.prog.underlying t with|some (.int k)=>O k|_=>none)))=I:=by kernel_rfl
def c29:((Rows.parseBlanksRow.pinned==Rows.parseBlanksRow.pinnedBy))=I:=by kernel_rfl
def c30:((Rows.parseBlanksRow.veiled==(J.params.toList++(N Rows.parseBlanksSpec).bare.plain.varTypes Tryz.pinned.checked.prog++J.resultTypes.toList).any (Tryz.pinned.checked.prog.veiledRec ·)))=I:=by kernel_rfl
def c31:(Rows.parseBlanksRow.veiledFits Tryz.pinned.checked.prog J.params.toList (J.params.toList++(N Rows.parseBlanksSpec).bare.plain.varTypes Tryz.pinned.checked.prog++J.resultTypes.toList))=I:=by kernel_rfl
def closed:S Tryz.pinned.checked.prog 5 J (N Rows.parseBlanksSpec).bare Rows.parseBlanksRow=I:=by
 unfold S;exact(andM (andM (andM (andM (andM (andM (andM (andM (andM (andM (andM (andM (andM (andM (andM (andM (andM (andM (andM (andM (andM (andM (andM (andM (andM (andM (andM (andM (andM (andM (andM c0 c1) c2) c3) c4) c5) c6) c7) c8) c9) c10) c11) c12) c13) c14) c15) c16) c17) c18) c19) c20) c21) c22) c23) c24) c25) c26) c27) c28) c29) c30) c31)
def fnamed:Tryz.pinned.checked.prog.funcNamed Rows.parseBlanksRow.func=O 5:=by kernel_rfl
def inst:J.isInstance Tryz.pinned.checked.prog Rows.parseBlanksRow.origin Rows.parseBlanksRow.targs:=of_decide_eq_true (by kernel_rfl)
def wrap:J.isWrapper Tryz.pinned.checked.prog Rows.parseBlanksRow.wrapper Rows.parseBlanksRow.mainSum:=by unfold Func.isWrapper;rw[if_neg (of_decide_eq_false (by kernel_rfl))];exact⟨rfl,rfl⟩
end Go.Proofs.YtakkmiomhackiaaGreatDoor.ClosedParseBlanks
