/-
  The closed facts of the row of SeqPiecesUpto, each by itself (the kernel reckons them one by one). Made by wip/closed.py. Conditions: none.
-/
import Derived.Test.YtakkmiomhackiaaGreatDoorRows
import Derived.JoinedCond
import Derived.KernelRfl
set_option linter.all false
set_option maxRecDepth 100000
set_option maxHeartbeats 16000000
namespace Go.Proofs.YtakkmiomhackiaaGreatDoor.ClosedSeqPiecesUpto
open Go
theorem andM {a b : Bool} (h : a = true) (k : b = true) : (a && b) = true := by rw [h, k]; rfl
theorem c0 : (Rows.seqPiecesUptoRow.wf (OpenSpec.ofChange (Rows.OpenSpec.upto Rows.seqPiecesSpec).bare)) = true := by kernel_rfl
theorem c1 : (laidOutB Tryz.pinned.checked.prog) = true := by kernel_rfl
theorem c2 : (mapsRowed Tryz.pinned.checked.prog) = true := by kernel_rfl
theorem c3 : (Tryz.f8.params.all (Tryz.pinned.checked.prog.readableRec ·)) = true := by kernel_rfl
theorem c4 : (namedTie Tryz.pinned.checked.prog Rows.seqPiecesUptoRow.named (Rows.OpenSpec.upto Rows.seqPiecesSpec).bare.vars) = true := by kernel_rfl
theorem c5 : ((Rows.seqPiecesUptoRow.stops == [])) = true := by kernel_rfl
theorem c6 : ((Tryz.pinned.checked.prog.stops == [])) = true := by kernel_rfl
theorem c7 : ((Rows.seqPiecesUptoRow.knobs == [])) = true := by kernel_rfl
theorem c8 : ((Tryz.pinned.checked.prog.stopKnobs == [])) = true := by kernel_rfl
theorem c9 : ((Rows.seqPiecesUptoRow.inPlace == Tryz.pinned.checked.prog.inPlace 8)) = true := by kernel_rfl
theorem c10 : ((Rows.seqPiecesUptoRow.unfollowed == Tryz.pinned.checked.prog.unfollowed 8)) = true := by kernel_rfl
theorem c11 : ((Rows.seqPiecesUptoRow.recurses == Tryz.pinned.checked.prog.recurses 8)) = true := by kernel_rfl
theorem c12 : ((Rows.seqPiecesUptoRow.named == Tryz.pinned.checked.prog.varsNamed 8)) = true := by kernel_rfl
theorem c13 : ((Rows.seqPiecesUptoRow.maps == (Tryz.f8.params.toList ++ (Rows.OpenSpec.upto Rows.seqPiecesSpec).bare.plain.varTypes Tryz.pinned.checked.prog).any (Tryz.pinned.checked.prog.mapsRec ·))) = true := by kernel_rfl
theorem c14 : ((Rows.seqPiecesUptoRow.ifaces == (Tryz.f8.params.toList ++ (Rows.OpenSpec.upto Rows.seqPiecesSpec).bare.plain.varTypes Tryz.pinned.checked.prog).any (Tryz.pinned.checked.prog.ifacesRec ·))) = true := by kernel_rfl
theorem c15 : ((Rows.seqPiecesUptoRow.mapsOut == Tryz.pinned.checked.prog.mapsAmong Tryz.f8.resultTypes.toList)) = true := by kernel_rfl
theorem c16 : ((Rows.seqPiecesUptoRow.loops == (Tryz.f8.params.toList ++ (Rows.OpenSpec.upto Rows.seqPiecesSpec).bare.plain.varTypes Tryz.pinned.checked.prog).any (Tryz.pinned.checked.prog.loopsFrom ·))) = true := by kernel_rfl
theorem c17 : ((Rows.seqPiecesUptoRow.wideKeys == (Tryz.f8.params.toList ++ (Rows.OpenSpec.upto Rows.seqPiecesSpec).bare.plain.varTypes Tryz.pinned.checked.prog ++ Tryz.f8.resultTypes.toList).any (Tryz.pinned.checked.prog.wideKeysFrom ·))) = true := by kernel_rfl
theorem c18 : ((Rows.OpenSpec.upto Rows.seqPiecesSpec).bare.vars.all (Tryz.pinned.checked.prog.varReadable ·)) = true := by kernel_rfl
theorem c19 : (Tryz.f8.resultTypes.all (fun t => Tryz.pinned.checked.prog.readableRec t && decide (t < Tryz.pinned.checked.prog.types.size))) = true := by kernel_rfl
theorem c20 : ((Rows.seqPiecesUptoRow.ifacesOut == Tryz.f8.resultTypes.toList.any (Tryz.pinned.checked.prog.ifacesRec ·))) = true := by kernel_rfl
theorem c21 : ((Rows.seqPiecesUptoRow.loopsOut == Tryz.f8.resultTypes.toList.any (Tryz.pinned.checked.prog.loopsFrom ·))) = true := by kernel_rfl
theorem c22 : ((Rows.seqPiecesUptoRow.plainKeys == Tryz.pinned.checked.prog.plainKeys)) = true := by kernel_rfl
theorem c23 : (Rows.seqPiecesUptoRow.shortTexts.isNone) = true := by kernel_rfl
theorem c24 : (Tryz.pinned.checked.prog.stopsHeard) = true := by kernel_rfl
theorem c25 : (Tryz.pinned.checked.prog.mayEnter) = true := by kernel_rfl
theorem c26 : ((Rows.seqPiecesUptoRow.lifted == Tryz.pinned.checked.prog.liftsFinal)) = true := by kernel_rfl
theorem c27 : ((Tryz.pinned.checked.prog.make == some Rows.seqPiecesUptoRow.make)) = true := by kernel_rfl
theorem c28 : ((Rows.seqPiecesUptoRow.kinds == (if Rows.seqPiecesUptoRow.domain.isEmpty then [] else Tryz.f8.params.toList.map fun t => match Tryz.pinned.checked.prog.underlying t with | some (.int k) => some k | _ => none))) = true := by kernel_rfl
theorem c29 : ((Rows.seqPiecesUptoRow.pinned == Rows.seqPiecesUptoRow.pinnedBy)) = true := by kernel_rfl
theorem c30 : ((Rows.seqPiecesUptoRow.veiled == (Tryz.f8.params.toList ++ (Rows.OpenSpec.upto Rows.seqPiecesSpec).bare.plain.varTypes Tryz.pinned.checked.prog ++ Tryz.f8.resultTypes.toList).any (Tryz.pinned.checked.prog.veiledRec ·))) = true := by kernel_rfl
theorem c31 : (Rows.seqPiecesUptoRow.veiledFits Tryz.pinned.checked.prog Tryz.f8.params.toList (Tryz.f8.params.toList ++ (Rows.OpenSpec.upto Rows.seqPiecesSpec).bare.plain.varTypes Tryz.pinned.checked.prog ++ Tryz.f8.resultTypes.toList)) = true := by kernel_rfl
theorem closed : joinedFacts Tryz.pinned.checked.prog 8 Tryz.f8 (Rows.OpenSpec.upto Rows.seqPiecesSpec).bare Rows.seqPiecesUptoRow = true := by
 unfold joinedFacts;exact (andM (andM (andM (andM (andM (andM (andM (andM (andM (andM (andM (andM (andM (andM (andM (andM (andM (andM (andM (andM (andM (andM (andM (andM (andM (andM (andM (andM (andM (andM (andM c0 c1) c2) c3) c4) c5) c6) c7) c8) c9) c10) c11) c12) c13) c14) c15) c16) c17) c18) c19) c20) c21) c22) c23) c24) c25) c26) c27) c28) c29) c30) c31)
theorem fnamed : Tryz.pinned.checked.prog.funcNamed Rows.seqPiecesUptoRow.func = some 8 := by kernel_rfl
theorem inst : Tryz.f8.isInstance Tryz.pinned.checked.prog Rows.seqPiecesUptoRow.origin Rows.seqPiecesUptoRow.targs := of_decide_eq_true (by kernel_rfl)
theorem wrap : Tryz.f8.isWrapper Tryz.pinned.checked.prog Rows.seqPiecesUptoRow.wrapper Rows.seqPiecesUptoRow.mainSum := by unfold Func.isWrapper; rw [if_neg (of_decide_eq_false (by kernel_rfl))]; exact ⟨rfl, rfl⟩
end Go.Proofs.YtakkmiomhackiaaGreatDoor.ClosedSeqPiecesUpto
