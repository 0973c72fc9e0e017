/-
  The closed facts of the row of SeqLong, each by itself (the kernel reckons them one by one). Made by wip/closed.py. Conditions: none.
-/
import Derived.Test.YtakkmiomhackiaaGreatDoorRows
import Derived.JoinedCond
import Derived.KernelRfl
set_option linter.all false
namespace Go.Proofs.YtakkmiomhackiaaGreatDoor.ClosedSeqLong
open Go
set_option maxRecDepth 100000
theorem andM {a b : Bool} (h : a = true) (k : b = true) : (a && b) = true := by rw [h, k]; rfl
theorem c0 : (Rows.seqLongRow.wf (OpenSpec.ofChange (OpenSpec.ofChange Rows.seqLongSpec).bare)) = true := by kernel_rfl
theorem c1 : (laidOutB Tryz.pinned.checked.prog) = true := by kernel_rfl
theorem c2 : (mapsRowed Tryz.pinned.checked.prog) = true := by kernel_rfl
theorem c3 : (Tryz.f6.params.all (Tryz.pinned.checked.prog.readableRec ·)) = true := by kernel_rfl
theorem c4 : (namedTie Tryz.pinned.checked.prog Rows.seqLongRow.named (OpenSpec.ofChange Rows.seqLongSpec).bare.vars) = true := by kernel_rfl
theorem c5 : ((Rows.seqLongRow.stops == [])) = true := by kernel_rfl
theorem c6 : ((Tryz.pinned.checked.prog.stops == [])) = true := by kernel_rfl
theorem c7 : ((Rows.seqLongRow.knobs == [])) = true := by kernel_rfl
theorem c8 : ((Tryz.pinned.checked.prog.stopKnobs == [])) = true := by kernel_rfl
theorem c9 : ((Rows.seqLongRow.inPlace == Tryz.pinned.checked.prog.inPlace 6)) = true := by kernel_rfl
theorem c10 : ((Rows.seqLongRow.unfollowed == Tryz.pinned.checked.prog.unfollowed 6)) = true := by kernel_rfl
theorem c11 : ((Rows.seqLongRow.recurses == Tryz.pinned.checked.prog.recurses 6)) = true := by kernel_rfl
theorem c12 : ((Rows.seqLongRow.named == Tryz.pinned.checked.prog.varsNamed 6)) = true := by kernel_rfl
theorem c13 : ((Rows.seqLongRow.maps == (Tryz.f6.params.toList ++ (OpenSpec.ofChange Rows.seqLongSpec).bare.plain.varTypes Tryz.pinned.checked.prog).any (Tryz.pinned.checked.prog.mapsRec ·))) = true := by kernel_rfl
theorem c14 : ((Rows.seqLongRow.ifaces == (Tryz.f6.params.toList ++ (OpenSpec.ofChange Rows.seqLongSpec).bare.plain.varTypes Tryz.pinned.checked.prog).any (Tryz.pinned.checked.prog.ifacesRec ·))) = true := by kernel_rfl
theorem c15 : ((Rows.seqLongRow.mapsOut == Tryz.pinned.checked.prog.mapsAmong Tryz.f6.resultTypes.toList)) = true := by kernel_rfl
theorem c16 : ((Rows.seqLongRow.loops == (Tryz.f6.params.toList ++ (OpenSpec.ofChange Rows.seqLongSpec).bare.plain.varTypes Tryz.pinned.checked.prog).any (Tryz.pinned.checked.prog.loopsFrom ·))) = true := by kernel_rfl
theorem c17 : ((Rows.seqLongRow.wideKeys == (Tryz.f6.params.toList ++ (OpenSpec.ofChange Rows.seqLongSpec).bare.plain.varTypes Tryz.pinned.checked.prog ++ Tryz.f6.resultTypes.toList).any (Tryz.pinned.checked.prog.wideKeysFrom ·))) = true := by kernel_rfl
theorem c18 : ((OpenSpec.ofChange Rows.seqLongSpec).bare.vars.all (Tryz.pinned.checked.prog.varReadable ·)) = true := by kernel_rfl
theorem c19 : (Tryz.f6.resultTypes.all (fun t => Tryz.pinned.checked.prog.readableRec t && decide (t < Tryz.pinned.checked.prog.types.size))) = true := by kernel_rfl
theorem c20 : ((Rows.seqLongRow.ifacesOut == Tryz.f6.resultTypes.toList.any (Tryz.pinned.checked.prog.ifacesRec ·))) = true := by kernel_rfl
theorem c21 : ((Rows.seqLongRow.loopsOut == Tryz.f6.resultTypes.toList.any (Tryz.pinned.checked.prog.loopsFrom ·))) = true := by kernel_rfl
theorem c22 : ((Rows.seqLongRow.plainKeys == Tryz.pinned.checked.prog.plainKeys)) = true := by kernel_rfl
theorem c23 : (Rows.seqLongRow.shortTexts.isNone) = true := by kernel_rfl
theorem c24 : (Tryz.pinned.checked.prog.stopsHeard) = true := by kernel_rfl
theorem c25 : (Tryz.pinned.checked.prog.mayEnter) = true := by kernel_rfl
theorem c26 : ((Rows.seqLongRow.lifted == Tryz.pinned.checked.prog.liftsFinal)) = true := by kernel_rfl
theorem c27 : ((Tryz.pinned.checked.prog.make == some Rows.seqLongRow.make)) = true := by kernel_rfl
theorem c28 : ((Rows.seqLongRow.kinds == (if Rows.seqLongRow.domain.isEmpty then [] else Tryz.f6.params.toList.map fun t => match Tryz.pinned.checked.prog.underlying t with | some (.int k) => some k | _ => none))) = true := by kernel_rfl
theorem c29 : ((Rows.seqLongRow.pinned == Rows.seqLongRow.pinnedBy)) = true := by kernel_rfl
theorem c30 : ((Rows.seqLongRow.veiled == (Tryz.f6.params.toList ++ (OpenSpec.ofChange Rows.seqLongSpec).bare.plain.varTypes Tryz.pinned.checked.prog ++ Tryz.f6.resultTypes.toList).any (Tryz.pinned.checked.prog.veiledRec ·))) = true := by kernel_rfl
theorem c31 : (Rows.seqLongRow.veiledFits Tryz.pinned.checked.prog Tryz.f6.params.toList (Tryz.f6.params.toList ++ (OpenSpec.ofChange Rows.seqLongSpec).bare.plain.varTypes Tryz.pinned.checked.prog ++ Tryz.f6.resultTypes.toList)) = true := by kernel_rfl
theorem closed : joinedFacts Tryz.pinned.checked.prog 6 Tryz.f6 (OpenSpec.ofChange Rows.seqLongSpec).bare Rows.seqLongRow = true := by
  unfold joinedFacts
  exact (andM (andM (andM (andM (andM (andM (andM (andM (andM (andM (andM (andM (andM (andM (andM (andM (andM (andM (andM (andM (andM (andM (andM (andM (andM (andM (andM (andM (andM (andM (andM c0 c1) c2) c3) c4) c5) c6) c7) c8) c9) c10) c11) c12) c13) c14) c15) c16) c17) c18) c19) c20) c21) c22) c23) c24) c25) c26) c27) c28) c29) c30) c31)
theorem fnamed : Tryz.pinned.checked.prog.funcNamed Rows.seqLongRow.func = some 6 := by kernel_rfl
theorem inst : Tryz.f6.isInstance Tryz.pinned.checked.prog Rows.seqLongRow.origin Rows.seqLongRow.targs := of_decide_eq_true (by kernel_rfl)
theorem wrap : Tryz.f6.isWrapper Tryz.pinned.checked.prog Rows.seqLongRow.wrapper Rows.seqLongRow.mainSum := by unfold Func.isWrapper; rw [if_neg (of_decide_eq_false (by kernel_rfl))]; exact ⟨rfl, rfl⟩
end Go.Proofs.YtakkmiomhackiaaGreatDoor.ClosedSeqLong
