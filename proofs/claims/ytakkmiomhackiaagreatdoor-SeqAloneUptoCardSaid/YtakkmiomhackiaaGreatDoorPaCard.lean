/-
  SeqAlone answers true wherever its arguments are together of bulk at most 1048576: what stands in one record's place costs that one alone; a record is what parse says of its bytes.
-/
import Derived.Test.YtakkmiomhackiaaGreatDoorPa40
import Derived.Test.YtakkmiomhackiaaGreatDoorPa39
import Derived.Test.YtakkmiomhackiaaGreatDoorPa41
import Derived.Test.YtakkmiomhackiaaGreatDoorPa00
set_option linter.all false
set_option maxRecDepth 100000
set_option maxHeartbeats 16000000
open Go.Proofs.Tryz
namespace Go.Proofs.YtakkmiomhackiaaGreatDoor
open Go.RowKit
open Go.ChangeShapes Go.WideShapes Go.ChangeAt Go.RowKit
namespace AloneWit
theorem own : ownKnob prog.godebug = none := by kernel_rfl
def fill (l : List Value) : Obj → Obj
 | .cells _ t frozen => .cells l.toArray t frozen
 | o => o
noncomputable def laidWorld (os : Os) : World :=
 { World.holding prog os ⟨#[], #[], []⟩ with heap := ((World.holding prog os ⟨#[], #[], []⟩).heap.modify 2 (fill (Go.Pinned.utf8FirstZ.map fun (z : Nat) => Value.int .u8 (z : Int)))).modify 3 (fill (([128, 191, 160, 191, 128, 159, 144, 191, 128, 143] ++ List.replicate 22 0).map fun (z : Nat) => Value.int .u8 (z : Int))) }
end AloneWit
namespace Alone
theorem contract (H : Type) (enc : TypeId × Value → H) (W : World) (base : Nat) (args : Array Value) (ds gs : List (DataW H)) (before : List MemPlace)
 (hval : ∀ (j : Nat) t v, Tryz.f9.params[j]? = some t → args[j]? = some v → Value.okWide prog W .any base t v)
 (hW : DataW.Whole enc prog Tryz.f9.params.toList Rows.seqAloneSpec.vars false W args.toList ds gs before) (hk : Rows.uptoSmall H (ds ++ gs) = true) :
 Calls prog 9 args W fun e W' => ∃ v, e = .returned v ∧ Rows.seqAloneSpec.post enc prog Tryz.f9 false true false false W args v W' := by
 have hW' := hW;obtain ⟨p, q, hA0, hV, rfl, hfz, hnd⟩ := hW;have hA : DataW.TrodAll enc prog W 0 (fun _ => true) true Tryz.f9.params.toList args.toList ds p := hA0;rw [Tryz.params9] at hA hval;obtain ⟨v0, vs0, d0, ds0, p0, q0, hargs, rfl, rfl, h0, r0⟩ := trodAll_cons hA;obtain ⟨v1, vs1, d1, ds1, p1, q1, rfl, rfl, rfl, h1, r1⟩ := trodAll_cons r0;obtain ⟨v2, vs2, d2, ds2, p2, q2, rfl, rfl, rfl, h2, r2⟩ := trodAll_cons r1;obtain ⟨v3, vs3, d3, ds3, p3, q3, rfl, rfl, rfl, h3, r3⟩ := trodAll_cons r2;obtain ⟨rfl, rfl, rfl⟩ := trodAll_nil r3;obtain rfl : args = #[v0, v1, v2, v3] := by cases args; simp_all
 obtain ⟨rfl, rfl⟩ := trodVars_none hV;have o0 := hval 0 22 v0 rfl rfl;have o1 := hval 1 22 v1 rfl rfl;have o2 := hval 2 22 v2 rfl rfl;have o3 := hval 3 22 v3 rfl rfl;obtain ⟨a0, n0, c0, rfl⟩ := okWide_slice underlying22 o0;obtain ⟨a1, n1, c1, rfl⟩ := okWide_slice underlying22 o1;obtain ⟨a2, n2, c2, rfl⟩ := okWide_slice underlying22 o2;obtain ⟨a3, n3, c3, rfl⟩ := okWide_slice underlying22 o3;clear hA0;simp only [List.append_nil] at hW' hk;obtain ⟨b0, l0, hb0⟩ := Rowed.opened_bytes o0 h0;obtain ⟨b1, l1, hb1⟩ := Rowed.opened_bytes o1 h1;obtain ⟨b2, l2, hb2⟩ := Rowed.opened_bytes o2 h2;obtain ⟨b3, l3, hb3⟩ := Rowed.opened_bytes o3 h3;have hbulk : Rows.uptoBulkAll [d0, d1, d2, d3] ≤ 1048576 := of_decide_eq_true hk;simp only [Rows.uptoBulkAll] at hbulk;refine (alone_any W _ _ _ _ b0 b1 b2 b3 hb0 hb1 hb2 hb3 (by omega) (by omega) (by omega) (by omega)).mono fun e W' ⟨he, hn⟩ => ?_
 subst he;have hlt : ∀ x ∈ p0 ++ (p1 ++ (p2 ++ p3)), x.block < W.heap.size := fun x hx => hW'.lt x hx
 refine ⟨_, rfl, Rowed.post_of_below (pa := p0 ++ (p1 ++ (p2 ++ (p3 ++ [])))) (pv := []) hW' (fun _ _ _ => trodAll_cons_mk (shut_bool underlying4 _) trodAll_mk0) (fun sp hs => ?_) (fun _ _ => rfl) (by simp) hn (ok_one (by kernel_rfl) rfl (okWide_bool_mk underlying4 _))⟩;refine trodAll_cons_mk ?_ (trodAll_cons_mk ?_ (trodAll_cons_mk ?_ (trodAll_cons_mk ?_ trodAll_mk0)))
 ·exact WideElems.Trod_stays Rowed.laidOut (by kernel_rfl) (of_decide_eq_true (by kernel_rfl)) h0 (fun x hx => hn.same (hlt x (by simp [hx]))) (fun x hx => hs x (by simp [hx]))
 ·exact WideElems.Trod_stays Rowed.laidOut (by kernel_rfl) (of_decide_eq_true (by kernel_rfl)) h1 (fun x hx => hn.same (hlt x (by simp [hx]))) (fun x hx => hs x (by simp [hx]))
 ·exact WideElems.Trod_stays Rowed.laidOut (by kernel_rfl) (of_decide_eq_true (by kernel_rfl)) h2 (fun x hx => hn.same (hlt x (by simp [hx]))) (fun x hx => hs x (by simp [hx]))
 ·exact WideElems.Trod_stays Rowed.laidOut (by kernel_rfl) (of_decide_eq_true (by kernel_rfl)) h3 (fun x hx => hn.same (hlt x (by simp [hx]))) (fun x hx => hs x (by simp [hx]))
def wargs : Array Value := #[.slice none 0 0, .slice none 0 0, .slice none 0 0, .slice none 0 0]
theorem laid_met (os : Os) : laidMet prog Rows.seqAloneUptoRow.laid ((AloneWit.laidWorld os).forCall (fun _ _ => 0) ⟨#[], wargs, []⟩).memory :=
 laidMet_of_run3 9 (by kernel_rfl) (by kernel_rfl) (by kernel_rfl)
theorem reads (os : Os) {H : Type} (enc : TypeId × Value → H) : ∃ places, DataW.whole enc prog ((AloneWit.laidWorld os).forCall (fun _ _ => 0) ⟨#[], wargs, []⟩).memory Tryz.f9.params.toList Rows.seqAloneSpec.vars false wargs.toList 9 = some ([.nil, .nil, .nil, .nil], [], places) :=
 ⟨[], by kernel_rfl⟩
theorem lifted (os : Os) (started : os.Started) (H : Type) (enc : TypeId × Value → H) (F : Stop.Interp) :
 ReturnsInHanded {} Tryz.checked os 9 .any ((Rows.OpenSpec.upto Rows.seqAloneSpec).preRow enc prog Tryz.f9 Rows.seqAloneUptoRow.domain false Rows.seqAloneUptoRow.laid) (((Rows.OpenSpec.upto Rows.seqAloneSpec).at F).post enc prog Tryz.f9 false true false false) := by
 obtain ⟨places, hx⟩ := reads os enc
 refine returnsInHanded_of_row (C := Tryz.checked) (s := Rows.OpenSpec.upto Rows.seqAloneSpec) AloneWit.own started (by kernel_rfl) func9
  (witness_row_at (enc := enc) (C := Tryz.checked) false (AloneWit.laidWorld os) wargs rfl (by kernel_rfl) (by kernel_rfl) (by kernel_rfl)
   (OpenSpec.preRow_of_cond 9 hx (by kernel_rfl) (fun k hk => by cases hk; kernel_rfl) (by kernel_rfl) (laid_met os))) ?_
 intro W base args ds gs before hval hW _ hcond _ _ _ _;exact contract H enc W base args ds gs before hval hW (hcond _ rfl)
theorem said : Rows.SeqAloneUptoSaid :=
 OpenClaim.holds_of_cond 9 Tryz.f9 rfl rfl rfl rfl rfl rfl rfl ⟨rfl, rfl, rfl, rfl, rfl⟩ rfl rfl rfl rfl rfl ClosedSeqAloneUpto.fnamed func9 ClosedSeqAloneUpto.closed ClosedSeqAloneUpto.inst ClosedSeqAloneUpto.wrap
  (fun os started H enc _ F => by rw [OpenClaim.pre_eq_preRow]; exact lifted os started H enc F)
theorem plain (f : FuncId) (fn : Func) (hf : Tryz.pinned.checked.prog.funcNamed "affidavit/affidavitlaw26.SeqAlone" = some f) (hfn : Tryz.pinned.checked.prog.funcs[f]? = some fn) :
 true = Tryz.pinned.checked.prog.looks [] ∧ ∀ (j : Nat) t, fn.params[j]? = some t → Tryz.pinned.checked.prog.wantsStandIn t = false := by
 obtain rfl : f = 9 := Option.some.inj ((show prog.funcNamed "affidavit/affidavitlaw26.SeqAlone" = some 9 by kernel_rfl).symm.trans hf) |>.symm
 obtain rfl : fn = Tryz.f9 := (Option.some.inj (func9.symm.trans hfn)).symm;refine ⟨by kernel_rfl, fun j t ht => ?_⟩;rw [Tryz.params9] at ht;have h22 : Tryz.pinned.checked.prog.wantsStandIn 22 = false := by kernel_rfl
 match j, ht with
 | 0, ht => cases ht; exact h22
 | 1, ht => cases ht; exact h22
 | 2, ht => cases ht; exact h22
 | 3, ht => cases ht; exact h22
 | j + 4, ht => simp at ht
theorem card : Rows.SeqAloneUptoCardSaid :=
 Claim7.holds_tied_plain_at .later [] _ _ _ _ said (fun _ h => by cases h) (by kernel_rfl) (fun _ h => by cases h) seqAloneUpto_row_tie rfl ⟨rfl, rfl⟩ (by kernel_rfl) rfl plain (by kernel_rfl)
end Alone
#print axioms Alone.card
end Go.Proofs.YtakkmiomhackiaaGreatDoor
