/-
  SeqAlls answers true wherever its arguments are together of bulk at most 1048576: All hands out the records that the reference has of the row, also to a loop that leaves early and one that goes over them again.
-/
import Derived.Test.YtakkmiomhackiaaGreatDoorAj30
set_option linter.all false
set_option maxRecDepth 100000
set_option maxHeartbeats 16000000
open Go.Proofs.Tryz
namespace Go.Proofs.YtakkmiomhackiaaGreatDoor
open Go.RowKit
open Go.ChangeShapes Go.WideShapes Go.ChangeAt Go.RowKit
namespace AllsWit
theorem own:ownKnob prog.godebug=none:=by kernel_rfl
def fill(l:List Value):Obj→Obj
 | .cells _ t frozen=>.cells l.toArray t frozen
 | o=>o
noncomputable def laidWorld(os:Os):World:=
 {World.holding prog os ⟨#[],#[],[]⟩with heap:=((World.holding prog os ⟨#[],#[],[]⟩).heap.modify 2 (fill (Go.Pinned.utf8FirstZ.map fun(z:Nat)=>Value.int .u8 (z:Int)))).modify 3 (fill (([128,191,160,191,128,159,144,191,128,143]++List.replicate 22 0).map fun(z:Nat)=>Value.int .u8 (z:Int)))}
end AllsWit
namespace Alls
theorem contract(H:Type)(enc:TypeId×Value→H)(W:World)(base:Nat)(args:Array Value)(ds gs:List (DataW H))(before:List MemPlace)
 (hval:∀(j:Nat) t v,Tryz.f7.params[j]?=some t→args[j]?=some v→Value.okWide prog W .any base t v)
 (hW:DataW.Whole enc prog Tryz.f7.params.toList Rows.seqAllsSpec.vars false W args.toList ds gs before)(hk:Rows.uptoSmall H (ds++gs)=true):
 Calls prog 7 args W fun e W'=>∃v,e=.returned v∧Rows.seqAllsSpec.post enc prog Tryz.f7 false true false false W args v W':=by
 have hW':=hW;obtain⟨p,q,hA0,hV,rfl,hfz,hnd⟩:=hW;have hA:DataW.TrodAll enc prog W 0 (fun _=>true) true Tryz.f7.params.toList args.toList ds p:=hA0;rw[Tryz.params7]at hA hval;obtain⟨v0,vs0,d0,ds0,p0,q0,hargs,rfl,rfl,h0,r0⟩:=trodAll_cons hA;obtain⟨v1,vs1,d1,ds1,p1,q1,rfl,rfl,rfl,h1,r1⟩:=trodAll_cons r0;obtain⟨v2,vs2,d2,ds2,p2,q2,rfl,rfl,rfl,h2,r2⟩:=trodAll_cons r1;obtain⟨rfl,rfl,rfl⟩:=trodAll_nil r2;obtain rfl:args= #[v0,v1,v2]:=by cases args;simp_all
 obtain⟨rfl,rfl⟩:=trodVars_none hV;have o0:=hval 0 22 v0 rfl rfl;obtain⟨a0,n0,c0,rfl⟩:=okWide_slice underlying22 o0;obtain⟨n1,rfl,rfl,rfl,hw1⟩:=open_int underlying3 (hval 1 3 _ rfl rfl) h1;obtain⟨n2,rfl,rfl,rfl,hw2⟩:=open_int underlying3 (hval 2 3 _ rfl rfl) h2;clear hA0;simp only[List.append_nil]at hW' hk;obtain⟨b0,l0,hb0⟩:=Rowed.opened_bytes o0 h0;have hbulk:Rows.uptoBulkAll [d0,.lit (.int .i64 n1),.lit (.int .i64 n2)]≤1048576:=of_decide_eq_true hk;simp only[Rows.uptoBulkAll]at hbulk;refine(tC W _ b0 n1 n2 hb0 (by omega)).mono fun e W' ⟨he,hn⟩=>?_;subst he;have hlt:∀x∈p0,x.block<W.heap.size:=fun x hx=>hW'.lt x (by simp[hx]);refine⟨_,rfl,Rowed.post_of_below (pa:=p0++([]++([]++ []))) (pv:= []) hW' (fun _ _ _=>trodAll_cons_mk (shut_bool underlying4 _) trodAll_mk0) (fun sp hs=>?_) (fun _ _=>rfl) (by simp) hn (ok_one (by kernel_rfl) rfl (okWide_bool_mk underlying4 _))⟩
 exact trodAll_cons_mk (WideElems.Trod_stays Rowed.laidOut (by kernel_rfl) (of_decide_eq_true (by kernel_rfl)) h0 (fun x hx=>hn.same (hlt x hx)) (fun x hx=>hs x (by simp[hx])))
  (trodAll_cons_mk (shut_int underlying3 hw1) (trodAll_cons_mk (shut_int underlying3 hw2) trodAll_mk0))
def wargs:Array Value:= #[.slice none 0 0,.int .i64 0,.int .i64 0]
theorem laid_met(os:Os):laidMet prog Rows.seqAllsUptoRow.laid ((AllsWit.laidWorld os).forCall (fun _ _=>0) ⟨#[],wargs,[]⟩).memory:=
 laidMet_of_run3 9 (by kernel_rfl) (by kernel_rfl) (by kernel_rfl)
theorem reads(os:Os){H:Type}(enc:TypeId×Value→H):∃places,DataW.whole enc prog ((AllsWit.laidWorld os).forCall (fun _ _=>0) ⟨#[],wargs,[]⟩).memory Tryz.f7.params.toList Rows.seqAllsSpec.vars false wargs.toList 9=some ([.nil,.lit (.int .i64 0),.lit (.int .i64 0)],[],places):=
 ⟨[],by kernel_rfl⟩
theorem lifted(os:Os)(started:os.Started)(H:Type)(enc:TypeId×Value→H)(F:Stop.Interp):
 ReturnsInHanded {} Tryz.checked os 7 .any ((Rows.OpenSpec.upto Rows.seqAllsSpec).preRow enc prog Tryz.f7 Rows.seqAllsUptoRow.domain false Rows.seqAllsUptoRow.laid) (((Rows.OpenSpec.upto Rows.seqAllsSpec).at F).post enc prog Tryz.f7 false true false false):=by
 obtain⟨places,hx⟩:=reads os enc
 refine returnsInHanded_of_row (C:=Tryz.checked) (s:=Rows.OpenSpec.upto Rows.seqAllsSpec) AllsWit.own started (by kernel_rfl) func7
  (witness_row_at (enc:=enc) (C:=Tryz.checked) false (AllsWit.laidWorld os) wargs rfl (by kernel_rfl) (by kernel_rfl) (by kernel_rfl)
   (OpenSpec.preRow_of_cond 9 hx (by kernel_rfl) (fun k hk=>by cases hk;kernel_rfl) (by kernel_rfl) (laid_met os))) ?_
 intro W base args ds gs before hval hW _ hcond _ _ _ _;exact contract H enc W base args ds gs before hval hW (hcond _ rfl)
theorem said:Rows.SeqAllsUptoSaid:=
 OpenClaim.holds_of_cond 7 Tryz.f7 rfl rfl rfl rfl rfl rfl rfl ⟨rfl,rfl,rfl,rfl,rfl⟩ rfl rfl rfl rfl rfl ClosedSeqAllsUpto.fnamed func7 ClosedSeqAllsUpto.closed ClosedSeqAllsUpto.inst ClosedSeqAllsUpto.wrap
  (fun os started H enc _ F=>by rw[OpenClaim.pre_eq_preRow];exact lifted os started H enc F)
theorem plain(f:FuncId)(fn:Func)(hf:Tryz.pinned.checked.prog.funcNamed "affidavit/affidavitlaw26.SeqAlls" =some f)(hfn:Tryz.pinned.checked.prog.funcs[f]?=some fn):
 true=Tryz.pinned.checked.prog.looks []∧∀(j:Nat) t,fn.params[j]?=some t→Tryz.pinned.checked.prog.wantsStandIn t=false:=by
 obtain rfl:f=7:=Option.some.inj ((show prog.funcNamed "affidavit/affidavitlaw26.SeqAlls" =some 7 by kernel_rfl).symm.trans hf) |>.symm;obtain rfl:fn=Tryz.f7:=(Option.some.inj (func7.symm.trans hfn)).symm;refine⟨by kernel_rfl,fun j t ht=>?_⟩;rw[Tryz.params7]at ht;have h3:Tryz.pinned.checked.prog.wantsStandIn 3=false:=by kernel_rfl
 have h22:Tryz.pinned.checked.prog.wantsStandIn 22=false:=by kernel_rfl
 match j,ht with
 | 0,ht=>cases ht;exact h22
 | 1,ht=>cases ht;exact h3
 | 2,ht=>cases ht;exact h3
 | j+3,ht=>simp at ht
theorem card:Rows.SeqAllsUptoCardSaid:=
 Claim7.holds_tied_plain_at .later [] _ _ _ _ said (fun _ h=>by cases h) (by kernel_rfl) (fun _ h=>by cases h) seqAllsUpto_row_tie rfl ⟨rfl,rfl⟩ (by kernel_rfl) rfl plain (by kernel_rfl)
end Alls
#print axioms Alls.card
