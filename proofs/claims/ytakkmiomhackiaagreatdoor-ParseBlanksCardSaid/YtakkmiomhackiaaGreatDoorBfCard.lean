/-
  ParseBlanks answers true at every input: blanks between tokens change nothing of the tree. Conditions: none beyond the card's own (the listed tables of the library lie as the program's text lays them).
-/
import Derived.Test.YtakkmiomhackiaaGreatDoorBf29
import Derived.Test.YtakkmiomhackiaaGreatDoorBf30
import Derived.Test.YtakkmiomhackiaaGreatDoorCards
import Derived.Test.YtakkmiomhackiaaGreatDoorTie
import Derived.ProofKit
import Derived.OpenShut
import Derived.ChangeSame
import Derived.Carry
import Derived.Deep.DeepHandedRow
import Derived.Deep.DeepLaidRun
import Derived.Lib.LaidTab
set_option linter.all false
set_option maxRecDepth 100000
set_option maxHeartbeats 16000000
open Go.Proofs.Tryz
namespace Go.Proofs.YtakkmiomhackiaaGreatDoor
open Go.RowKit
open Go.ChangeShapes Go.WideShapes Go.ChangeAt Go.RowKit
namespace BlanksWit
theorem own:ownKnob prog.godebug=none:=by kernel_rfl
def fill(l:List Value):Obj→Obj
 | .cells _ t frozen=>.cells l.toArray t frozen
 | o=>o
noncomputable def laidWorld(os:Os):World:=
 {World.holding prog os ⟨#[],#[],[]⟩with heap:=((World.holding prog os ⟨#[],#[],[]⟩).heap.modify 2 (fill (Go.Pinned.utf8FirstZ.map fun(z:Nat)=>Value.int .u8 (z:Int)))).modify 3 (fill (([128,191,160,191,128,159,144,191,128,143]++List.replicate 22 0).map fun(z:Nat)=>Value.int .u8 (z:Int)))}
end BlanksWit
namespace Blanks
theorem cells5:prog.cellsOf 5=1:=by kernel_rfl
theorem laidOut:laidOutB prog=true:=by kernel_rfl
theorem slice_plain{W:World}{base:Nat}{t e:TypeId}{a:Option Addr}{n c:Nat}(ht:prog.underlying t=some (.slice e))(h:Value.okWide prog W .any base t (.slice a n c)):Value.slice a n c=.slice none 0 0∨∃g off,a=some ⟨g,off,none⟩:=by
 simp only[Value.okWide,ht,Cell.okWide,Cell.ok]at h;cases a with
 | none=>
  left;split at h
  all_goals simp_all
 | some a=>
  right;obtain⟨g,off,s⟩:=a
  have:s=none:=by
   simp only at h;exact h.2.2.2.1
  subst this;exact⟨g,off,rfl⟩
theorem byte_of_wf{x:Int}(h:(Lit.int .u8 x).wf=true):0≤x∧x<256:=by
 have h1:IntKind.u8.min=0:=rfl;have h2:IntKind.u8.max=255:=rfl;simp only[Lit.wf,Bool.and_eq_true,decide_eq_true_eq]at h;omega
theorem nil_shape{a:Option Addr}{n c:Nat}(h:Value.slice a n c=.slice none 0 0):a=none∧n=0∧c=0:=by
 injection h with h1 h2 h3
 exact⟨h1,h2,h3⟩
theorem opened{H:Type}{enc:TypeId×Value→H}{W:World}{base:Nat}{a0:Option Addr}{len cap:Nat}{d0:DataW H}{p:List MemPlace}(hok:Value.okWide prog W .any base 22 (.slice a0 len cap))
 (h0:DataW.Trod enc prog W 0 (fun _=>true) true 22 (.slice a0 len cap) d0 p):∃b:List UInt8,BytesIn (fun k=>W.heap.size≤k) W (.slice a0 len cap) b:=by
 have hpl:=slice_plain underlying22 hok;obtain⟨fuel,hf⟩:=h0;rcases open_ints underlying22 underlying5 cells5 hf with⟨hcs,-⟩|⟨a,len',cap',zs,hcs,_,hl,hm,hz,hx,hcell,hwz⟩
 ·simp[Value.cells]at hcs;obtain⟨rfl,rfl,rfl⟩:=hcs;exact⟨[],none,0,rfl,Nat.le_refl _,Nat.zero_le _,.inl rfl⟩
 ·simp[Value.cells]at hcs;obtain⟨rfl,rfl,rfl⟩:=hcs;simp only[Prod.mk.injEq]at hx;obtain⟨rfl,rfl⟩:=hx;simp only[if_true]at hz;obtain⟨g,off,hgo⟩:=hpl.resolve_left (fun e=>by cases (nil_shape e).1);cases hgo;have hlen:((zs.take len).map fun z=>UInt8.ofNat z.toNat).length=len:=by simp;omega
  by_cases hz0:len=0
  ·subst hz0;exact⟨[],_,cap,rfl,hl,hm,.inl rfl⟩
  have hc0:=hcell 0 (by omega)
  have hg:¬W.heap.size≤g:=fun hle=>by
   have:=World.block_lt_of_cell? W _ hc0;rw[add_plain]at this;simp only at this;omega
  refine⟨(zs.take len).map fun z=>UInt8.ofNat z.toNat,_,cap,by rw[hlen],by rw[hlen];exact hl,hm,.inr ⟨g,off,rfl,hg,fun i x hx=>?_⟩⟩;have hi:i<len:=by have:=(List.getElem?_eq_some_iff.1 hx).1;omega
  have hc:=hcell i (by omega);rw[add_plain]at hc;rw[hc];rw[List.getElem?_map,List.getElem?_take_of_lt hi]at hx;cases hzz:zs[i]? with
  | none=>rw[hzz]at hx;cases hx
  | some z=>
   rw[hzz]at hx;cases hx;have hb:=byte_of_wf (hwz z (List.mem_of_getElem? hzz));have hg:zs.getD i 0=z:=by rw[List.getD_eq_getElem?_getD,hzz];rfl
   rw[hg];have:(UInt8.ofNat z.toNat).toNat=z.toNat:=by simp[UInt8.toNat_ofNat];omega
   rw[this];congr 2;omega
theorem cells3':prog.cellsOf 3=1:=by kernel_rfl
theorem openedInts{H:Type}{enc:TypeId×Value→H}{W:World}{base:Nat}{a0:Option Addr}{len cap:Nat}{d0:DataW H}{p:List MemPlace}(hok:Value.okWide prog W .any base 50 (.slice a0 len cap))
 (h0:DataW.Trod enc prog W 0 (fun _=>true) true 50 (.slice a0 len cap) d0 p):∃zs:List Int,IntsIn W (.slice a0 len cap) zs:=by
 have hpl:=slice_plain underlying50 hok;obtain⟨fuel,hf⟩:=h0;rcases open_ints underlying50 underlying3 cells3' hf with⟨hcs,-⟩|⟨a,len',cap',zs,hcs,_,hl,hm,hz,hx,hcell,-⟩
 ·simp[Value.cells]at hcs;obtain⟨rfl,rfl,rfl⟩:=hcs;exact⟨[],none,0,rfl,Nat.le_refl _,Nat.zero_le _,.inl rfl⟩
 ·simp[Value.cells]at hcs;obtain⟨rfl,rfl,rfl⟩:=hcs;simp only[Prod.mk.injEq]at hx;obtain⟨rfl,rfl⟩:=hx;simp only[if_true]at hz;obtain⟨g,off,hgo⟩:=hpl.resolve_left (fun e=>by cases (nil_shape e).1);cases hgo;have hlen:(zs.take len).length=len:=by simp;omega
  by_cases hz0:len=0
  ·subst hz0;exact⟨[],_,cap,rfl,hl,hm,.inl rfl⟩
  have hc0:=hcell 0 (by omega)
  have hg:g<W.heap.size:=by
   have:=World.block_lt_of_cell? W _ hc0;rw[add_plain]at this
   simpa using this
  refine⟨zs.take len,_,cap,by rw[hlen],by rw[hlen];exact hl,hm,.inr ⟨g,off,rfl,hg,fun i x hx=>?_⟩⟩;have hi:i<len:=by have:=(List.getElem?_eq_some_iff.1 hx).1;omega
  have hc:=hcell i (by omega);rw[add_plain]at hc;rw[hc];rw[List.getElem?_take_of_lt hi]at hx;rw[List.getD_eq_getElem?_getD,hx];rfl
theorem post_of_below{H:Type}{enc:TypeId×Value→H}{P:Program}{f:Func}{s:ChangeSpec}{apart fresh handsOn again:Bool}{W W':World}{args:Array Value}{v:Value}{ds gs:List (DataW H)}{before pa pv:List MemPlace}
 (hW:DataW.Whole enc P f.params.toList s.vars apart W args.toList ds gs before)
 (hres:∀(b:Nat)(sp:Nat→Bool)(hd:Bool),DataW.TrodAll enc P W' b sp hd f.resultTypes.toList (v.resultList f.resultTypes.size) (s.fn H (ds++gs)).results [])
 (hargs:∀sp:Nat→Bool,(∀p∈before,sp p.block=true)→DataW.TrodAll enc P W' 0 sp true f.params.toList args.toList (s.fn H (ds++gs)).args pa)
 (hvars:∀sp:Nat→Bool,(∀p∈before,sp p.block=true)→DataW.TrodVars enc P W' sp s.vars (s.fn H (ds++gs)).vars pv)
 (hps:before=pa++pv)(hk:Below W.heap.size W W')
 (hok:∀(j:Nat)(t:TypeId)(r:Value),f.resultTypes[j]?=some t→(v.resultList f.resultTypes.size)[j]?=some r→Value.okWide P W' .any 0 t r):
 s.post enc P f apart fresh handsOn again W args v W':=by
 have hlt:∀p∈before,p.block<W.heap.size:=fun p hp=>hW.lt p hp
 have hold:∀p∈before,(fun b=>decide (b<W.heap.size)) p.block=true:=fun p hp=>by simpa using hW.lt p hp
 refine⟨ds,gs,before,[],pa,pv,hW,hres _ _ _,hargs _ hold,hvars _ hold,hk.frame _,fun _=>?_⟩;obtain⟨_,_,_,_,_,hz,hn⟩:=hW;refine⟨hok,_,_,([]++pa)++pv,⟨[]++pa,pv,trodAll_append (hargs _ (fun _ _=>rfl)) (hres _ _ _),hvars _ (fun _ _=>rfl),rfl,?_,?_⟩,?_⟩
 ·intro b off hp;have hp':=hp;rw[show([]++pa)++pv=before by rw[hps];simp]at hp';have hb:=hlt _ hp';have:=hz b off hp';unfold World.frozen? at this⊢;rw[hk.block b hb];exact this
 ·intro ha;have:=hn ha;rw[hps]at this
  simpa using this
 ·intro p hp _;rw[hps]
  simpa using hp
theorem contract(H:Type)(enc:TypeId×Value→H)(W:World)(base:Nat)(args:Array Value)(ds gs:List (DataW H))(before:List MemPlace)
 (hval:∀(j:Nat) t v,Tryz.f5.params[j]?=some t→args[j]?=some v→Value.okWide prog W .any base t v)
 (hW:DataW.Whole enc prog Tryz.f5.params.toList Rows.parseBlanksSpec.vars false W args.toList ds gs before):
 Calls prog 5 args W fun e W'=>∃v,e=.returned v∧Rows.parseBlanksSpec.post enc prog Tryz.f5 false true false false W args v W':=by
 have hW':=hW;obtain⟨p,q,hA0,hV,rfl,hfz,hnd⟩:=hW;have hA:DataW.TrodAll enc prog W 0 (fun _=>true) true Tryz.f5.params.toList args.toList ds p:=hA0;rw[Tryz.params5]at hA hval;obtain⟨v0,vs0,d0,ds0,p0,q0,hargs,rfl,rfl,h0,r0⟩:=trodAll_cons hA;obtain⟨v1,vs1,d1,ds1,p1,q1,rfl,rfl,rfl,h1,r1⟩:=trodAll_cons r0;obtain⟨v2,vs2,d2,ds2,p2,q2,rfl,rfl,rfl,h2,r2⟩:=trodAll_cons r1;obtain⟨rfl,rfl,rfl⟩:=trodAll_nil r2;obtain rfl:args= #[v0,v1,v2]:=by cases args;simp_all
 obtain⟨rfl,rfl⟩:=trodVars_none hV;have o0:=hval 0 22 v0 rfl rfl;obtain⟨a0,n0,c0,rfl⟩:=okWide_slice underlying22 o0;have o2:=hval 2 50 v2 rfl rfl;obtain⟨a2,n2,c2,rfl⟩:=okWide_slice underlying50 o2;obtain⟨n1,rfl,rfl,rfl,hw1⟩:=open_int underlying3 (hval 1 3 _ rfl rfl) h1;clear hA0;simp only[List.append_nil]at hW';obtain⟨b,hb⟩:=opened o0 h0;obtain⟨zs,hzs⟩:=openedInts o2 h2;refine(wG W _ b n1 _ zs hb hzs).mono fun e W' ⟨he,hn⟩=>?_
 subst he;have hlt:∀x∈p0,x.block<W.heap.size:=fun x hx=>hW'.lt x (by simp[hx])
 have hlt2:∀x∈p2,x.block<W.heap.size:=fun x hx=>hW'.lt x (by simp[hx])
 refine⟨_,rfl,post_of_below (pa:=p0++([]++(p2++ []))) (pv:= []) hW' (fun _ _ _=>trodAll_cons_mk (shut_bool underlying4 _) trodAll_mk0) (fun sp hs=>?_) (fun _ _=>rfl) (by simp) hn (ok_one (by kernel_rfl) rfl (okWide_bool_mk underlying4 _))⟩
 exact trodAll_cons_mk (WideElems.Trod_stays laidOut (by kernel_rfl) (of_decide_eq_true (by kernel_rfl)) h0 (fun x hx=>hn.same (hlt x hx)) (fun x hx=>hs x (by simp[hx])))
  (trodAll_cons_mk (shut_int underlying3 hw1) (trodAll_cons_mk (WideElems.Trod_stays laidOut (by kernel_rfl) (of_decide_eq_true (by kernel_rfl)) h2 (fun x hx=>hn.same (hlt2 x hx)) (fun x hx=>hs x (by simp[hx]))) trodAll_mk0))
def wargs:Array Value:= #[.slice none 0 0,.int .i64 0,.slice none 0 0]
theorem laid_met(os:Os):laidMet prog Rows.parseBlanksRow.laid ((BlanksWit.laidWorld os).forCall (fun _ _=>0) ⟨#[],wargs,[]⟩).memory:=
 laidMet_of_run3 9 (by kernel_rfl) (by kernel_rfl) (by kernel_rfl)
theorem reads(os:Os){H:Type}(enc:TypeId×Value→H):∃places,DataW.whole enc prog ((BlanksWit.laidWorld os).forCall (fun _ _=>0) ⟨#[],wargs,[]⟩).memory Tryz.f5.params.toList Rows.parseBlanksSpec.vars false wargs.toList 9=some ([.nil,.lit (.int .i64 0),.nil],[],places):=
 ⟨[],by kernel_rfl⟩
theorem lifted(os:Os)(started:os.Started)(H:Type)(enc:TypeId×Value→H)(F:Stop.Interp):
 ReturnsInHanded {} Tryz.checked os 5 .any ((OpenSpec.ofChange Rows.parseBlanksSpec).preRow enc prog Tryz.f5 Rows.parseBlanksRow.domain false Rows.parseBlanksRow.laid) (((OpenSpec.ofChange Rows.parseBlanksSpec).at F).post enc prog Tryz.f5 false true false false):=by
 obtain⟨places,hx⟩:=reads os enc
 refine returnsInHanded_of_row (C:=Tryz.checked) (s:=OpenSpec.ofChange Rows.parseBlanksSpec) BlanksWit.own started (by kernel_rfl) func5
  (witness_row_at (enc:=enc) (C:=Tryz.checked) false (BlanksWit.laidWorld os) wargs rfl (by kernel_rfl) (by kernel_rfl) (by kernel_rfl)
   (OpenSpec.preRow_of_cond 9 hx (by kernel_rfl) (fun k hk=>by cases hk) (by kernel_rfl) (laid_met os))) ?_
 intro W base args ds gs before hval hW _ _ _ _ _ _;exact contract H enc W base args ds gs before hval hW
theorem said:Rows.ParseBlanksSaid:=
 OpenClaim.holds_of_cond 5 Tryz.f5 rfl rfl rfl rfl rfl rfl rfl ⟨rfl,rfl,rfl,rfl,rfl⟩ rfl rfl rfl rfl rfl ClosedParseBlanks.fnamed func5 ClosedParseBlanks.closed ClosedParseBlanks.inst ClosedParseBlanks.wrap
  (fun os started H enc _ F=>by rw[OpenClaim.pre_eq_preRow];exact lifted os started H enc F)
theorem plain(f:FuncId)(fn:Func)(hf:Tryz.pinned.checked.prog.funcNamed "affidavit/affidavitlaw12.ParseBlanks" =some f)(hfn:Tryz.pinned.checked.prog.funcs[f]?=some fn):
 true=Tryz.pinned.checked.prog.looks []∧∀(j:Nat) t,fn.params[j]?=some t→Tryz.pinned.checked.prog.wantsStandIn t=false:=by
 obtain rfl:f=5:=Option.some.inj ((show prog.funcNamed "affidavit/affidavitlaw12.ParseBlanks" =some 5 by kernel_rfl).symm.trans hf) |>.symm
 obtain rfl:fn=Tryz.f5:=(Option.some.inj (func5.symm.trans hfn)).symm;refine⟨by kernel_rfl,fun j t ht=>?_⟩;rw[Tryz.params5]at ht;have h3:Tryz.pinned.checked.prog.wantsStandIn 3=false:=by kernel_rfl
 have h22:Tryz.pinned.checked.prog.wantsStandIn 22=false:=by kernel_rfl
 have h50:Tryz.pinned.checked.prog.wantsStandIn 50=false:=by kernel_rfl
 match j,ht with
 | 0,ht=>cases ht;exact h22
 | 1,ht=>cases ht;exact h3
 | 2,ht=>cases ht;exact h50
 | j+3,ht=>simp at ht
theorem card:Rows.ParseBlanksCardSaid:=
 Claim7.holds_tied_plain_at .later [] _ _ _ _ said (fun _ h=>by cases h) (by kernel_rfl) (fun _ h=>by cases h) parseBlanks_row_tie rfl ⟨rfl,rfl⟩ (by kernel_rfl) rfl plain (by kernel_rfl)
end Blanks
#print axioms Blanks.card
