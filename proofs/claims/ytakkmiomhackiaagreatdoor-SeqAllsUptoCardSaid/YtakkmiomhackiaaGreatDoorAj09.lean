/-
  The program, one part of its walk. Conditions: none.
-/
import Derived.Test.YtakkmiomhackiaaGreatDoorAj05
import Derived.Test.YtakkmiomhackiaaGreatDoorAj08
import Derived.Shelf.SlSortCmp.Whole1
import Derived.Ground.SlsfProg
import Derived.Maps.OwnSet
import Derived.Lib.AppendZerosOnto
set_option linter.all false
set_option maxRecDepth 100000
set_option maxHeartbeats 16000000
open Go.Proofs.Tryz
open Bool renaming false->R,true->aj
open Go renaming Calls->Q,Value->Z,World->J,info_parts->dj,lt_of_block->bg,maxLen->D,plainElem_int->ew,results->bz,unitElem_mk->fe
open Go.Lit renaming int->cr,string->ar
open Go.Proofs.Tryz renaming func138->aw,func201->dq,ntmps138->az,ntmps201->dt,prog->O,results199->dp,underlying263->cw,underlying276->fd,underlying50->fm
open Go.Proofs.YtakkmiomhackiaaGreatDoor.Row renaming nil->fu
open List renaming getD->dl
open Nat renaming zero_mul->gm
open Option renaming none->X,some->I
open Or renaming inl->af,inr->ag
namespace Go.Proofs.YtakkmiomhackiaaGreatDoor
open Go.RowKit
open Ending renaming returned->ak
open Instr renaming lookup->cu,mapUpdate->fa
open IntKind renaming bits->gx,i64->V,max->gw,min->gv,signed->gy
open Maps renaming IsMap->ek,has->eo,has_put_other->et,has_put_same->ep,isMap_empty->em
open Obj renaming cells->W
open Proofs renaming ltOf->bk
open SlLaysF renaming n6->gq
open Dr renaming Below->eh,right_any->ei
open Fig renaming Small->fq,figs->av,figs_length_le->ga,figs_zero->ft,val->bw
open Keeps renaming A2->cz,A4->ah
open Lim renaming bitlen->ai,bitlen_le->gj
open Result renaming ok->ao
open RowKit renaming Below->au,intOf->cg
open Shelf renaming Ren->gp
open Value renaming agg->ac,int->U,map->bm,pointer->G,slice->Y,tuple->co
open WideAt renaming IsKeyLit->ct
open WideMaps renaming keyOf_string_mk->gr
open World renaming ownsMap_made->fg
open World.ownsMap renaming look_ok->eu,lookup_int->gu,store->fc
variable {a b k:Nat}{w w':J}{r:List Oo}{v:Z}{l:List Nat}
def uX{s t:ByteArray}(b:k<s.size)(a:k<t.size):eE (s.data.toList.drop k) (t.data.toList.drop k)=if s[k]=t[k]then eE (s.data.toList.drop (k+1)) (t.data.toList.drop (k+1))else if aZ s[k]<aZ t[k]then -1 else 1:=by
 rw[drop_at b,drop_at a];rfl
def wY{s t:ByteArray}(f:k<=s.size)(e:k<=t.size)(h:k=s.size\/k=t.size):eE (s.data.toList.drop k) (t.data.toList.drop k)=aCE s.size t.size:=by
 have c:(s.data.toList.drop k).length=s.size-k:=by rw[ea,jt];rfl
 have a:(t.data.toList.drop k).length=t.size-k:=by rw[ea,jt];rfl
 unfold aCE;cases d:s.data.toList.drop k with
 | nil=>
  rw[d]at c;simp at c;cases b:t.data.toList.drop k with
  | nil=>
   rw[b]at a;simp at a;rw[py,py];rfl
  | cons y g=>
   rw[b]at a;simp at a;rw[pz];rfl
 | cons x i=>
  rw[d]at c;simp at c;cases b:t.data.toList.drop k with
  | nil=>
   rw[b]at a;simp at a;rw[py,pz];rfl
  | cons y g=>
   rw[b]at a;simp at a;omega
def aHd{x y:UInt8}(a:x≠y):(if aZ x<aZ y then(-1:Int)else 1)=if 240<=x.toNat/\¬240<=y.toNat/\238<=y.toNat then -1 else if 240<=y.toNat/\¬240<=x.toNat/\238<=x.toNat then 1 else aCE x.toNat y.toNat:=by
 have d:x.toNat≠y.toNat:=λh=>a (kb h);have c:=x.toNat_lt;have b:=y.toNat_lt;unfold aZ aCE
 repeat' split
 all_goals(first|rfl|omega)
def aCG(s t:ByteArray)(c:aV s.data.toList=aj)(d:aV t.data.toList=aj)(y:s.size<=2097152)(z:t.size<=2097152)(w:J):
 Q O 240 #[s,t] w λe w'=>e=ak (U V (eE s.data.toList t.data.toList))/\eh w w w':=by
 have q:=A (λw=>ei s w (by omega));have r:=A (λw=>ei t w (by omega));rw[c]at q;rw[d]at r;clear c d;obtain⟨S,c⟩:∃S,eE s.data.toList t.data.toList=S:=⟨_,rfl⟩;rw[c];have d:=A c;clear c;go_enter func240,ntmps240;go_wp2_with fail;refine(q.o _).mono ?_;rintro e w1 ⟨rfl,c⟩;have f:=A c;clear c;go_wp2_with fail;refine(r.o _).mono ?_;rintro e w2 ⟨rfl,i⟩;have g:=A (Dr.chain f.o i);clear i;go_wp2;go_loopw [7] (λv wr=>∃k:Nat,k<=s.size/\k<=t.size/\v=U V k/\M (S=eE (s.data.toList.drop k) (t.data.toList.drop k)/\eh w.heap.size w wr)) (λv _=>s.size-(intOf v).toNat)
 case atStart=>exact⟨0,by omega,by omega,by go_num,A ⟨by rw[kz,kz];exact d.o.symm,g.o⟩⟩
 case round=>
  obtain⟨k,l,m,rfl,c⟩:=hrel;clear d g f;by_cases u:k<s.size
  .by_cases x:k<t.size
   .by_cases d:s[k]=t[k]
    .have f:((s[k].toNat:Nat):Int)=((t[k].toNat:Nat):Int):=(by rw[d]);have g:=A d;clear d;go_wp2;go_region;(all_goals go_wp2_with fail);all_goals refine⟨⟨k+1,by omega,by omega,by go_num,A ⟨c.o.1.trans (by rw[uX u x,pz g.o]),c.o.2.B0⟩⟩,by simp[intOf];omega⟩
    .have j:s[k].toNat≠t[k].toNat:=λP=>d (kb P);have f:=A (c.o.1.trans (by rw[uX u x,py d,aHd d]));have h:=A (aCD s[k]);have g:=A (aCD t[k]);have B:¬(k:Int)=(s.size:Int):=(by omega);have C:¬(k:Int)=(t.size:Int):=(by omega);have F:((k:Int)==(s.size:Int))=R:=(by simpa using B);have H:((k:Int)==(t.size:Int))=R:=(by simpa using C);obtain⟨a,n⟩:∃a,s[k].toNat=a:=⟨_,rfl⟩;obtain⟨b,o⟩:∃b,t[k].toNat=b:=⟨_,rfl⟩;have p:¬((s[k].toNat:Nat):Int)=((t[k].toNat:Nat):Int):=(by omega);have K:(((s[k].toNat:Nat):Int)==((t[k].toNat:Nat):Int))=R:=(by simpa using p);have L:((s[k].toNat:Nat):Int)=(a:Int):=(by rw[n]);have i:((t[k].toNat:Nat):Int)=(b:Int):=(by rw[o]);rw[n]at f h;rw[o]at f g;clear d n o j;by_cases o:240<=a
     .rw[decide_eq_true o]at h;by_cases n:240<=b
      .rw[decide_eq_true n]at g;go_wp2;go_region;(all_goals go_wp2_with fail);all_goals go_region
       (all_goals go_wp2_with (first|(go_at_call 263;(first|refine(h.o _).mono ?_|refine(g.o _).mono ?_);rintro e d ⟨rfl,rfl⟩)|(go_at_call 264;refine(iI _ _ _).mono ?_;rintro e d ⟨rfl,rfl⟩)));all_goals go_ret
       all_goals exact⟨by rw[f.o];rw[py,py];rfl,c.o.2.B0.B0⟩
      .rw[decide_eq_false n]at g;by_cases N:238<=b
       .have j:(238:Int)<=(b:Int):=(by omega);go_wp2;go_region;(all_goals go_wp2_with fail);all_goals go_region
        (all_goals go_wp2_with (first|(go_at_call 263;(first|refine(h.o _).mono ?_|refine(g.o _).mono ?_);rintro e d ⟨rfl,rfl⟩)|(go_at_call 264;refine(iI _ _ _).mono ?_;rintro e d ⟨rfl,rfl⟩)));all_goals go_ret
        all_goals exact⟨by rw[f.o];rw[pz];rfl,c.o.2.B0.B0⟩
       .have j:¬(238:Int)<=(b:Int):=(by omega);go_wp2;go_region;(all_goals go_wp2_with fail);all_goals go_region
        (all_goals go_wp2_with (first|(go_at_call 263;(first|refine(h.o _).mono ?_|refine(g.o _).mono ?_);rintro e d ⟨rfl,rfl⟩)|(go_at_call 264;refine(iI _ _ _).mono ?_;rintro e d ⟨rfl,rfl⟩)));all_goals go_ret
        all_goals exact⟨by rw[f.o];rw[py,py];rfl,c.o.2.B0.B0⟩
     .rw[decide_eq_false o]at h;by_cases n:240<=b
      .rw[decide_eq_true n]at g;by_cases N:238<=a
       .have j:(238:Int)<=(a:Int):=(by omega);go_wp2;go_region;(all_goals go_wp2_with fail);all_goals go_region
        (all_goals go_wp2_with (first|(go_at_call 263;(first|refine(h.o _).mono ?_|refine(g.o _).mono ?_);rintro e d ⟨rfl,rfl⟩)|(go_at_call 264;refine(iI _ _ _).mono ?_;rintro e d ⟨rfl,rfl⟩)));all_goals go_ret
        all_goals exact⟨by rw[f.o];rw[py,pz];rfl,c.o.2.B0.B0⟩
       .have j:¬(238:Int)<=(a:Int):=(by omega);go_wp2;go_region;(all_goals go_wp2_with fail);all_goals go_region
        (all_goals go_wp2_with (first|(go_at_call 263;(first|refine(h.o _).mono ?_|refine(g.o _).mono ?_);rintro e d ⟨rfl,rfl⟩)|(go_at_call 264;refine(iI _ _ _).mono ?_;rintro e d ⟨rfl,rfl⟩)));all_goals go_ret
        all_goals exact⟨by rw[f.o];rw[py,py];rfl,c.o.2.B0.B0⟩
      .rw[decide_eq_false n]at g;go_wp2;go_region;(all_goals go_wp2_with fail);all_goals go_region
       (all_goals go_wp2_with (first|(go_at_call 263;(first|refine(h.o _).mono ?_|refine(g.o _).mono ?_);rintro e d ⟨rfl,rfl⟩)|(go_at_call 264;refine(iI _ _ _).mono ?_;rintro e d ⟨rfl,rfl⟩)));all_goals go_ret
       all_goals exact⟨by rw[f.o];rw[py,py];rfl,c.o.2.B0.B0⟩
   .have g:k=t.size:=(by omega);have f:=A (c.o.1.trans (wY l m (ag g)));have h:¬(t.size:Int)=(s.size:Int):=(by omega);have j:((t.size:Int)==(s.size:Int))=R:=(by simpa using h);have n:(t.size:Int)<(s.size:Int):=(by omega);subst g;go_wp2;go_region;(all_goals go_wp2_with fail);all_goals refine(wT _ _ _).mono ?_
    (all_goals rintro e d ⟨rfl,rfl⟩);all_goals go_wp2_with fail
    (all_goals go_ret);all_goals exact⟨by rw[f.o];rfl,c.o.2.B0⟩
  .have g:k=s.size:=(by omega);have f:=A (c.o.1.trans (wY l m (af g)));go_wp2;go_region;(all_goals go_wp2_with fail);all_goals refine(wT _ _ _).mono ?_
   (all_goals rintro e d ⟨rfl,rfl⟩);all_goals go_wp2_with fail
   (all_goals go_ret);all_goals exact⟨by rw[f.o];rfl,c.o.2.B0⟩
section
open Go.Shelf Go.RowKit Go.Lib Go.Sort
def Tryz.O8:gp:=⟨λ| 6=>239|15=>260|14=>259|28=>288|29=>273|20=>280|21=>281|22=>282|23=>283|24=>284|25=>285|26=>286|27=>287|46=>297|47=>298|48=>299|49=>300|50=>301|57=>305|n=>n,λ| 22=>32|24=>9|25=>352|3=>3|39=>153|0=>0|53=>208|55=>30|4=>4|46=>429|45=>428|50=>204|5=>5|9=>9|66=>437|70=>441|76=>444|77=>65|n=>n,λ| n=>n⟩
def Tryz.T3:gq O Tryz.O8:={
 mixed:=by kernel_rfl
 f6:=⟨Tryz.f239.name,by decide,func239.trans (congrArg I (by kernel_rfl))⟩
 f14:=⟨Tryz.f259.name,by decide,func259.trans (congrArg I (by kernel_rfl))⟩
 f15:=func260.trans (congrArg I (by kernel_rfl))
 f20:=⟨Tryz.f280.name,by decide,func280.trans (congrArg I (by kernel_rfl))⟩
 f21:=⟨Tryz.f281.name,by decide,func281.trans (congrArg I (by kernel_rfl))⟩
 f22:=⟨Tryz.f282.name,by decide,func282.trans (congrArg I (by kernel_rfl))⟩
 f23:=⟨Tryz.f283.name,by decide,func283.trans (congrArg I (by kernel_rfl))⟩
 f24:=⟨Tryz.f284.name,by decide,func284.trans (congrArg I (by kernel_rfl))⟩
 f25:=⟨Tryz.f285.name,by decide,func285.trans (congrArg I (by kernel_rfl))⟩
 f26:=⟨Tryz.f286.name,by decide,func286.trans (congrArg I (by kernel_rfl))⟩
 f27:=⟨Tryz.f287.name,by decide,func287.trans (congrArg I (by kernel_rfl))⟩
 f28:=func288.trans (congrArg I (by kernel_rfl))
 f29:=func273.trans (congrArg I (by kernel_rfl))
 f46:=⟨Tryz.f297.name,by decide,func297.trans (congrArg I (by kernel_rfl))⟩
 f47:=func298.trans (congrArg I (by kernel_rfl))
 f48:=func299.trans (congrArg I (by kernel_rfl))
 f49:=⟨Tryz.f300.name,by decide,func300.trans (congrArg I (by kernel_rfl))⟩
 f50:=⟨Tryz.f301.name,by decide,func301.trans (congrArg I (by kernel_rfl))⟩
 f57:=⟨Tryz.f305.name,by decide,func305.trans (congrArg I (by kernel_rfl))⟩
 t0:=underlying0
 a0:=isAgg0
 z0:=sizeOf0
 v0:=zeroValue0
 t3:=nr
 a3:=isAgg3
 z3:=sizeOf3
 v3:=zeroValue3
 t4:=underlying4
 a4:=isAgg4
 z4:=sizeOf4
 v4:=zeroValue4
 t5:=underlying5
 a5:=isAgg5
 z5:=sizeOf5
 v5:=zeroValue5
 t9:=lc
 a9:=isAgg9
 z9:=sizeOf9
 v9:=zeroValue9
 t22:=underlying32
 a22:=isAgg32
 z22:=sizeOf32
 v22:=zeroValue32
 a24:=isAgg9
 z24:=sizeOf9
 t25:=underlying352
 a25:=isAgg352
 z25:=sizeOf352
 v25:=zeroValue352
 t39:=underlying153
 a39:=isAgg153
 z39:=sizeOf153
 v39:=zeroValue153
 t45:=underlying428
 a45:=isAgg428
 z45:=sizeOf428
 v45:=zeroValue428
 t46:=underlying429
 a46:=isAgg429
 z46:=sizeOf429
 v46:=zeroValue429
 t50:=underlying204
 a50:=isAgg204
 z50:=sizeOf204
 v50:=zeroValue204
 t53:=underlying208
 a53:=isAgg208
 z53:=sizeOf208
 v53:=zeroValue208
 t55:=underlying30
 a55:=isAgg30
 z55:=sizeOf30
 v55:=zeroValue30
 t66:=underlying437
 a66:=isAgg437
 z66:=sizeOf437
 v66:=zeroValue437
 t70:=underlying441
 a70:=isAgg441
 z70:=sizeOf441
 v70:=zeroValue441
 t76:=underlying444
 a76:=isAgg444
 z76:=sizeOf444
 v76:=zeroValue444
 t77:=underlying65
 a77:=isAgg65
 z77:=sizeOf65
 v77:=zeroValue65}
def vV(x y:zX):Int:=eE x.1 y.1
def rW:SWO (bk vV)where
 irrefl x:=by unfold bk vV;rw[aAF];rfl
 trans x y z b a:=by
  unfold bk vV at*;exact decide_eq_true (mQ (of_decide_eq_true b) (of_decide_eq_true a))
 ntrans x y z b a:=by
  unfold bk vV at*;have b:=of_decide_eq_false b;have a:=of_decide_eq_false a;refine decide_eq_false λh=>?_;by_cases c:eE y.1 x.1<0
  .exact a (mQ c h)
  .have:=aEw b c;rw[this]at h;exact a h
def encR(x:zX):Z:=.string ⟨x.1.toArray⟩
def aK4(b off a:Nat)(w:J):CmpLays1 O 240 #[] encR vV b off a w:=by
 intro m j k n x y;have g:(⟨x.1.toArray⟩:ByteArray).data.toList=x.1:=by simp
 have f:(⟨y.1.toArray⟩:ByteArray).data.toList=y.1:=by simp
 have c:(⟨x.1.toArray⟩:ByteArray).size=x.1.length:=by show x.1.toArray.size=_;simp
 have d:(⟨y.1.toArray⟩:ByteArray).size=y.1.length:=by show y.1.toArray.size=_;simp
 have h:=aCG ⟨x.1.toArray⟩ ⟨y.1.toArray⟩ (by rw[g];exact x.2.1) (by rw[f];exact y.2.1) (by rw[c];exact x.2.2) (by rw[d];exact y.2.2) (sortWorld encR w b off m k j);rw[g,f]at h;exact h.mono λe w' ⟨l,i⟩=>⟨l,i.X6⟩
def gM(d:Array zX):Array zX:=pdq (bk vV) d 0 d.size (Lib.bitLen d.size) aj aj
def aJc(a off cap:Nat)(d:Array zX)(w:J)(g:Holds encR w a off d)(b:a<w.heap.size)(c:d.size<4611686018427387904):
 Q O 239 #[Y (a,off) d.size cap,.func (.func 240) #[] #[]] w λe w'=>e=ak (co #[])/\∃n f,w'=sortWorld encR w a off n (gM d) f:=by
 have h:∀args w,(callFunc 240 args).run O w=ao (.enter 240 args) w:=enters_of func240 (by kernel_rfl) rfl;exact Any.slices_SortFunc_eq Tryz.T3 encR (λ_=>rfl) vV rW 240 #[] a off cap d w h (aK4 a off d.size w) g b c
end
def qP:Maps.Keyed O 9:=Maps.string_keyed lc
def aET(k:Oo)(h:k.length<=D):keyOf O 9 (encS k)=I (ar k):=by
 have a:(⟨k.toArray⟩:ByteArray).size<=D:=by show k.toArray.size<=_;simpa using h
 have e:=gr (P:=O) lc a;unfold encS;simpa using e
def aEU:List (List UInt8)->DataW Unit
 | []=>.map []
 | k::r=>(aEU r).put (ar k) (.lit (cr V r.length))
def aJp:List (List UInt8)->DataW Unit
 | []=>.map []
 | k::r=>(aJp r).put (ar k) (.agg [])
def xL:∀r,ek (aEU r)
 | []=>em
 | k::r=>(xL r).put _ _
def aCS:∀r,ek (aJp r)
 | []=>em
 | k::r=>(aCS r).put _ _
def aCT(k:Oo):∀r,eo (aEU r) (ar k)=decide (k∈r)
 | []=>rfl
 | x::r=>by
  unfold aEU;by_cases h:k=x
  .subst h;rw[ep (xL r) (show ct (ar _)from trivial)];simp
  .rw[et (by simpa using h),aCT k r];simp[h]
def aCU(k:Oo):∀r,eo (aJp r) (ar k)=decide (k∈r)
 | []=>rfl
 | x::r=>by
  unfold aJp;by_cases h:k=x
  .subst h;rw[ep (aCS r) (show ct (ar _)from trivial)];simp
  .rw[et (by simpa using h),aCU k r];simp[h]
def aGF{k:Oo}(z:DataW Unit):∀(r:List Oo),r.Nodup->∀i:Nat,r.reverse[i]?=I k->(aEU r).atKey (ar k) z=.lit (cr V i)
 | [],_,i,h=>by simp at h
 | x::r,b,i,h=>by
  have c:=List.nodup_cons.1 b;unfold aEU;rw[List.reverse_cons]at h;by_cases hi:i<r.reverse.length
  .rw[List.getElem?_append_left hi]at h
   have d:k∈r:=by
    have:=List.mem_of_getElem? h;simpa using this
   have a:k≠x:=λe=>c.1 (e▸d);rw[Maps.atKey_put_other (by simpa using a)];exact aGF z r c.2 i h
  .rw[List.getElem?_append_right (by omega)]at h;have f:=(List.getElem?_eq_some_iff.1 h).1;simp at f;have e:i=r.length:=(by simp at hi;omega);subst e;simp at h;subst h;rw[Maps.atKey_put_same (xL r) (show ct (ar _)from trivial)]
def iD(w:J)(b:Nat)(r:List (List UInt8)):Prop:=w.ownsMap O 9 (plainElem O 3) b r.length (aEU r)
def eY(w:J)(b:Nat)(r:List (List UInt8)):Prop:=w.ownsMap O 9 unitElem b r.length (aJp r)
def aJq(w:J):(zeroValue 3).run O w=ao (U V 0) w:=by kernel_rfl
def iD.S5(h:iD w b r){k:Oo}(d:k.length<=D):∃c:Int,(cu 263 (bm (I b)) (encS k) aj).run O w=ao (co #[c,.bool (decide (k∈r))]) w:=by
 obtain⟨v,f,a,e⟩:=eu h qP cw (aJq w) (ew nr (by decide)) (aET k d);obtain⟨c,rfl,_,_⟩:=plainElem_int_inv nr e;rw[aCT]at a;exact⟨c,a⟩
def iD.X0(h:iD w b r)(e:r.Nodup){k:Oo}(f:k.length<=D){i:Nat}(hi:r.reverse[i]?=I k):(cu 263 (bm (I b)) (encS k) R).run O w=ao (U V i) w:=by
 obtain⟨c,a,d,_⟩:=gu h qP cw nr (aJq w) (aET k f);rw[aGF _ r e i hi]at d;cases d;exact a
def aMh(n:Nat)(h:n<=4194304):(cr V n).wf=aj:=by simp[Lit.wf,gv,gw,gx,gy];omega
def iD.C5(h:iD w b r)(c:r.length<=4194304){k:Oo}(a:k.length<=D):∃w',(fa 263 (bm (I b)) (encS k) (U V r.length)).run O w=ao () w'/\iD w' b (k::r)/\w.mapTurned w' b:=
 fc h qP cw (by unfold D;omega) (aET k a) (ew nr (aMh _ (by omega)))
def aJr(w:J):(zeroValue 101).run O w=ao (ac #[]) w:=by kernel_rfl
def eY.S5(h:eY w b r){k:Oo}(c:k.length<=D):(cu 276 (bm (I b)) (encS k) aj).run O w=ao (co #[ac #[],.bool (decide (k∈r))]) w:=by
 obtain⟨v,e,a,d⟩:=eu h qP fd (aJr w) fe (aET k c);obtain⟨rfl,_⟩:=unitElem_inv d;rw[aCU]at a;exact a
def eY.C5(h:eY w b r)(c:r.length<=4194304){k:Oo}(a:k.length<=D):∃w',(fa 276 (bm (I b)) (encS k) (ac #[])).run O w=ao () w'/\eY w' b (k::r)/\w.mapTurned w' b:=
 fc h qP fd (by unfold D;omega) (aET k a) fe
def iD.R1(w:J):iD (w.alloc (.map #[] 0)) w.heap.size []:=fg w _ _ _
def eY.R1(w:J):eY (w.alloc (.map #[] 0)) w.heap.size []:=fg w _ _ _
def iD.A0{F:Nat->Prop}(h:iD w b r)(c:Keeps F w w')(g:¬F b):iD w' b r:=by
 obtain⟨f,a,e,d⟩:=h;exact⟨f,a,c.B4 e g,d⟩
def eY.A0{F:Nat->Prop}(h:eY w b r)(c:Keeps F w w')(g:¬F b):eY w' b r:=by
 obtain⟨f,a,e,d⟩:=h;exact⟨f,a,c.B4 e g,d⟩
def mW(h:w.mapTurned w' b):Keeps (λk=>k=b) w w':=by
 have g:=h.grown;exact⟨g.os,g.tape,g.output,g.size,λk a c=>g.block k a (λe=>c (by cases e;rfl))⟩
def aAy(w:J)(b f pl:Nat)(r g l t n s a i c m d q o:Z)(h:w.heap[b]?=I (W #[r,g,l,t,n,s,a,i,G f,c,m,d,q,o] 228 (0,0)))
 (j:Feeds w f pl []):
 Q O 138 #[G b,U .u8 92] w λe w'=>rZ w b 0 #[r,g,l,.func (.func 168) #[] #[],n,s,a,i,G f,c,m,d,q,o] e w':=by
 obtain⟨C,c1,c2,L,F,N,S,z,x,y,B,K,v,cd,P⟩:=aN h;have H:=A h;have u:=A (held_any w f pl [] j);clear h j;go_enter aw,az;go_wp2_with fail;refine(u.o).mono ?_;rintro e w1 ⟨rfl,rfl⟩;go_wp2;go_ret;exact⟨rfl,aB H.o _,(ah (λk=>k=b) w1).A3 (p:=⟨b,3,X⟩) (af rfl) _⟩
def zE(w:J)(b f pl:Nat)(i j k l m o p q r s t u v:Z)(a:UInt8)(z:w.heap[b]?=I (W #[i,j,k,l,m,o,p,q,G f,r,s,t,u,v] 228 (0,0)))
 (h:Feeds w f pl [])(g:a.toNat<32):
 Q O 138 #[G b,U .u8 a.toNat] w λe w'=>e=ak (U V 91)/\w'=w:=by
 obtain⟨B,c1,c2,C,F,H,K,L,N,P,S,T,cc,cd,cf⟩:=aN z;have x:=A (held_any w f pl [] h);obtain⟨n1,n2,n3⟩:=aD (c:=a) (d:=34) (n:=34) (by intro e;subst e;exact absurd g (by decide)) rfl;obtain⟨-,m2,-⟩:=aD (c:=a) (d:=92) (n:=92) (by intro e;subst e;exact absurd g (by decide)) rfl;have y:(a.toNat:Int)<32:=by omega
 clear z h g;go_enter aw,az;go_wp2_with fail;refine(x.o).mono ?_;rintro e w1 ⟨rfl,rfl⟩;go_wp2;go_ret;exact⟨rfl,rfl⟩
def aFF(w:J)(b f C pl h:Nat)(F K v3 v4 L N P S T a d:Z)(l:Oo)(toks:List Z)(o:w.heap[b]?=I (W #[pl,F,K,v3,v4,h,L,N,G f,a,P,S,T,d] 228 (0,0)))
 (y:Feeds w f C [])(n:Win 5 bZ w a l)(p:Win 232 id w d toks)(q:toks.length<=1000)(h1:h<=pl+1)(h2:pl<=1073741823):
 Q O 138 #[G b,U .u8 34] w λe w'=>jQ w b d toks (bU (.str h (pl+1-h) l)) (λv=> #[pl,F,K,.func (.func 104) #[] #[],.bool R,h,L,N,G f,a,P,S,T,v]) (U V 0) e w':=by
 obtain⟨c0,c1,c2,c3,c4,c5,c6,c7,c8,c9,ca,cb,cc,cd,cf⟩:=aN o;have HF:=A (held_any w f C [] y);have H:=A o;have HW:=A p;have HR:=A n;have c:∀w1,au w w w1->(convert 22 9 a).run O w1=ao (.string ⟨l.toArray⟩) w1:=λw1 i=>fK (n.A0 (cz (λ_=>False) i) (λ_ _=>id));have r:=c w.drew (dk _ _).drew;have HC:=A c;obtain⟨s,t⟩:∃s:ByteArray,(⟨l.toArray⟩:ByteArray)=s:=⟨_,rfl⟩;rw[t]at r HC;have u:=A (rX w.drew b _ h (pl+1) o rfl (by omega) (by omega));rw[show((pl+1:Nat):Int)=(pl:Int)+1 by omega]at u;obtain⟨j,k⟩:∃j,pl+1-h=j:=⟨_,rfl⟩;rw[k]at u⊢;have HT:=A (λw'(i:au w w w')=>rY w' b _ _ _ _ _ _ _ _ _ _ _ _ _ d 241 (ac #[h,U V (j:Int),s]) toks (keep o i) (p.A0 (cz (λ_=>False) i) (λ_ _=>id)) q);have h4:=bg o;have m:∀w1,au w w w1->w1.cell? ⟨b,9,X⟩=I a:=λw1 i=>aA (keep o i);have HD:=A m;have x:=A t;have h0:V.wrap ((pl:Int)+1)=(pl:Int)+1:=by rw[b9];omega
 clear o y n p c t k m;go_enter aw,az;go_wp2_with fail;refine(HF.o).mono ?_;rintro e w1 ⟨rfl,rfl⟩;go_wp2
 go_region_with (first|(go_at_call 136;refine(u.o).mono ?_;rintro e w2 ⟨rfl,i⟩;have c:=(dk w1.heap.size w1).drew.trans i;have p:=HD.o w2 c;have t:=HC.o w2 c)|(go_at_call 135;refine(HT.o _ c).mono ?_;rintro e w3 ⟨rfl,g,off,cap,h3,k,m,n⟩;have H3:=A h3;have y:=A k;have z:=A m;have B:=A n;clear h3 k m n))
 all_goals
  have k:=A c;clear i c p t;go_wp2;go_ret;have c:bU (.str h j l)=.iface 241 (ac #[h,U V (j:Int),s]):=by rw[<-x.o];rfl
  rw[c];exact⟨rfl,g,off,cap,H3.o,y.o,z.o.elim af (λo=>ag (bo k.o.size o)),(cz _ k.o).same B.o⟩
def aDK(w:J)(f b:Nat)(held:Oo)(a:UInt8)(g:Nat)(h:Feeds w f b held)(d:w.heap[g]?=I (W #[bZ a] 5 (0,0)))(j:b<=1073741824):
 Q O 169 #[G f,Y g 1 1] w λe w'=>feedRet w' f b 1 (aO held a) e/\Keeps (λk=>k=f) w w':=by
 have c:g≠f:=by
  obtain⟨_,m,a1,a2,a3,l,_⟩:=h;intro e;subst e;rw[d]at l;simp at l
 have:=feed_any w f b held [a] (I ⟨g,0,X⟩) 1 h (ag ⟨g,0,rfl,c,bg d,λi x hi=>by
  rw[aA d];cases i with
  | zero=>simp at hi;subst hi;rfl
  | succ i=>simp at hi⟩) (by simp) j
 rw[show aX held [a]=aO held a from rfl]at this;exact this
def pS(held:List UInt8)(a:UInt8):Prop:=held≠ []\/(a≠34/\a≠92/\32<=a.toNat)
def aFG(w:J)(b f l:Nat)(v x y z B C H K L N P S T:Z)(a:UInt8)(held:Oo)(o:w.heap[b]?=I (W #[v,x,y,z,B,C,H,K,G f,L,N,P,S,T] 228 (0,0)))
 (j:Feeds w f l held)(s:l<=1073741824)(r:pS held a)(g:aO held a=X):
 Q O 138 #[G b,U .u8 a.toNat] w λe w'=>e=ak (U V 90)/\Keeps (λk=>k=f) w w':=by
 obtain⟨c0,c1,c2,c3,c4,c5,c6,c7,c8,c9,ca,cb,cc,cd,cf⟩:=aN o;have m:=A (held_any w f l held j);have i:Feeds (w.alloc (W #[bZ a] 5)) f l held:=j.A0 (F:=λ_=>False) ((ah _ w).A5 _) id;have h:=A (aDK _ f l held a w.heap.size i (aL w _) s);rw[g]at h;clear o j i g;unfold pS at r;rcases r with r|⟨i,j,o⟩
 .have t:(((held.length:Nat):Int)==0)=R:=by cases held<;>simp_all;omega
  obtain⟨n,q⟩:∃n,held.length=n:=⟨_,rfl⟩;rw[q]at t m;clear r q;go_enter aw,az;go_wp2_with fail;refine(m.o).mono ?_;rintro e w1 ⟨rfl,rfl⟩;go_wp2_with fail;refine(h.o).mono ?_;rintro e w2 ⟨⟨p,rfl,-⟩,g⟩;have r:=A g;clear g;go_wp2;go_ret;exact⟨rfl,((ah (λk=>k=f) w1).A5 (W #[bZ a] 5)).same r.o⟩
 .by_cases u:held= []
  .subst u;obtain⟨-,n2,-⟩:=aD (c:=a) (d:=34) (n:=34) i rfl;obtain⟨-,m2,-⟩:=aD (c:=a) (d:=92) (n:=92) j rfl;have h0:¬(a.toNat:Int)<32:=(by omega);clear i j o;go_enter aw,az;go_wp2_with fail;refine(m.o).mono ?_;rintro e w1 ⟨rfl,rfl⟩;go_wp2_with fail;refine(h.o).mono ?_;rintro e w2 ⟨⟨p,rfl,-⟩,g⟩;have r:=A g;clear g;go_wp2;go_ret;exact⟨rfl,((ah (λk=>k=f) w1).A5 (W #[bZ a] 5)).same r.o⟩
  .have t:(((held.length:Nat):Int)==0)=R:=(by cases held<;>simp_all;omega);obtain⟨n,q⟩:∃n,held.length=n:=⟨_,rfl⟩;rw[q]at t m;clear i j o u q;go_enter aw,az;go_wp2_with fail;refine(m.o).mono ?_;rintro e w1 ⟨rfl,rfl⟩;go_wp2_with fail;refine(h.o).mono ?_;rintro e w2 ⟨⟨p,rfl,-⟩,g⟩;have r:=A g;clear g;go_wp2;go_ret;exact⟨rfl,((ah (λk=>k=f) w1).A5 (W #[bZ a] 5)).same r.o⟩
def aDL(w:J)(b f r:Nat)(K L N P S T v6 v7 va vb vc vd a:Z)(i:UInt8)(held h l:Oo)(H:w.heap[b]?=I (W #[K,L,N,P,S,T,v6,v7,G f,a,va,vb,vc,vd] 228 (0,0)))
 (y:Feeds w f r held)(z:Win 5 bZ w a l)(hl:l.length<=1073741824)(h7:r<=1073741824)(hc:pS held i)(j:aO held i=I h):
 Q O 138 #[G b,U .u8 i.toNat] w λe w'=>e=ak (U V 0)/\∃g off cap,w'.heap[b]?=I (W #[K,L,N,P,S,T,v6,v7,G f,Y (I ⟨g,off,X⟩) (l.length+1) cap,va,vb,vc,vd] 228 (0,0))/\
  Win 5 bZ w' (Y (I ⟨g,off,X⟩) (l.length+1) cap) (l++ [i])/\(a.ownBlock=I g\/w.heap.size<=g)/\Feeds w' f (r+1) h/\Keeps (λk=>k=b\/k=f\/a.ownBlock=I k) w w':=by
 obtain⟨c0,c1,c2,c3,c4,c5,c6,c7,c8,c9,ca,cb,cc,cd,cf⟩:=aN H;have HF:=A (held_any w f r held y);have B:Feeds (w.alloc (W #[bZ i] 5)) f r held:=y.A0 (F:=λ_=>False) ((ah _ w).A5 _) id;have u:=aDK _ f r held i w.heap.size B (aL w _) h7;rw[j]at u
 have v:b≠f:=by
  obtain⟨_,a0,a1,a2,a3,s,_⟩:=y;intro e;subst e;rw[H]at s;simp at s
 have x:∀k,a.ownBlock=I k->k≠f:=by
  obtain⟨_,a0,a1,a2,a3,s,_⟩:=y;intro k m e;subst e;exact z.ne s (by decide) m
 have h8:=A (z.ne H (by decide));have i0:=A x;have i1:=A v;have C:=bg H;have q:(w.alloc (W #[bZ i] 5)).heap[b]?=_:=(de w _ _ C).trans H;have t:Win 5 bZ (w.alloc (W #[bZ i] 5)) a l:=z.A0 (F:=λ_=>False) ((ah _ w).A5 _) (λ_ _=>id)
 have i2:=A (u.mono (R':=λe w2=>e=ak .nilIface/\Feeds w2 f (r+1) h/\w2.heap[b]?=I (W #[K,L,N,P,S,T,v6,v7,G f,a,va,vb,vc,vd] 228 (0,0))/\Win 5 bZ (w2.alloc (W #[bZ i] 5)) a l/\Keeps (λk=>k=f) w w2/\w.heap.size<w2.heap.size)
  λe w2 ⟨⟨he,o⟩,m⟩=>⟨he,o,m.B4 q v,(t.A0 m (λk e=>x k e)).A0 (F:=λ_=>False) ((ah _ w2).A5 _) (λ_ _=>id),((ah (λk=>k=f) w).A5 (W #[bZ i] 5)).same m,a7 (by simp) m.size⟩)
 obtain⟨ta,tc,i3⟩:=z.A8;clear H y B j u v x q t z;subst i3
 have u:(((held.length:Nat):Int)==0)=R\/(held= []/\i≠34/\i≠92/\32<=i.toNat):=by
  unfold pS at hc;by_cases j:held= []
  .exact ag ⟨j,(hc.resolve_left (λH=>H j))⟩
  .left;cases held<;>simp_all;omega
 clear hc;rcases u with E1|⟨rfl,v,x,i4⟩
 focus
  obtain⟨n,j⟩:∃n,held.length=n:=⟨_,rfl⟩;rw[j]at E1 HF;clear j
 rotate_left
 focus
  obtain⟨-,q,-⟩:=aD (c:=i) (d:=34) (n:=34) v rfl;obtain⟨-,t,-⟩:=aD (c:=i) (d:=92) (n:=92) x rfl;have j:¬(i.toNat:Int)<32:=by omega
  clear v x i4
 all_goals
  go_enter aw,az;go_wp2_with fail;refine(HF.o).mono ?_;rintro e w1 ⟨rfl,rfl⟩;go_wp2_with fail;refine(i2.o).mono ?_;rintro e w2 ⟨rfl,o,j,q,t,y⟩;obtain⟨-,-,-,-,-,-,-,-,-,d9,-,-,-,-,-⟩:=aN j;have i5:=A q;have i6:=A o;have i7:=A j;have i8:=A t;have i9:=A y;have z:=A (bg j);clear o j q t y c0 c1 c2 c3 c4 c5 c6 c7 c8 c9 ca cb cc cd cf C;go_wp2_with (at_builtin;refine dE nY rfl _ _ rfl rfl i5.o ⟨w2.heap.size,0,X⟩ 1 i rfl ?_ rfl ?_ ?_ ?_)
  .exact fQ rfl
  .omega
  .unfold D;omega
  intro g off cap w' j t o;have q:=(o.block b (by have:=z.o;simp;omega) (λe=>h8.o e.symm)).trans ((de w2 _ _ z.o).trans i7.o);have C:=A (j.ne q (by decide));have j0:=A (show(Y ta l.length tc).ownBlock=I g\/w1.heap.size<=g from t.elim af (λH=>ag (bo (iF i9.o) (bo (by simp) H.1))))
  have y:Feeds w' f (r+1) h:=by
   obtain⟨B,a0,a1,a2,a3,s,h9⟩:=i6.o;exact⟨B,a0,a1,a2,a3,(o.block f (by have:=bg s;simp;omega) (λe=>i0.o f e.symm rfl)).trans ((de w2 _ _ (bg s)).trans s),h9⟩
  have j1:=A y;have s:Keeps (λk=>k=b\/k=f\/(Y ta l.length tc).ownBlock=I k) w1 w':=((i8.o.mono (λk m=>ag (af m))).A5 (W #[bZ i] 5)).G0 o (λk e=>af (ag (ag e)));have j2:=A s;have B:=A j;obtain⟨-,-,-,-,-,-,-,-,-,e9,-,-,-,-,ef⟩:=aN q;have j3:=A q;clear q j t o y s d9;go_wp2;go_ret;have j:Keeps (λk=>k=b) w' (w'.setCell ⟨b,9,X⟩ (Y (g,off) (l.length+1) cap)):=(ah (λk=>k=b) w').A3 (p:=⟨b,9,X⟩) (af rfl) _;exact⟨rfl,g,off,cap,aB j3.o _,B.o.A0 j (λk e m=>C.o (e.trans (congrArg I m))),j0.o,j1.o.A0 j (λe=>i1.o e.symm),j2.o.A3 (p:=⟨b,9,X⟩) (af (af rfl)) _⟩
abbrev encI(x:Nat):Z:=U V x
def Fgs(w:J)(v:Z)(l:List Nat):Prop:=Row 0 3 encI w v l
def aCZ:Elem 50 3 8:=⟨fm,by
 have h:(O.info? 3).map (λi=>(i.zero,i.size,i.bytes))=I (I (U V 0),1,8):=by kernel_rfl
 obtain⟨i,c,a,d,b⟩:=dj h;exact⟨i,_,c,a,d,b,rfl⟩⟩
def aL4:aIS 50 3 8 (encI 0):=⟨fm,by
 have h:(O.info? 3).map (λi=>(i.zero,i.size,i.bytes))=I (I (U V 0),1,8):=by kernel_rfl
 obtain⟨i,c,a,d,b⟩:=dj h;exact⟨i,c,a,d,b,rfl⟩⟩
def Fgs.A7(h:Fgs w v l)(a:au w w w'):Fgs w' v l:=Row.A7 h a
def Fgs.A5(h:Fgs w v l)(o:Obj):Fgs (w.alloc o) v l:=Row.A5 h o
def Fgs.B0(h:Fgs w v l):Fgs w.drew v l:=h
def Fgs.E0(h:Fgs w v l){b:Nat}{c:Array Z}{T:TypeId}(d:w.heap[b]?=I (W c T (0,0)))(a:T≠3)(o:Nat)(u:Z):Fgs (w.setCell ⟨b,o,X⟩ u) v l:=Row.E0 h d a o u
def Fgs.E3(h:Fgs w v l):(v=Y X 0 0/\l= [])\/
 ∃g cap,v=Y (I ⟨g,0,X⟩) l.length cap/\g<w.heap.size/\l.length<=cap/\cap<=D/\∀i,i<l.length->w.cell? ⟨g,i,X⟩=I (U V (l.getD i 0:Nat)):=by
 rcases Row.E3 h with h|⟨g,cap,c,_,d,e,b,_,a⟩
 .exact af h
 .exact ag ⟨g,cap,c,d,e,b,λi hi=>a i _ (by rw[dl,List.getElem?_eq_getElem hi];rfl)⟩
def qR(w:J)(n:Nat)(e:Ending)(w':J):Prop:=∃a k c,e=ak (ac #[Y a k c])/\Fgs w' (Y a k c) (av n)/\au w w w'
def aHx(B:Nat)(v:Z)(l:List Nat)(w:J)(F:fq l)(h:Row B 3 encI w v l):Q O 199 #[v] w λe w'=>
 ∃a k c,e=ak (ac #[Y a k c])/\Row B 3 encI w' (Y a k c) (av (bw l))/\au w w w':=by
 rcases Fgs.E3 (h.I3 (dr _))with⟨rfl,rfl⟩|⟨g,cap,rfl,y,L,K,b⟩
 .go_enter func199,ntmps199;go_wp2;refine wp_loop_rounds 1 ?_;rw[rounds_succ];go_wp2;refine bb (v:=ac #[()]) (by simp[bz,dp,go_sem]) rfl ⟨_,_,_,rfl,?_,?_⟩
  .simp only[bw,ft];exact fu _ _ _ _
  .exact(dk _ _).alloc (hU _) _
 .have r:l.length<=9223372036854775807:=by unfold D at K;omega
  go_enter func199,ntmps199;go_wp2;go_loop [3] (λn=>∃k:Nat,k<=l.length/\n=U V k/\∀i,k<=i->l.getD i 0=0) (λn=>(cg n).toNat)
  case atStart=>exact⟨l.length,hU _,rfl,λi hi=>by simp[dl,nu hi]⟩
  case round=>
   obtain⟨k,o,rfl,s⟩:=hrel;have t:=A s;clear s
   have d:∀m,m<=l.length->m=k->(k=0\/l.getD (k-1) 0≠0)->Row B 3 encI w (Y g m cap) (av (bw l)):=by
    intro m z e C;subst e;rw[Fig.figs_take F o t.o C];exact h.B3 o
   have j:=A d;clear d;by_cases p:k=0
   .subst p;simp only[gL]at*;go_wp2;refine bb (v:=ac #[Y g 0 cap]) (by simp[bz,dp,go_sem]) rfl ⟨_,_,_,rfl,?_,?_⟩
    .exact(j.o 0 (by omega) rfl (by simp)).A7 ((dk _ _).alloc (hU _) _)
    .exact(dk _ _).alloc (hU _) _
   .have u:(w.alloc (W #[()] 324)).cell? ⟨g,k-1,X⟩=I (U V (l.getD (k-1) 0:Nat)):=by
     rw[pi _ _ ⟨g,k-1,X⟩ (by simpa using y)];exact b _ (by omega)
    generalize H:l.getD (k-1) 0=x at*;by_cases f:x=0
    .subst f;go_wp2
     refine ⟨⟨k - 1, by omega, by have : ((k - 1 : Nat) : Int) = (k : Int) - 1 := by omega
                                  rw[this],λi hi=>?_⟩,by simp[cg];omega⟩
     by_cases q:i=k-1
     .subst q;exact H
     .exact t.o i (by omega)
    .go_wp2;refine bb (v:=ac #[Y g k cap]) (by simp[bz,dp,go_sem]) rfl ⟨_,_,_,rfl,?_,?_⟩
     .exact(j.o k o rfl (ag f)).A7 ((dk _ _).alloc (hU _) _)
     .exact(dk _ _).alloc (hU _) _
def aC0(v:Z)(l:List Nat)(w:J)(a:fq l)(h:Fgs w v l):Q O 199 #[v] w λe w'=>qR w (bw l) e w':=aHx 0 v l w a h
def aHy(a:Option Addr)(k c:Nat)(l:List Nat)(i:Nat)(w:J)(h:Fgs w (Y a k c) l):Q O 201 #[ac #[Y a k c],i] w λe w'=>e=ak (U V (l.getD i 0:Nat))/\au w w w':=by
 rcases h.E3 with⟨n,rfl⟩|⟨g,cap,n,p,s,r,b⟩
 .injection n with j d m;subst j d m;have hi:¬(i:Int)<0:=by omega
  go_enter dq,dt;go_wp2;go_ret;exact⟨by simp,(dk _ _).alloc (hU _) _⟩
 .injection n with j d m;subst j d m;by_cases hi:i<l.length
  .have f:(i:Int)<(l.length:Int):=by omega
   have o:(w.alloc (W #[Y g l.length c] 324)).cell? ⟨g,i,X⟩=I (U V (l.getD i 0:Nat)):=by
    rw[pi _ _ ⟨g,i,X⟩ (by simpa using p)];exact b _ hi
   generalize l.getD i 0=x at*;clear b;go_enter dq,dt;go_wp2;go_ret;exact⟨rfl,(dk _ _).alloc (hU _) _⟩
  .have f:¬(i:Int)<(l.length:Int):=(by omega);have q:l.getD i 0=0:=(by simp[dl,nu (Nat.le_of_not_lt hi)]);rw[q];clear b;go_enter dq,dt;go_wp2;go_ret;exact⟨rfl,(dk _ _).alloc (hU _) _⟩
def sM(x:Nat)(w:J)(q:x<18446744073709551616):Q O 183 #[U .u64 x] w λe w'=>qR w x e w':=by
 have d:(av x).length<=5:=ga (a7 q (by decide));obtain⟨s,g⟩:∃s,av x=s:=⟨_,rfl⟩;rw[g]at d;have t:=A g;have l:=A d;clear g d;go_enter func183,ntmps183;go_wp2;go_loopw [0,3] (λn f wr=>∃(m:Nat)(r:List Nat),n=U .u64 m/\m<18446744073709551616/\M (r++av m=s)/\Row (w.heap.size+1) 3 encI wr f r/\au (w.heap.size+1) (w.alloc (W #[()] 324)) wr) (λn _ _=>(cg n).toNat)
 case atStart=>exact⟨x,[],rfl,q,A (by rw[t.o];rfl),fu _ _ _ _,dk _ _⟩
 case round=>
  obtain⟨m,r,rfl,B,i,d,g⟩:=hrel;have y:w.heap.size+1<=wr.heap.size:=by simpa using g.size
  rcases hG m with rfl|C
  .have p:r=s:=(by have:=i.o;rwa[ft,List.append_nil]at this);subst p;have h:wr.heap[w.heap.size]?=I (W #[()] 324 (0,0)):=(g.block _ (by omega)).trans (aL w _);have j:au w w wr:=((dk _ _).alloc (hU _) _).trans (g.mono (by omega));obtain⟨a,c,rfl⟩:=d.A8;have o:=cell_of_one h;have u:=free_of_one h;have z:=A d;clear d i;simp only[gL];go_wp2;refine bb (v:=ac #[Y a r.length c]) (by simp[bz,results183,go_sem,o]) rfl ⟨a,_,c,rfl,?_,j.setCell (hU _) _⟩;rw[t.o];exact(z.o.I3 (dr _)).E0 h (by decide) _ _
  .have h:=Fig.figs_pos (n:=m) (by omega);have j:=i.o;rw[h]at j;have u:r.length+1<=5:=(by have:=congrArg List.length j;simp at this;have:=l.o;omega);have o:=A (show(r++ [m%10000])++av (m/10000)=s by rw[<-j];simp);have F:V.wrap ((m:Int)%10000)=((m%10000:Nat):Int):=(by rw[b9];omega);have H:m/10000<m:=(by omega);clear j h i;go_wp2_with (at_builtin;refine cV aCZ rfl _ _ rfl rfl (d.A5 _) ⟨wr.heap.size,0,X⟩ 1 (m%10000) rfl ?_ rfl ?_ ?_ ?_ ?_)
   .simp
   .omega
   .unfold D;omega
   .simp;omega
   intro b cap K i h;have j:=(g.alloc (by omega) (W #[U V ((m%10000:Nat):Int)] 3)).grown h (by simp;omega) (λk z=>by have:=d.lt k z;omega);have p:=A i;clear i h d;go_wp2;go_roundw
   case rel=>exact⟨m/10000,r++ [m%10000],by go_num,by omega,o,p.o,j⟩
   case measure=>simp[cg];omega
def aJE{n m:Nat}(h:n/10000^(k+1)=m/10000^(k+1)):
 (n/10000^k%10000<m/10000^k%10000->n<m)/\(m/10000^k%10000<n/10000^k%10000->m<n)/\
 (n/10000^k%10000=m/10000^k%10000->n/10000^k=m/10000^k):=by
 rw[jx,<-nh,<-nh]at h;have a1:m<=n->m/10000^k<=n/10000^k:=λh=>nn h;have a2:n<=m->n/10000^k<=m/10000^k:=λh=>nn h;generalize n/10000^k=N at*;generalize m/10000^k=c at*;refine⟨λb=>?_,λb=>?_,λb=>by omega⟩
 .rcases mx n m with a|a
  .exact a
  .have:=a1 a;omega
 .rcases mx m n with a|a
  .exact a
  .have:=a2 a;omega
def sN{n m:Nat}(h:(av n).length<(av m).length):n<m:=by
 refine Nat.lt_of_not_le λa=>?_;have b:=ga (Nat.lt_of_le_of_lt a (Fig.lt_of_figs_length (hU _)));omega
def zJ:lB 22 5 1 1:=⟨underlying22,by decide,by
 have h:(O.info? 5).map (λi=>(i.zero,i.size,i.bytes))=I (I (U .u8 0),1,1):=by kernel_rfl
 obtain⟨i,c,a,d,b⟩:=dj h;exact⟨i,_,c,a,d,b,rfl⟩⟩
section
def aLt{c d:Nat}(m:0<c)(g:0<d):18014398509481984<=c*2^(nM c d).toNat/(d*2^(-nM c d).toNat):=by
 have l:0<ai c:=by
  rcases hG (ai c)with h|h
  .have:=gj.1 (Nat.le_of_eq h);simp at this;omega
  .exact h
 have j:2^(ai c-1)<=c:=Lim.bitlen_gt.1 (by omega);have i:d<2^ai d:=gj.1 (hU _);obtain⟨a,e⟩:∃a,(nM c d).toNat=a:=⟨_,rfl⟩;obtain⟨b,f⟩:∃b,(-nM c d).toNat=b:=⟨_,rfl⟩;have k:(a:Int)-b=66-((ai c:Int)-ai d):=by rw[<-e,<-f];unfold nM;omega
 rw[e,f,Nat.le_div_iff_mul_le (nc g (kF _))];show 2^54*(d*2^b)<=c*2^a
 calc 2^54*(d*2^b)<=2^54*(2^ai d*2^b):=Nat.mul_le_mul_left _ (ev _ (iF i))
  _=2^(54+(ai d+b)):=by rw[<-ld,<-ld]
  _<=2^(ai c-1+a):=ju (by decide) (by omega)
  _=2^(ai c-1)*2^a:=ld ..
  _<=c*2^a:=ev _ j
def aJ9(a b:Nat):bH a b=kD (a*2^(nM a b).toNat/(b*2^(-nM a b).toNat)) (a*2^(nM a b).toNat%(b*2^(-nM a b).toNat)) (nM a b):=rfl
def aGQ(a b:Nat)(c:Cut):Prop:=
 (c=⟨aM,1,R⟩/\(∃K d,aM<K*4503599627370496+d/\4503599627370496<=d/\d<9007199254740992/\d*2^K*b<=a*2^1074))\/
  (c.bits<=aM/\aLQ a b c.bits c.a/\(0<=c.a->c.exact=R))
def aFq{d c:Nat}{e:Int}(f:nM d c=e)(j:e.toNat=a)(l:(-e).toNat=b)(m:0<d)(h:0<c):aGQ d c (kD (d*2^a/(c*2^b)) (d*2^a%(c*2^b)) e):=by
 have i:=aLt m h;rw[f,j,l]at i;have k:0<c*2^b:=nc h (kF _);have g:(a:Int)-b=e:=by omega
 exact aLd g (Nat.div_add_mod' _ _).symm (Nat.mod_lt _ k) i
def aHZ(d:0<a)(c:0<b):aGQ a b (bH a b):=by
 rw[aJ9];exact aFq rfl rfl rfl d c
def numOf(d:Dml):Nat:=bO (bG d.c)*10^(eD d.c d.b).toNat
def fI(d:Dml):Nat:=10^(-eD d.c d.b).toNat
def fJ(d:Dml):Int:=d.c.length+d.b
def aW(d:Dml)(m:Nat)(k:Int):Int:=
 if d.c= []\/m=0 then(if d.c≠ []then 1 else if 0<m then -1 else 0)
 else if 320<fJ d then 1
 else if fJ d< -340 then -1
 else gG (numOf d*2^(-k).toNat) (m*fI d*2^k.toNat)
def fX(f:Nat):Int:=(nN f:Int)-1074
structure nC(d:Dml)(f:Nat):Prop where
 le:f<=aM
 low:0<=aW d (fN f) (fX f)
 g:f=aM\/aW d (fN (f+1)) (fX (f+1))<0
def lE(d:Dml)(f:Nat):Int:=aW d (2*fN f+1) (fX f-1)
def rC(d:Dml)(f:Nat):Nat:=if 0<lE d f\/(lE d f=0/\f%2=1)then f+1 else f
def gB(d:Dml)(f:Nat):Option Nat:=if aM<rC d f then X else I (if d.a=aj/\0<rC d f then rC d f+9223372036854775808 else rC d f)
structure gC(d:Dml):Prop where
 f:∀c∈d.c,isD c=aj
 first:∀c t,d.c=c::t->c≠48
def uL(e:b<=9218868437227405312)(h:fN b=0):b=0:=by
 unfold fN at h;split at h
 .rename_i a;have d:=Nat.div_add_mod b 4503599627370496;have c:b/4503599627370496<2048:=by rw[Nat.div_lt_iff_lt_mul (by decide)];omega
  rw[Nat.mod_eq_of_lt c]at a;rw[a,h]at d;omega
 .omega
def lF{d:Dml}(b:d.c≠ [])(e:fJ d<=320)(c: -340<=fJ d){m:Nat}(a:m≠0)(S:Nat)(k:Int){K:Nat}(f:(K:Int)=k+S):aW d m k=gG (numOf d*2^S) (m*2^K*fI d):=by
 unfold aW;rw[py (by simp[b,a]),py,py,nw m (2^K)];exact xT (p:=(-k).toNat) (q:=k.toNat) (p':=S) (q':=K) (by omega)
def aDv:0<=gG a b<->b<=a:=by unfold gG;split<;>(try split)<;>omega
def aKa:gG a b<0<->a<b:=by unfold gG;split<;>(try split)<;>omega
def aKb(h:b<a):gG a b=1:=by unfold gG;rw[py,py]
def aH0(h:a<b):gG a b= -1:=by unfold gG;rw[pz h]
section
variable {d:Dml} {f:Nat}
def nC.Q4(h:nC d f)(j:d.c≠ [])(i:fJ d<=320)(c: -340<=fJ d):iQ f*fI d<=numOf d*2^1074/\(f=aM\/numOf d*2^1074<iQ (f+1)*fI d):=by
 have b:=h.le;constructor
 .by_cases a:fN f=0
  .unfold iQ;rw[a,gm,gm];exact dr _
  .have:=h.low;rw[lF j i c a 1074 _ (K:=nN f) (by unfold fX;omega)]at this;exact aDv.1 this
 .refine h.g.imp id λg=>?_;have a:fN (f+1)≠0:=λe=>by have:=uL (by unfold aM at b;omega) e;omega
  rw[lF j i c a 1074 _ (K:=nN (f+1)) (by unfold fX;omega)]at g;exact aKa.1 g
def oU(c:d.c≠ [])(b:fJ d<=320)(a: -340<=fJ d):lE d f=gG (numOf d*2^1075) ((2*fN f+1)*2^nN f*fI d):=by
 unfold lE;exact lF c b a (by omega) 1075 _ (by unfold fX;omega)
def aGR(d:Dml):0<fI d:=Nat.pow_pos (by decide)
def aKc:iQ 9218868437227405312=4503599627370496*2^2046:=by
 have a:fN 9218868437227405312=4503599627370496/\nN 9218868437227405312=2046:=by
  unfold fN nN;constructor<;>decide
 unfold iQ;rw[a.1,a.2]
def aDw:fN aM=9007199254740991/\nN aM=2045:=by
 unfold fN nN aM;constructor<;>decide
def aMp{K e F f:Nat}(b:Nat)(c:b<=K)(d:4503599627370496<=e)(a:e*2^K*F<=f):4503599627370496*2^b*F<=f:=
 bo (ev _ (Nat.mul_le_mul d (ju (by decide) c))) a
def dbl{N:Nat}(a b:Nat)(h:b=a+1):N*2^b=2*(N*2^a):=by
 subst h;rw[jx,<-kh,ke]
def aLu{F N:Nat}(c:0<F):∀a a1 b b1:Nat,a1=a+1->b1=b+1->4503599627370496*2^a1*F<=N*2^b->(2*9007199254740991+1)*2^a*F<N*2^b1:=by
 rintro a _ b _ rfl rfl h;rw[jx]at h⊢;have d:0<2^a*F:=nc (kF _) c;generalize 2^a=x at*;generalize 2^b=y at*;rw[ke x 2,<-kh,kh]at h;rw[kh,<-kh N];generalize x*F=u at*;generalize N*y=v at*;omega
def aMq{F N B:Nat}(a b e:Nat)(c:52+b=a+e)(h:2^a<=B)(d:B*F<=N):4503599627370496*2^b*F<=N*2^e:=by
 rw[show 4503599627370496=2^52 from rfl,<-ld,c,ld,nw];exact ev _ (bo (ev _ h) d)
def nC.U1(h:nC d f)(g:d.c≠ [])(e:fJ d<=320)(c: -340<=fJ d)(n:4503599627370496*2^2046*fI d<=numOf d*2^1074):gB d f=X:=by
 obtain⟨_,b⟩:=h.Q4 g e c
 have i:f=aM:=by
  refine b.resolve_right λj=>?_;have a:=h.le;have m:iQ (f+1)*fI d<=iQ 9218868437227405312*fI d:=ev _ (aBF (by unfold aM at a;omega) (hU _));rw[aKc]at m;omega
 subst i
 have k:lE d aM=1:=by
  rw[oU g e c,aDw.1,aDw.2];exact aKb (aLu (aGR d) 2045 2046 1074 1075 rfl rfl n)
 have l:rC d aM=aM+1:=by unfold rC;rw[k,pz (af (by decide))]
 unfold gB;rw[l,pz]
def aDx(e:d.c≠ [])(c:fJ d<=310)(b: -330<=fJ d):bQ d=bH (numOf d) (fI d):=by
 unfold bQ;unfold fJ at c b;rw[py e,py,py];unfold numOf fI;by_cases a:0<=eD d.c d.b
 .rw[pz a,show(-eD d.c d.b).toNat=0 by omega,pk]
 .rw[py a,show(eD d.c d.b).toNat=0 by omega,pk,Nat.mul_one]
def aLv{c:Cut}(a:0<=c.a->c.exact=R)(b:c.a= -1\/c.a=0\/c.a=1):cC c=if 0<c.a\/(c.a=0/\c.bits%2=1)then c.bits+1 else c.bits:=by
 unfold cC;rcases b with h|h|h
 .rw[py,py,py]
 .rcases Nat.mod_two_eq_zero_or_one c.bits with e|e
  .rw[pz ⟨h,e⟩,py]
  .rw[py,pz ⟨by omega,a (by omega)⟩,pz]
 .rw[py,pz ⟨by omega,a (by omega)⟩,pz]
def aFr(a b:Nat):gG a b= -1\/gG a b=0\/gG a b=1:=by unfold gG;split<;>(try split)<;>omega
end
end
