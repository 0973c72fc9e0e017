/-
  The program, one part of its walk. Conditions: none.
-/
import Derived.Test.YtakkmiomhackiaaGreatDoorTd11
import Derived.Test.YtakkmiomhackiaaGreatDoorTd14
import Derived.Shelf.SlSortCmp.Whole1
import Derived.Ground.SlsfProg
import Derived.Maps.OwnSet
set_option linter.all false
set_option maxRecDepth 100000
set_option maxHeartbeats 16000000
open Go.Proofs.Tryz
open Array renaming length_toList->bw
open Bool renaming false->G,true->Z
open Go renaming Calls->ah,Value->X,World->J,bodyPost_ret->bm,lt_of_block->dm,maxLen->H,plainElem_int->cw,results->bp,unitElem_mk->dj
open Go.Ending renaming returned->ai
open Go.Instr renaming lookup->bh,mapUpdate->cz
open Go.IntKind renaming bits->eh,i64->U,max->ee,min->dy,signed->ei
open Go.Lit renaming int->bc,string->E
open Go.Maps renaming IsMap->ck,has->cr,has_put_other->cu,has_put_same->ct,isMap_empty->co
open Go.Obj renaming cells->ae
open Go.Proofs renaming ltOf->au
open Go.Proofs.SlLaysF renaming n6->dv
open Go.Proofs.Tryz renaming prog->O,results111->bs,underlying263->bj,underlying276->di,underlying3->ar,underlying9->ba
open Go.Proofs.YtakkmiomhackiaaGreatDoor.Dr renaming Below->bz,right_any->cg
open Go.Proofs.YtakkmiomhackiaaGreatDoor.Keeps renaming A3->aj
open Go.Result renaming ok->ag
open Go.RowKit renaming Below->Y
open Go.Shelf renaming Ren->du
open Go.Value renaming bool->ac,iface->ak,int->V,map->av,nilIface->bk,pointer->aw,slice->K,string->az,tuple->af
open Go.WideAt renaming IsKeyLit->bg
open Go.WideMaps renaming keyOf_string_mk->dw
open Go.World renaming ownsMap_made->dl
open Go.World.ownsMap renaming look_ok->cv,lookup_int->dx,store->dh
open List renaming drop_zero->cj,length_append->dq,length_drop->bu
open Nat renaming le_refl->dp
open Option renaming none->N,some->I
open Option.some renaming inj->dt
open Or renaming inl->W,inr->ao
open UInt8.toNat renaming inj->bx
namespace Go.Proofs.YtakkmiomhackiaaGreatDoor
open Go.RowKit
theorem bB{w w':J}{p:Addr}{v:X}(h:Y w.heap.size w w')(a:w.cell? p=I v):w'.cell? p=I v:=(h.cell (World.block_lt_of_cell? _ _ a)).trans a
theorem mG{n:Nat}{w w':J}(h:Y n w.drew w'):Y n w w':=⟨h.os,h.tape,h.output,h.size,h.block⟩
theorem dN{w w':J}(h:Y w.drew.heap.size w.drew w'):Y w.heap.size w w':=⟨h.os,h.tape,h.output,h.size,h.block⟩
theorem eR{n k:Nat}{w w1:J}(h:Y n w w1):Y n w (w1.drewN k):=⟨h.os,h.tape,h.output,h.size,h.block⟩
theorem mH{n:Nat}{w w1:J}(h:Y n w w1):Y n w w1.drew:=⟨h.os,h.tape,h.output,h.size,h.block⟩
theorem tC{s t:ByteArray}{k:Nat}(b:k<s.size)(a:k<t.size):eA (s.data.toList.drop k) (t.data.toList.drop k)=if s[k]=t[k]then eA (s.data.toList.drop (k+1)) (t.data.toList.drop (k+1))else if aW s[k]<aW t[k]then -1 else 1:=by
 rw[drop_at b,drop_at a];rfl
theorem vD{s t:ByteArray}{k:Nat}(f:k<=s.size)(e:k<=t.size)(h:k=s.size\/k=t.size):eA (s.data.toList.drop k) (t.data.toList.drop k)=aBA s.size t.size:=by
 have c:(s.data.toList.drop k).length=s.size-k:=by rw[bu,bw];rfl
 have a:(t.data.toList.drop k).length=t.size-k:=by rw[bu,bw];rfl
 unfold aBA;cases d:s.data.toList.drop k with
 | nil=>
  rw[d]at c;simp at c;cases b:t.data.toList.drop k with
  | nil=>
   rw[b]at a;simp at a;rw[if_neg (by omega),if_neg (by omega)];rfl
  | cons y g=>
   rw[b]at a;simp at a;rw[if_pos (by omega)];rfl
 | cons x i=>
  rw[d]at c;simp at c;cases b:t.data.toList.drop k with
  | nil=>
   rw[b]at a;simp at a;rw[if_neg (by omega),if_pos (by omega)];rfl
  | cons y g=>
   rw[b]at a;simp at a;omega
theorem aF6{x y:UInt8}(a:x≠y):(if aW x<aW y then(-1:Int)else 1)=if 240<=x.toNat/\¬240<=y.toNat/\238<=y.toNat then -1 else if 240<=y.toNat/\¬240<=x.toNat/\238<=x.toNat then 1 else aBA x.toNat y.toNat:=by
 have d:x.toNat≠y.toNat:=λh=>a (bx h)
 have c:=x.toNat_lt;have b:=y.toNat_lt;unfold aW aBA
 repeat' split
 all_goals(first|rfl|omega)
theorem aBB(s t:ByteArray)(c:aT s.data.toList=Z)(d:aT t.data.toList=Z)(y:s.size<=2097152)(z:t.size<=2097152)(w:J):
 ah O 240 #[az s,az t] w λe w'=>e=ai (V U (eA s.data.toList t.data.toList))/\bz w.heap.size w w':=by
 have q:=L (λw=>cg s w (by omega));have r:=L (λw=>cg t w (by omega));rw[c]at q;rw[d]at r;clear c d;obtain⟨S,c⟩:∃S,eA s.data.toList t.data.toList=S:=⟨_,rfl⟩;rw[c];have d:=L c;clear c;go_enter func240,ntmps240;go_wp2_with fail;refine(q.o _).mono ?_;rintro e w1 ⟨rfl,c⟩;have f:=L c;clear c;go_wp2_with fail;refine(r.o _).mono ?_;rintro e w2 ⟨rfl,i⟩;have g:=L (Dr.chain f.o i);clear i;go_wp2_with fail
 go_loopw [7] (λv wr=>∃k:Nat,k<=s.size/\k<=t.size/\v=V U k/\M (S=eA (s.data.toList.drop k) (t.data.toList.drop k)/\bz w.heap.size w wr)) (λv _=>s.size-(intOf v).toNat)
 case atStart=>exact⟨0,by omega,by omega,by go_num,L ⟨by rw[cj,cj];exact d.o.symm,g.o⟩⟩
 case round=>
  obtain⟨k,l,m,rfl,c⟩:=hrel;clear d g f
  by_cases u:k<s.size
  .by_cases x:k<t.size
   .by_cases d:s[k]=t[k]
    .have f:((s[k].toNat:Nat):Int)=((t[k].toNat:Nat):Int):=by rw[d]
     have g:=L d;clear d;go_wp2_with fail;go_region
     all_goals go_wp2_with fail
     all_goals refine⟨⟨k+1,by omega,by omega,by go_num,L ⟨c.o.1.trans (by rw[tC u x,if_pos g.o]),c.o.2.A9⟩⟩,by simp[intOf];omega⟩
    .have j:s[k].toNat≠t[k].toNat:=λR=>d (bx R)
     have f:=L (c.o.1.trans (by rw[tC u x,if_neg d,aF6 d]));have h:=L (aBz s[k]);have g:=L (aBz t[k]);have A:¬(k:Int)=(s.size:Int):=by omega
     have B:¬(k:Int)=(t.size:Int):=by omega
     have C:((k:Int)==(s.size:Int))=G:=by simpa using A
     have D:((k:Int)==(t.size:Int))=G:=by simpa using B
     obtain⟨a,n⟩:∃a,s[k].toNat=a:=⟨_,rfl⟩;obtain⟨b,o⟩:∃b,t[k].toNat=b:=⟨_,rfl⟩;have p:¬((s[k].toNat:Nat):Int)=((t[k].toNat:Nat):Int):=by omega
     have F:(((s[k].toNat:Nat):Int)==((t[k].toNat:Nat):Int))=G:=by simpa using p
     have P:((s[k].toNat:Nat):Int)=(a:Int):=by rw[n]
     have i:((t[k].toNat:Nat):Int)=(b:Int):=by rw[o]
     rw[n]at f h;rw[o]at f g;clear d n o j
     by_cases o:240<=a
     .rw[decide_eq_true o]at h
      by_cases n:240<=b
      .rw[decide_eq_true n]at g;go_wp2_with fail;go_region
       all_goals go_wp2_with fail
       all_goals go_region
       all_goals go_wp2_with (first|(go_at_call 263;(first|refine(h.o _).mono ?_|refine(g.o _).mono ?_);rintro e d ⟨rfl,rfl⟩)|(go_at_call 264;refine(iE _ _ _).mono ?_;rintro e d ⟨rfl,rfl⟩))
       all_goals go_ret
       all_goals exact⟨by rw[f.o];rw[if_neg (by omega),if_neg (by omega)];rfl,c.o.2.A9.A9⟩
      .rw[decide_eq_false n]at g
       by_cases Q:238<=b
       .have j:(238:Int)<=(b:Int):=by omega
        go_wp2_with fail;go_region
        all_goals go_wp2_with fail
        all_goals go_region
        all_goals go_wp2_with (first|(go_at_call 263;(first|refine(h.o _).mono ?_|refine(g.o _).mono ?_);rintro e d ⟨rfl,rfl⟩)|(go_at_call 264;refine(iE _ _ _).mono ?_;rintro e d ⟨rfl,rfl⟩))
        all_goals go_ret
        all_goals exact⟨by rw[f.o];rw[if_pos (by omega)];rfl,c.o.2.A9.A9⟩
       .have j:¬(238:Int)<=(b:Int):=by omega
        go_wp2_with fail;go_region
        all_goals go_wp2_with fail
        all_goals go_region
        all_goals go_wp2_with (first|(go_at_call 263;(first|refine(h.o _).mono ?_|refine(g.o _).mono ?_);rintro e d ⟨rfl,rfl⟩)|(go_at_call 264;refine(iE _ _ _).mono ?_;rintro e d ⟨rfl,rfl⟩))
        all_goals go_ret
        all_goals exact⟨by rw[f.o];rw[if_neg (by omega),if_neg (by omega)];rfl,c.o.2.A9.A9⟩
     .rw[decide_eq_false o]at h
      by_cases n:240<=b
      .rw[decide_eq_true n]at g
       by_cases Q:238<=a
       .have j:(238:Int)<=(a:Int):=by omega
        go_wp2_with fail;go_region
        all_goals go_wp2_with fail
        all_goals go_region
        all_goals go_wp2_with (first|(go_at_call 263;(first|refine(h.o _).mono ?_|refine(g.o _).mono ?_);rintro e d ⟨rfl,rfl⟩)|(go_at_call 264;refine(iE _ _ _).mono ?_;rintro e d ⟨rfl,rfl⟩))
        all_goals go_ret
        all_goals exact⟨by rw[f.o];rw[if_neg (by omega),if_pos (by omega)];rfl,c.o.2.A9.A9⟩
       .have j:¬(238:Int)<=(a:Int):=by omega
        go_wp2_with fail;go_region
        all_goals go_wp2_with fail
        all_goals go_region
        all_goals go_wp2_with (first|(go_at_call 263;(first|refine(h.o _).mono ?_|refine(g.o _).mono ?_);rintro e d ⟨rfl,rfl⟩)|(go_at_call 264;refine(iE _ _ _).mono ?_;rintro e d ⟨rfl,rfl⟩))
        all_goals go_ret
        all_goals exact⟨by rw[f.o];rw[if_neg (by omega),if_neg (by omega)];rfl,c.o.2.A9.A9⟩
      .rw[decide_eq_false n]at g;go_wp2_with fail;go_region
       all_goals go_wp2_with fail
       all_goals go_region
       all_goals go_wp2_with (first|(go_at_call 263;(first|refine(h.o _).mono ?_|refine(g.o _).mono ?_);rintro e d ⟨rfl,rfl⟩)|(go_at_call 264;refine(iE _ _ _).mono ?_;rintro e d ⟨rfl,rfl⟩))
       all_goals go_ret
       all_goals exact⟨by rw[f.o];rw[if_neg (by omega),if_neg (by omega)];rfl,c.o.2.A9.A9⟩
   .have g:k=t.size:=by omega
    have f:=L (c.o.1.trans (vD l m (ao g)))
    have h:¬(t.size:Int)=(s.size:Int):=by omega
    have j:((t.size:Int)==(s.size:Int))=G:=by simpa using h
    have n:(t.size:Int)<(s.size:Int):=by omega
    subst g;go_wp2_with fail;go_region
    all_goals go_wp2_with fail
    all_goals refine(vC _ _ _).mono ?_
    all_goals rintro e d ⟨rfl,rfl⟩
    all_goals go_wp2_with fail
    all_goals go_ret
    all_goals exact⟨by rw[f.o];rfl,c.o.2.A9⟩
  .have g:k=s.size:=by omega
   have f:=L (c.o.1.trans (vD l m (W g)))
   go_wp2_with fail;go_region
   all_goals go_wp2_with fail
   all_goals refine(vC _ _ _).mono ?_
   all_goals rintro e d ⟨rfl,rfl⟩
   all_goals go_wp2_with fail
   all_goals go_ret
   all_goals exact⟨by rw[f.o];rfl,c.o.2.A9⟩
section
open Go.Shelf Go.RowKit Go.Lib Go.Sort
def Tryz.N0:du:=⟨λ| 6=>239|15=>260|14=>259|28=>288|29=>273|20=>280|21=>281|22=>282|23=>283|24=>284|25=>285|26=>286|27=>287|46=>297|47=>298|48=>299|49=>300|50=>301|57=>305|n=>n,λ| 22=>32|24=>9|25=>352|3=>3|39=>153|0=>0|53=>208|55=>30|4=>4|46=>429|45=>428|50=>204|5=>5|9=>9|66=>437|70=>441|76=>444|77=>65|n=>n,λ| n=>n⟩
theorem Tryz.Q8:dv O Tryz.N0:={
 mixed:=by kernel_rfl
 f6:=⟨Tryz.f239.name,by decide,func239.trans (congrArg I (by kernel_rfl))⟩
 f14:=⟨Tryz.f259.name,by decide,func259.trans (congrArg I (by kernel_rfl))⟩
 f15:=func260.trans (congrArg I (by kernel_rfl))
 f20:=⟨Tryz.f280.name,by decide,func280.trans (congrArg I (by kernel_rfl))⟩
 f21:=⟨Tryz.f281.name,by decide,func281.trans (congrArg I (by kernel_rfl))⟩
 f22:=⟨Tryz.f282.name,by decide,func282.trans (congrArg I (by kernel_rfl))⟩
 f23:=⟨Tryz.f283.name,by decide,func283.trans (congrArg I (by kernel_rfl))⟩
 f24:=⟨Tryz.f284.name,by decide,func284.trans (congrArg I (by kernel_rfl))⟩
 f25:=⟨Tryz.f285.name,by decide,func285.trans (congrArg I (by kernel_rfl))⟩
 f26:=⟨Tryz.f286.name,by decide,func286.trans (congrArg I (by kernel_rfl))⟩
 f27:=⟨Tryz.f287.name,by decide,func287.trans (congrArg I (by kernel_rfl))⟩
 f28:=func288.trans (congrArg I (by kernel_rfl))
 f29:=func273.trans (congrArg I (by kernel_rfl))
 f46:=⟨Tryz.f297.name,by decide,func297.trans (congrArg I (by kernel_rfl))⟩
 f47:=func298.trans (congrArg I (by kernel_rfl))
 f48:=func299.trans (congrArg I (by kernel_rfl))
 f49:=⟨Tryz.f300.name,by decide,func300.trans (congrArg I (by kernel_rfl))⟩
 f50:=⟨Tryz.f301.name,by decide,func301.trans (congrArg I (by kernel_rfl))⟩
 f57:=⟨Tryz.f305.name,by decide,func305.trans (congrArg I (by kernel_rfl))⟩
 t0:=underlying0
 a0:=isAgg0
 z0:=sizeOf0
 v0:=zeroValue0
 t3:=ar
 a3:=isAgg3
 z3:=sizeOf3
 v3:=zeroValue3
 t4:=underlying4
 a4:=isAgg4
 z4:=sizeOf4
 v4:=zeroValue4
 t5:=underlying5
 a5:=isAgg5
 z5:=sizeOf5
 v5:=zeroValue5
 t9:=ba
 a9:=isAgg9
 z9:=sizeOf9
 v9:=zeroValue9
 t22:=underlying32
 a22:=isAgg32
 z22:=sizeOf32
 v22:=zeroValue32
 a24:=isAgg9
 z24:=sizeOf9
 t25:=underlying352
 a25:=isAgg352
 z25:=sizeOf352
 v25:=zeroValue352
 t39:=underlying153
 a39:=isAgg153
 z39:=sizeOf153
 v39:=zeroValue153
 t45:=underlying428
 a45:=isAgg428
 z45:=sizeOf428
 v45:=zeroValue428
 t46:=underlying429
 a46:=isAgg429
 z46:=sizeOf429
 v46:=zeroValue429
 t50:=underlying204
 a50:=isAgg204
 z50:=sizeOf204
 v50:=zeroValue204
 t53:=underlying208
 a53:=isAgg208
 z53:=sizeOf208
 v53:=zeroValue208
 t55:=underlying30
 a55:=isAgg30
 z55:=sizeOf30
 v55:=zeroValue30
 t66:=underlying437
 a66:=isAgg437
 z66:=sizeOf437
 v66:=zeroValue437
 t70:=underlying441
 a70:=isAgg441
 z70:=sizeOf441
 v70:=zeroValue441
 t76:=underlying444
 a76:=isAgg444
 z76:=sizeOf444
 v76:=zeroValue444
 t77:=underlying65
 a77:=isAgg65
 z77:=sizeOf65
 v77:=zeroValue65}
def tY(x y:xW):Int:=eA x.1 y.1
theorem qT:SWO (au tY)where
 irrefl x:=by unfold au tY;rw[zA];rfl
 trans x y z b a:=by
  unfold au tY at*;exact decide_eq_true (mK (of_decide_eq_true b) (of_decide_eq_true a))
 ntrans x y z b a:=by
  unfold au tY at*;have b:=of_decide_eq_false b;have a:=of_decide_eq_false a;refine decide_eq_false λh=>?_
  by_cases c:eA y.1 x.1<0
  .exact a (mK c h)
  .have:=aDr b c;rw[this]at h;exact a h
def encR(x:xW):X:=az ⟨x.1.toArray⟩
theorem aJN(b off a:Nat)(w:J):CmpLays1 O 240 #[] encR tY b off a w:=by
 intro m j k n x y;have g:(⟨x.1.toArray⟩:ByteArray).data.toList=x.1:=by simp
 have f:(⟨y.1.toArray⟩:ByteArray).data.toList=y.1:=by simp
 have c:(⟨x.1.toArray⟩:ByteArray).size=x.1.length:=by show x.1.toArray.size=_;simp
 have d:(⟨y.1.toArray⟩:ByteArray).size=y.1.length:=by show y.1.toArray.size=_;simp
 have h:=aBB ⟨x.1.toArray⟩ ⟨y.1.toArray⟩ (by rw[g];exact x.2.1) (by rw[f];exact y.2.1) (by rw[c];exact x.2.2) (by rw[d];exact y.2.2) (sortWorld encR w b off m k j);rw[g,f]at h;exact h.mono λe w' ⟨l,i⟩=>⟨l,i.T5⟩
def gJ(d:Array xW):Array xW:=pdq (au tY) d 0 d.size (Lib.bitLen d.size) Z Z
theorem aHX(a off cap:Nat)(d:Array xW)(w:J)(g:Holds encR w a off d)(b:a<w.heap.size)(c:d.size<4611686018427387904):
 ah O 239 #[K (I ⟨a,off,N⟩) d.size cap,.func (.func 240) #[] #[]] w λe w'=>e=ai (af #[])/\∃n f,w'=sortWorld encR w a off n (gJ d) f:=by
 have h:∀args w,(callFunc 240 args).run O w=ag (.enter 240 args) w:=enters_of func240 (by kernel_rfl) rfl;exact Any.slices_SortFunc_eq Tryz.Q8 encR (λ_=>rfl) tY qT 240 #[] a off cap d w h (aJN a off d.size w) g b c
end
theorem pH:Maps.Keyed O 9:=Maps.string_keyed ba
theorem aDB(k:List UInt8)(h:k.length<=H):keyOf O 9 (encS k)=I (E k):=by
 have a:(⟨k.toArray⟩:ByteArray).size<=H:=by show k.toArray.size<=_;simpa using h
 have e:=dw (P:=O) ba a;unfold encS
 simpa using e
def aDC:List (List UInt8)->DataW Unit
 | []=>.map []
 | k::r=>(aDC r).put (E k) (.lit (bc U r.length))
def aH3:List (List UInt8)->DataW Unit
 | []=>.map []
 | k::r=>(aH3 r).put (E k) (.agg [])
theorem vK:∀r,ck (aDC r)
 | []=>co
 | k::r=>(vK r).put _ _
theorem aBJ:∀r,ck (aH3 r)
 | []=>co
 | k::r=>(aBJ r).put _ _
theorem aBK(k:List UInt8):∀r,cr (aDC r) (E k)=decide (k∈r)
 | []=>rfl
 | x::r=>by
  unfold aDC
  by_cases h:k=x
  .subst h;rw[ct (vK r) (show bg (E _)from trivial)];simp
  .rw[cu (by simpa using h),aBK k r];simp[h]
theorem aBL(k:List UInt8):∀r,cr (aH3 r) (E k)=decide (k∈r)
 | []=>rfl
 | x::r=>by
  unfold aH3
  by_cases h:k=x
  .subst h;rw[ct (aBJ r) (show bg (E _)from trivial)];simp
  .rw[cu (by simpa using h),aBL k r];simp[h]
theorem aFn{k:List UInt8}(z:DataW Unit):∀(r:List (List UInt8)),r.Nodup->∀i:Nat,r.reverse[i]?=I k->(aDC r).atKey (E k) z=.lit (bc U i)
 | [],_,i,h=>by simp at h
 | x::r,b,i,h=>by
  have c:=List.nodup_cons.1 b;unfold aDC;rw[List.reverse_cons]at h
  by_cases hi:i<r.reverse.length
  .rw[List.getElem?_append_left hi]at h
   have d:k∈r:=by
    have:=List.mem_of_getElem? h
    simpa using this
   have a:k≠x:=λe=>c.1 (e▸d)
   rw[Maps.atKey_put_other (by simpa using a)];exact aFn z r c.2 i h
  .rw[List.getElem?_append_right (by omega)]at h;have f:=(List.getElem?_eq_some_iff.1 h).1;simp at f;have e:i=r.length:=by simp at hi;omega
   subst e;simp at h;subst h;rw[Maps.atKey_put_same (vK r) (show bg (E _)from trivial)]
def gZ(w:J)(b:Nat)(r:List (List UInt8)):Prop:=w.ownsMap O 9 (plainElem O 3) b r.length (aDC r)
def eU(w:J)(b:Nat)(r:List (List UInt8)):Prop:=w.ownsMap O 9 unitElem b r.length (aH3 r)
theorem aH4(w:J):(zeroValue 3).run O w=ag (V U 0) w:=by kernel_rfl
theorem gZ.P8{w:J}{b:Nat}{r:List (List UInt8)}(h:gZ w b r){k:List UInt8}(d:k.length<=H):∃c:Int,(bh 263 (av (I b)) (encS k) Z).run O w=ag (af #[V U c,ac (decide (k∈r))]) w:=by
 obtain⟨v,f,a,e⟩:=cv h pH bj (aH4 w) (cw ar (by decide)) (aDB k d);obtain⟨c,rfl,_,_⟩:=plainElem_int_inv ar e;rw[aBK]at a;exact⟨c,a⟩
theorem gZ.T6{w:J}{b:Nat}{r:List (List UInt8)}(h:gZ w b r)(e:r.Nodup){k:List UInt8}(f:k.length<=H){i:Nat}(hi:r.reverse[i]?=I k):(bh 263 (av (I b)) (encS k) G).run O w=ag (V U i) w:=by
 obtain⟨c,a,d,_⟩:=dx h pH bj ar (aH4 w) (aDB k f);rw[aFn _ r e i hi]at d;cases d;exact a
theorem aKM(n:Nat)(h:n<=4194304):(bc U n).wf=Z:=by simp[Lit.wf,dy,ee,eh,ei];omega
theorem gZ.C7{w:J}{b:Nat}{r:List (List UInt8)}(h:gZ w b r)(c:r.length<=4194304){k:List UInt8}(a:k.length<=H):∃w',(cz 263 (av (I b)) (encS k) (V U r.length)).run O w=ag () w'/\gZ w' b (k::r)/\w.mapTurned w' b:=
 dh h pH bj (by unfold H;omega) (aDB k a) (cw ar (aKM _ (by omega)))
theorem aH5(w:J):(zeroValue 101).run O w=ag (.agg #[]) w:=by kernel_rfl
theorem eU.P8{w:J}{b:Nat}{r:List (List UInt8)}(h:eU w b r){k:List UInt8}(c:k.length<=H):(bh 276 (av (I b)) (encS k) Z).run O w=ag (af #[.agg #[],ac (decide (k∈r))]) w:=by
 obtain⟨v,e,a,d⟩:=cv h pH di (aH5 w) dj (aDB k c);obtain⟨rfl,_⟩:=unitElem_inv d;rw[aBL]at a;exact a
theorem eU.C7{w:J}{b:Nat}{r:List (List UInt8)}(h:eU w b r)(c:r.length<=4194304){k:List UInt8}(a:k.length<=H):∃w',(cz 276 (av (I b)) (encS k) (.agg #[])).run O w=ag () w'/\eU w' b (k::r)/\w.mapTurned w' b:=
 dh h pH di (by unfold H;omega) (aDB k a) dj
theorem gZ.O7(w:J):gZ (w.alloc (.map #[] 0)) w.heap.size []:=dl w _ _ _
theorem eU.O7(w:J):eU (w.alloc (.map #[] 0)) w.heap.size []:=dl w _ _ _
theorem gZ.A0{F:Nat->Prop}{w w':J}{b:Nat}{r:List (List UInt8)}(h:gZ w b r)(c:Keeps F w w')(g:¬F b):gZ w' b r:=by
 obtain⟨f,a,e,d⟩:=h;exact⟨f,a,c.C4 e g,d⟩
theorem eU.A0{F:Nat->Prop}{w w':J}{b:Nat}{r:List (List UInt8)}(h:eU w b r)(c:Keeps F w w')(g:¬F b):eU w' b r:=by
 obtain⟨f,a,e,d⟩:=h;exact⟨f,a,c.C4 e g,d⟩
theorem mO{w w':J}{b:Nat}(h:w.mapTurned w' b):Keeps (λk=>k=b) w w':=by
 have g:=h.grown;exact⟨g.os,g.tape,g.output,g.size,λk a c=>g.block k a (λe=>c (by cases e;rfl))⟩
def n8(w:J)(b:Nat)(a:X)(l:List UInt8)(c:X->Array X)(e:Ending)(w':J):Prop:=e=ai (V U 0)/\∃g off cap,w'.heap[b]?=I (ae (c (K (I ⟨g,off,N⟩) l.length cap)) 228 (0,0))/\
 Win 5 cC w' (K (I ⟨g,off,N⟩) l.length cap) l/\(a.ownBlock=I g\/w.heap.size<=g)/\Keeps (λk=>k=b\/a.ownBlock=I k) w w'
theorem aCB(w:J)(b s:Nat)(v o q j r l k x m p n u t:X)(a:UInt8)(h:w.heap[b]?=I (ae #[v,o,q,j,r,l,k,V U s,x,m,p,n,u,t] 228 (0,0)))(c:s<=8)
 (f:aQ s a=N)(g:bI s=G):
 ah O 139 #[aw (I ⟨b,0,N⟩),V .u8 ((a.toNat:Nat):Int)] w λe w'=>e=ai (V U 94)/\w'=w:=by
 obtain⟨D,c1,c2,Q,F,R,T,B,z,A,C,P,y,cd,S⟩:=aM h;have d:=L (rT s c a);have i:=L (lE s c);rw[f]at d;rw[g]at i;clear h f g c;go_enter func139,ntmps139;go_wp2_with fail;refine(d.o _).mono ?_;rintro e w1 ⟨rfl,rfl⟩;go_wp2_with fail;refine(i.o _).mono ?_;rintro e w1 ⟨rfl,rfl⟩;go_wp2_with fail;go_ret;exact⟨rfl,rfl⟩
theorem pX(w:J)(b s j:Nat)(z A B C D P Q R S T vc vd a:X)(h:UInt8)(l:List UInt8)(r:w.heap[b]?=I (ae #[z,A,B,C,D,P,a,V U s,Q,R,S,T,vc,vd] 228 (0,0)))(i:s<=8)
 (n:aQ s h=I j)(d:Win 5 cC w a l)(hl:l.length<=1073741824):
 ah O 139 #[aw (I ⟨b,0,N⟩),V .u8 ((h.toNat:Nat):Int)] w λe w'=>n8 w b a (l++ [h]) (λv=> #[z,A,B,C,D,P,v,V U j,Q,R,S,T,vc,vd]) e w':=by
 obtain⟨c0,c1,c2,c3,c4,c5,c6,c7,c8,c9,ca,cb,cc,cd,cf⟩:=aM r;have HN:=L (rT s i h);rw[n]at HN;have m:=L (d.ne r (by decide));have f:=aB r (o:=7) (V U j);simp only[List.setIfInBounds_toArray,List.set_cons_zero,List.set_cons_succ]at f;have a0:=L f;have hlt:=dm r;obtain⟨ta,tc,t⟩:=d.A8;have c:Win 5 cC ((w.setCell ⟨b,7,N⟩ (V U j)).alloc (ae #[cC h] 5)) a l:=d.A0 (F:=λk=>k=b) (((aj (λk=>k=b) w).A2 (p:=⟨b,7,N⟩) (W rfl) _).A4 _) (λk e u=>m.o (e.trans (congrArg I u)));have HR:=L c;clear r f n i d c;subst t;go_enter func139,ntmps139;go_wp2_with fail;refine(HN.o _).mono ?_;rintro e w1 ⟨rfl,rfl⟩
 go_wp2_with (at_builtin;refine cW nF rfl _ _ rfl rfl HR.o ⟨w1.heap.size,0,N⟩ 1 h rfl ?_ rfl ?_ ?_ ?_)
 .exact fN (aHQ _ _ _).symm
 .omega
 .unfold H;omega
 intro g off cap w' c f i;have d:=(i.block b (by simp;omega) (λe=>m.o e.symm)).trans ((Below.heap_alloc _ _ _ (dm a0.o)).trans a0.o);have x:=L (c.ne d (by decide));have n:(K ta l.length tc).ownBlock=I g\/w1.heap.size<=g:=f.elim W (λr=>ao (Nat.le_trans (by first|exact dp _|simp[World.setCell]) r.1));have y:=L n;have HK:=L ((((aj (λk=>k=b\/(K ta l.length tc).ownBlock=I k) w1).A2 (p:=⟨b,7,N⟩) (W (W rfl)) (V U j)).A4 (ae #[cC h] 5)).F9 i (λk e=>W (ao e)));have q:=L c;obtain⟨-,-,-,-,-,-,d6,-,-,-,-,-,-,-,df⟩:=aM d;have HB:=L d;clear d c n f i c0 c1 c2 c3 c4 c5 c6 c7 c8 c9 ca cb cc cd cf;go_wp2_with fail;go_ret;refine⟨rfl,g,off,cap,?_,?_,y.o,HK.o.A2 (p:=⟨b,6,N⟩) (W (W rfl)) _⟩
 .rw[dq];exact aB HB.o _
 .rw[dq];exact q.o.A0 ((aj (λk=>k=b) w').A2 (p:=⟨b,6,N⟩) (W rfl) _) (λk e u=>x.o (e.trans (congrArg I u)))
theorem aAa(w:J)(b:Nat)(p j m c n f d k q g l i o:X)(a:Option Addr)(cap:Nat)(h:w.heap[b]?=I (ae #[p,j,m,c,n,f,d,k,q,g,l,i,o,K a 0 cap] 228 (0,0))):
 ah O 111 #[aw (I ⟨b,0,N⟩)] w λe w'=>e=ai (af #[bk,ac G])/\w'=w:=by
 obtain⟨-,-,-,-,-,-,-,-,-,-,-,-,-,cd,-⟩:=aM h;clear h;go_enter func111,ntmps111;go_wp2_with fail;exact bm (v:=af #[bk,ac G]) (by simp[bp,bs,go_sem]) rfl ⟨rfl,rfl⟩
theorem aAb(w:J)(b:Nat)(s t u y z A B C D F P Q R a:X)(m:TypeId)(d:X)(toks:List X)(c:w.heap[b]?=I (ae #[s,t,u,y,z,A,B,C,D,F,P,Q,R,a] 228 (0,0)))
 (S:Win 232 id w a (ak m d::toks))(hl:toks.length<=1000):
 ah O 111 #[aw (I ⟨b,0,N⟩)] w λe w'=>e=ai (af #[ak m d,ac Z])/\∃g off cap,w'.heap[b]?=I (ae #[s,t,u,y,z,A,B,C,D,F,P,Q,R,K (I ⟨g,off,N⟩) toks.length cap] 228 (0,0))/\
  Win 232 id w' (K (I ⟨g,off,N⟩) toks.length cap) toks/\a.ownBlock=I g/\Keeps (λk=>k=b) w w':=by
 obtain⟨-,-,-,-,-,-,-,-,-,-,-,-,-,cd,cf⟩:=aM c;have n:=L (S.ne c (by decide));have a0:=L c;clear c;rcases S with⟨_,hn⟩|⟨g,off,cap,f,rfl,l,o,T,hm,hi⟩
 .cases hn
 .have q:w.cell? ⟨g,off,N⟩=I (ak m d):=by
   have:=hi 0 (ak m d) rfl;rw[aA l];simpa using this
  have c:Win 232 id w (K (I ⟨g,off+1,N⟩) toks.length (cap-1)) toks:=
   Win.L6 (x:=ak m d) (ao ⟨g,off,cap,f,rfl,l,o,T,hm,hi⟩)
  have HW:=L c
  have j:cap=1->Win 232 id w (K (I ⟨g,off,N⟩) toks.length 0) toks:=λhc1=>by
   have h:toks= []:=List.eq_nil_of_length_eq_zero (by simp at o;omega);subst h;exact ao ⟨g,off,0,f,rfl,l,dp _,by omega,Nat.zero_le _,λi x r=>by cases r⟩
  have r:=L j;clear j;have h:g≠b:=λe=>n.o (by rw[e];rfl)
  have j:=L h;simp only[List.length_cons]at*;
  clear l o T hm hi c h;go_enter func111,ntmps111;go_wp2_with fail
  .exact bm (v:=af #[ak m d,ac Z]) (by simp[bp,bs,go_sem]) rfl ⟨rfl,g,off,0,aB a0.o _,(r.o (by first|rfl|omega)).A0 ((aj (λk=>k=b) w).A2 (p:=⟨b,13,N⟩) (W rfl) _) (λk e c=>j.o ((dt e).trans c)),rfl,(aj (λk=>k=b) w).A2 (p:=⟨b,13,N⟩) (W rfl) _⟩
  .exact bm (v:=af #[ak m d,ac Z]) (by simp[bp,bs,go_sem]) rfl ⟨rfl,g,off+1,cap-1,aB a0.o _,HW.o.A0 ((aj (λk=>k=b) w).A2 (p:=⟨b,13,N⟩) (W rfl) _) (λk e c=>j.o ((dt e).trans c)),rfl,(aj (λk=>k=b) w).A2 (p:=⟨b,13,N⟩) (W rfl) _⟩
theorem aCF(w:J)(b pl st:Nat)(isIn:Bool)(g i m r j o l q p:X)(h:w.heap[b]?=I (ae #[V U pl,bk,ac G,g,ac isIn,V U st,i,m,r,j,o,l,q,p] 228 (0,0)))(c:st<=pl)(a:pl<=1073741824):
 ah O 83 #[aw (I ⟨b,0,N⟩)] w λe w'=>e=ai (V U ((if isIn then pl-st else 0:Nat):Int))/\Y w.heap.size w w':=by
 have f:=L (aFV w b pl st isIn _ h rfl rfl rfl c a);obtain⟨n,d⟩:∃n,(if isIn then pl-st else 0:Nat)=n:=⟨_,rfl⟩;rw[d]at f⊢;obtain⟨-,c1,c2,-,-,-,-,-,-,-,-,-,-,-,-⟩:=aM h;clear h d;go_enter func83,ntmps83;go_wp2_with fail;refine(f.o).mono ?_;rintro e w1 ⟨rfl,k⟩;go_wp2_with fail;go_ret;exact⟨rfl,k⟩
end Go.Proofs.YtakkmiomhackiaaGreatDoor
