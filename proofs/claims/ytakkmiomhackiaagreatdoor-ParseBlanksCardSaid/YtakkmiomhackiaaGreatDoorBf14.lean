/-
  The program, one part of its walk. Conditions: none.
-/
import Derived.Test.YtakkmiomhackiaaGreatDoorBf12
import Derived.Test.YtakkmiomhackiaaGreatDoorBf13
set_option linter.all false
set_option maxRecDepth 100000
set_option maxHeartbeats 16000000
open Go.Proofs.Tryz
open Array renaming getElem_mem_toList->iv,length_toList->dt
open Bool renaming and_eq_true->ga,false->H,true->Q
open Go renaming Addr->cr,Calls->ac,Ending->cw,Value->Z,World->V,bodyPost_ret->go,cell_of_one->ii,free_of_one->ij,heap_alloc_new->gm,leaves_cons->ig,lt_of_block->cz,maxLen->dy,results->ep
open Go.Ending renaming returned->af
open Go.Fn renaming func->bj
open Go.IntKind renaming i32->bc,i64->U,u16->co,u64->ah,u8->au,wrap_i64->cv,wrap_u16->gh
open Go.Lib renaming toList_data->io,trimLeftB->dq
open Go.Obj renaming cells->ae
open Go.Proofs renaming intOf->bu
open Go.Proofs.Tryz renaming func104->di,ntmps104->dj,prog->T,results145->je,results196->ik
open Go.Proofs.YtakkmiomhackiaaGreatDoor.Fr renaming list->cg,object->bp
open Go.Proofs.YtakkmiomhackiaaGreatDoor.Keeps renaming A0->ba,A8->av
open Go.Proofs.YtakkmiomhackiaaGreatDoor.Lim renaming bitlen->gn,val->iw
open Go.Proofs.YtakkmiomhackiaaGreatDoor.Ps renaming C4->fa,C9->ez,J5->ge
open Go.Proofs.YtakkmiomhackiaaGreatDoor.Sz renaming A9->ew
open Go.Proofs.YtakkmiomhackiaaGreatDoor.Tr renaming A5->bz,object->dx
open Go.Proofs.YtakkmiomhackiaaGreatDoor.aQ renaming A2->eu,A7->fm
open Go.RowKit renaming Below->ag,Hid->ck
open Go.RowKit.Below renaming heap_alloc->ie,refl->bw
open Go.Value renaming agg->bm,bool->E,func->bh,iface->ee,int->I,nilIface->ar,pointer->aj,slice->O,string->ak
open Go.World renaming drewN->iz,drewN_drewN->fe,setCell->bx
open Int renaming natCast_zero->iq
open List renaming append_assoc->fz,append_nil->dp,concat_eq_append->em,cons_append->ft,cons_merge_cons->jc,dropWhile_sublist->it,drop_eq_getElem_cons->fc,drop_eq_nil_of_le->gj,drop_left->gw,drop_succ_cons->du,drop_zero->ev,eq_nil_of_length_eq_zero->eh,eq_nil_or_concat->gc,flatten_cons->fk,foldl_cons->fv,foldr_cons->dv,getD_eq_getElem?_getD->im,getElem?_eq_getElem->gl,getElem?_of_mem->jd,getElem?_zip_eq_some->ei,length_append->bk,length_cons->ek,length_drop->eo,length_nil->gu,length_take->ct,map_append->ir,map_cons->fu,map_drop->gz,map_take->gy,mem_append->cj,mem_append_left->gd,mem_append_right->gp,mem_cons->fw,mem_cons_of_mem->dl,mem_cons_self->dw,mem_of_getElem?->il,mem_of_mem_take->gq,merge->dm,merge_right->jb,nil_append->ip,nil_merge->ja,setIfInBounds_toArray->fg,set_cons_succ->fi,set_cons_zero->fh,take_append_drop->ib,take_left->gx,take_of_length_le->ix
open Nat renaming add_sub_cancel->gv,eq_zero_or_pos->gr,le_refl->aw,le_succ->gk,le_trans->ao,lt_of_lt_of_le->dh,min_eq_left->et,pow_le_pow_right->fj,pow_mul->iu,succ_mul->iy,zero_add->fq,zero_le->ej
open Option renaming none->S,some->J
open Option.some renaming injEq->jf
open Or renaming inl->K,inr->ai
open Prod.mk renaming injEq->cu
namespace Go.Proofs.YtakkmiomhackiaaGreatDoor
open Go.RowKit
variable {D cap f g n off pl s want:Nat}{c:UInt8}{t:Tr}{a:List Tr}{l:Oo}{e:cw}{keys:List Oo}{i v:Z}
def bV(s:Nat):List UInt8->Nat×Nat
 | []=>(0,s)
 | c::t=>match aR s c with
  | none=>(0,s)
  | some a=>((bV a t).1+1,(bV a t).2)
def m7(s:Nat):bV s []=(0,s):=rfl
def eS{t:Oo}(h:aR s c=S):bV s (c::t)=(0,s):=by unfold bV;rw[h]
def cQ{a:Nat}{t:Oo}(h:aR s c=J a):bV s (c::t)=((bV a t).1+1,(bV a t).2):=by
 rw[bV];rw[h]
def lC(c:UInt8)(t:Oo):bR (c::t)=isD c:=rfl
def jI(c:UInt8)(t:Oo):over (c::t)=if isD c then over t+1 else 0:=by
 unfold over;rw[List.takeWhile_cons];split<;>rfl
def fR:∀l:Oo,bR (l.drop (over l))=H
 | []=>rfl
 | c::t=>by
  rw[jI]
  by_cases h:isD c
  .rw[if_pos h,du];exact fR t
  .rw[if_neg h,ev];unfold bR;simpa using h
def aC6(h:bR l=H):over l=0:=by
 cases l with
 | nil=>rfl
 | cons c t=>rw[jI,if_neg (by rw[lC]at h;rw[h];simp)]
def lP(a:∀c,isD c=Q->aR s c=J s):∀l:Oo,bV s l=(over l+(bV s (l.drop (over l))).1,(bV s (l.drop (over l))).2)
 | []=>rfl
 | c::t=>by
  rw[jI]
  by_cases h:isD c
  .rw[if_pos h,du,cQ (a c h),lP a t];simp only[cu,and_true];omega
  .rw[if_neg h,ev,fq]
def aLR(c:UInt8):aR 8 c=if isD c then J 8 else S:=by unfold aR;simp
def aMk(c:UInt8):aR 7 c=if isD c then J 8 else S:=by unfold aR;simp
def aJP(c:UInt8):aR 6 c=if c=43\/c=45 then J 7 else if isD c then J 8 else S:=by unfold aR;simp
def aLS(c:UInt8):aR 5 c=if isD c then J 5 else if c=101\/c=69 then J 6 else S:=by unfold aR;simp
def aLT(c:UInt8):aR 4 c=if isD c then J 5 else S:=by unfold aR;simp
def aLU(c:UInt8):aR 3 c=if isD c then J 3 else if c=46 then J 4 else if c=101\/c=69 then J 6 else S:=by unfold aR;simp
def aMl(c:UInt8):aR 2 c=if c=46 then J 4 else if c=101\/c=69 then J 6 else S:=by unfold aR;simp
def aMm(c:UInt8):aR 1 c=if c=48 then J 2 else if isD c then J 3 else S:=by unfold aR;simp
def aJQ(c:UInt8):aR 0 c=if c=45 then J 1 else if c=48 then J 2 else if isD c then J 3 else S:=by unfold aR;simp
def aMn(l:Oo):bV 8 l=(over l,8):=by
 rw[lP (λc h=>by rw[aLR,if_pos h])];have h:=fR l;cases a:l.drop (over l)with
 | nil=>rfl
 | cons c t=>
  rw[a]at h;rw[eS (by rw[aLR,if_neg (by rw[lC]at h;rw[h];simp)])];rfl
def aE2(a:∀c,aR s c=if isD c then J 8 else S)(l:Oo):bV s l=if bR l then(over l,8)else(0,s):=by
 cases l with
 | nil=>rfl
 | cons c t=>
  show _=if isD c then _ else _
  by_cases h:isD c
  .rw[if_pos h,cQ (by rw[a,if_pos h]),aMn,jI,if_pos h]
  .rw[if_neg h,eS (by rw[a,if_neg h])]
def aMw(l:Oo):bV 6 l=if bR (l.drop (iC l))then(iC l+over (l.drop (iC l)),8)else(iC l,if iC l=0 then 6 else 7):=by
 cases l with
 | nil=>rfl
 | cons c t=>
  show bV 6 (c::t)=if bR ((c::t).drop (if c=43\/c=45 then 1 else 0))then((if c=43\/c=45 then 1 else 0)+over ((c::t).drop (if c=43\/c=45 then 1 else 0)),8)else((if c=43\/c=45 then 1 else 0),if(if c=43\/c=45 then 1 else 0)=0 then 6 else 7)
  by_cases h:c=43\/c=45
  .simp only[if_pos h,du,ev];rw[cQ (by rw[aJP,if_pos h]),aE2 aMk];split<;>simp[Nat.add_comm]
  .simp only[if_neg h,ev]
   show _=if isD c then _ else _
   by_cases a:isD c
   .rw[if_pos a,cQ (by rw[aJP,if_neg h,if_pos a]),aMn,jI,if_pos a];simp
   .rw[if_neg a,eS (by rw[aJP,if_neg h,if_neg a])];rfl
def aGM(b:bL s=Q)(n:Nat)(l:Oo)(d:∀c t,l=c::t->aR s c=if c=101\/c=69 then J 6 else S):jA n l=(n+(bV s l).1,bL (bV s l).2):=by
 cases l with
 | nil=>unfold jA;rw[m7,b];rfl
 | cons c t=>
  unfold jA;simp only
  by_cases h:c=101\/c=69
  .rw[if_pos h,cQ (by rw[d c t rfl,if_pos h]),aMw]
   by_cases a:bR (t.drop (iC t))=Q
   .rw[if_pos a,if_pos a];simp only[cu];exact⟨by omega,rfl⟩
   .rw[if_neg a,if_neg a];simp only[cu];refine⟨by omega,?_⟩;split<;>rfl
  .rw[if_neg h,eS (by rw[d c t rfl,if_neg h]),b];rfl
def aMx(n:Nat)(l:Oo)(h:bR l=Q):jA (n+over l) (l.drop (over l))=(n+(bV 4 l).1,bL (bV 4 l).2):=by
 cases l with
 | nil=>cases h
 | cons c t=>
  have a:isD c=Q:=h;rw[cQ (by rw[aLT,if_pos a]),lP (s:=5) (λc h=>by rw[aLS,if_pos h]),jI,if_pos a,du]
  rw[aGM (s:=5) rfl _ _ (λd u e=>by
   rw[aLS];have h:=fR t;rw[e]at h;rw[if_neg (by rw[lC]at h;rw[h];simp)])]
  simp only[cu,and_true];omega
def aAS(b:bL s=Q)(n:Nat)(l:Oo)(f:∀c t,l=c::t->aR s c=if c=46 then J 4 else if c=101\/c=69 then J 6 else S):dP n l=(n+(bV s l).1,bL (bV s l).2):=by
 cases l with
 | nil=>unfold dP;rw[m7,b];rfl
 | cons c t=>
  unfold dP;simp only
  by_cases h:c=46
  .rw[if_pos h,cQ (by rw[f c t rfl,if_pos h])]
   by_cases a:bR t=Q
   .rw[if_pos a,aMx (n+1) t a];simp only[cu,and_true];omega
   .rw[if_neg a]
    have:bV 4 t=(0,4):=by
     cases t with
     | nil=>rfl
     | cons d u=>exact eS (by rw[aLT,if_neg (by rw[lC]at a;exact a)])
    rw[this];rfl
  .rw[if_neg h];exact aGM b n (c::t) (λd u e=>by injection e with g e2;subst g;rw[f c t rfl,if_neg h])
def aAT(f:bL s=H)(n:Nat)(l:Oo)(b:∀c t,l=c::t->aR s c=if c=48 then J 2 else if isD c then J 3 else S):dQ n l=(n+(bV s l).1,bL (bV s l).2):=by
 cases l with
 | nil=>unfold dQ;rw[m7,f];rfl
 | cons c t=>
  unfold dQ;simp only
  by_cases a:isD c=Q
  .rw[if_pos a]
   by_cases h:c=48
   .rw[if_pos h,cQ (by rw[b c t rfl,if_pos h]),aAS (s:=2) rfl _ _ (λd u _=>aMl d)];simp only[cu,and_true];omega
   .rw[if_neg h,cQ (by rw[b c t rfl,if_neg h,if_pos a]),lP (s:=3) (λc h=>by rw[aLU,if_pos h]),jI,if_pos a,du]
    rw[aAS (s:=3) rfl _ _ (λd u e=>by
     rw[aLU];have h:=fR t;rw[e]at h;rw[if_neg (by rw[lC]at h;rw[h];simp)])]
    simp only[cu,and_true];omega
  .rw[if_neg a,eS (by rw[b c t rfl,if_neg (by rintro rfl;exact a rfl),if_neg a]),f];rfl
def xX(l:Oo):dB l=((bV 0 l).1,bL (bV 0 l).2):=by
 cases l with
 | nil=>rfl
 | cons c t=>
  unfold dB;simp only
  by_cases h:c=45
  .rw[if_pos h,cQ (by rw[aJQ,if_pos h]),aAT (s:=1) rfl _ _ (λd u _=>aMm d)];simp only[cu,and_true];omega
  .rw[if_neg h,aAT (s:=0) rfl 0 (c::t) (λd u e=>by injection e with a e2;subst a;rw[aJQ,if_neg h]),fq]
section
def jJ(l:List Tr):Nat:=l.foldr (λt a=>t.A5.g+a) 0
def jK(l:List Tr):Nat:=l.foldr (λt a=>t.A5.bytes+a) 0
def frB:Fr->Nat
 | .list _=>0
 | .object k=>bD k
def fW(l:List Fr):Nat:=l.foldr (λf a=>frB f+a) 0
def j6(l m:List Tr):jJ (l++m)=jJ l+jJ m:=by
 induction l with
 | nil=>simp[jJ]
 | cons t l a=>unfold jJ at a⊢;rw[ft,dv,dv,a];omega
def j8(l m:List Tr):jK (l++m)=jK l+jK m:=by
 induction l with
 | nil=>simp[jK]
 | cons t l a=>unfold jK at a⊢;rw[ft,dv,dv,a];omega
def dZ(l m:List Fr):fW (l++m)=fW l+fW m:=by
 induction l with
 | nil=>simp[fW]
 | cons t l a=>unfold fW at a⊢;rw[ft,dv,dv,a];omega
def aJT(t:Tr):jJ [t]=t.A5.g:=rfl
def aJU(t:Tr):jK [t]=t.A5.bytes:=rfl
def kT(f:Fr):fW [f]=frB f:=rfl
def xZ:∀(l:List Tr)(a:Sz),((l.map bz).foldl (λ(a z:Sz)=>(⟨a.g+z.g,a.bytes+z.bytes,max a.h z.h⟩:Sz)) a).g=a.g+jJ l/\
 ((l.map bz).foldl (λ(a z:Sz)=>(⟨a.g+z.g,a.bytes+z.bytes,max a.h z.h⟩:Sz)) a).bytes=a.bytes+jK l/\
 ∀D,a.h<=D->(∀t∈l,t.A5.h<=D)->((l.map bz).foldl (λ(a z:Sz)=>(⟨a.g+z.g,a.bytes+z.bytes,max a.h z.h⟩:Sz)) a).h<=D
 | [],a=>⟨by simp[jJ],by simp[jK],λD h _=>h⟩
 | t::l,a=>by
  obtain⟨e,d,f⟩:=xZ l ⟨a.g+t.A5.g,a.bytes+t.A5.bytes,max a.h t.A5.h⟩;rw[fu,fv];have c:jJ (t::l)=t.A5.g+jJ l:=rfl;have i:jK (t::l)=t.A5.bytes+jK l:=rfl;refine⟨by rw[e,c];show a.g+t.A5.g+jJ l=_;omega,by rw[d,i];show a.bytes+t.A5.bytes+jK l=_;omega,λD j b=>f D ?_ (λu g=>b u (dl _ g))⟩;have:=b t (dw ..)
  show max a.h t.A5.h<=D
  omega
def iM(bytes:Nat)(l:List Tr):(fY bytes (l.map bz)).g=1+jJ l/\(fY bytes (l.map bz)).bytes=bytes+jK l/\∀D,(∀t∈l,t.A5.h<=D)->(fY bytes (l.map bz)).h<=D+1:=by
 obtain⟨b,a,c⟩:=xZ l ⟨1,bytes,0⟩;rw[lA];exact⟨b,a,λD h=>Nat.succ_le_succ (c D (ej _) h)⟩
def aHC(t:Tr):1<=t.A5.g:=by
 cases t with
 | null=>simp[bz]
 | flag b=>simp[bz]
 | num b=>simp[bz]
 | text s=>simp[bz]
 | list l=>rw[gU,(iM 0 l).1];omega
 | object k l=>rw[hZ,(iM _ l).1];omega
def oI:∀l:List Tr,l.length<=jJ l
 | []=>aw _
 | t::l=>by
  have h:=oI l;have b:=aHC t;have a:jJ (t::l)=t.A5.g+jJ l:=rfl;rw[ek,a];omega
def x7:∀{l:List Tr},t∈l->t.A5.g<=jJ l/\t.A5.bytes<=jK l
 | u::l,h=>by
  have a:jJ (u::l)=u.A5.g+jJ l:=rfl;have b:jK (u::l)=u.A5.bytes+jK l:=rfl;rw[a,b];rcases fw.1 h with rfl|h
  .exact⟨by omega,by omega⟩
  .have:=x7 h;exact⟨by omega,by omega⟩
def aAV{f:Fr}:∀{l:List Fr},f∈l->frB f<=fW l
 | u::l,h=>by
  have a:fW (u::l)=frB u+fW l:=rfl;rw[a];rcases fw.1 h with rfl|h
  .omega
  .have:=aAV h;omega
def oJ{s:Oo}:∀{l:List Oo}{a:Nat},s∈l->s.length+a<=l.foldl (λa k=>a+k.length) a
 | u::l,a,h=>by
  rw[fv];rcases fw.1 h with rfl|h
  .have b:∀(l:List Oo)(a:Nat),a<=l.foldl (λa k=>a+k.length) a:=by
    intro l
    induction l with
    | nil=>intro a;exact aw _
    | cons x l c=>intro a;exact ao (Nat.le_add_right a x.length) (c (a+x.length))
   have:=b l (a+s.length);omega
  .have:=oJ (a:=a+u.length) h;omega
inductive sP(D:Nat):List Fr->List Tr->Prop
 | nil:sP D [] []
 | list {ini:List Fr} {its:List Tr} (s:List Tr) (h:sP D ini its) (hd:∀t∈s,t.A5.h+ini.length+1<=D):sP D (ini++ [cg s.length]) (its++s)
 | object {ini:List Fr} {its:List Tr} (k:List (List UInt8)) (s:List Tr) (h:sP D ini its) (hd:∀t∈s,t.A5.h+ini.length+1<=D) (hk:k.length=s.length+1):sP D (ini++ [bp k]) (its++s)
inductive fB(D:Nat):Nat->List Fr->List Tr->Prop
 | new:fB D 0 [] []
 | done (t:Tr) (hd:t.A5.h<=D):fB D 6 [] [t]
 | list {ini:List Fr} {its:List Tr} (s:List Tr) (want:Nat) (h:sP D ini its) (hd:∀t∈s,t.A5.h+ini.length+1<=D) (hw:want=0\/want=1\/want=5):fB D want (ini++ [cg s.length]) (its++s)
 | object {ini:List Fr} {its:List Tr} (k:List (List UInt8)) (s:List Tr) (want:Nat) (h:sP D ini its) (hd:∀t∈s,t.A5.h+ini.length+1<=D)
  (hk:((want=2\/want=3\/want=5)/\k.length=s.length)\/((want=4\/want=0)/\k.length=s.length+1)):fB D want (ini++ [bp k]) (its++s)
def fB.O0{b:List Fr}(h:fB D want b a)(d:want=0\/want=1):sP D b a:=by
 cases h with
 | new=>exact .nil
 | done t c=>omega
 | list s _ h c _=>exact .list s h c
 | object k s _ h c e=>exact .object k s h c (by omega)
def mC(a:List Fr)(n:Nat):more (a++ [cg n])=a++ [cg (n+1)]:=by unfold more;simp
def j9(a:List Fr)(k:List Oo):more (a++ [bp k])=a++ [bp k]:=by unfold more;simp
def sP.C9{a:List Fr}{c:List Tr}(h:sP D a c)(g:t.A5.h+a.length<=D):fB D (if a= []then 6 else 5) (more a) (c++ [t]):=by
 cases h with
 | nil=>exact .done t (by simpa using g)
 | @list e f s h d=>
  rw[if_neg (by simp),mC,fz]
  have:=fB.list (D:=D) (s++ [t]) 5 h (by
   intro u b;rcases cj.1 b with b|b
   .exact d u b
   .simp at b;subst b;simp at g;omega) (ai (ai rfl))
  simpa using this
 | @object e f k s h d i=>
  rw[if_neg (by simp),j9,fz]
  exact .object k (s++ [t]) 5 h (by
   intro u b;rcases cj.1 b with b|b
   .exact d u b
   .simp at b;subst b;simp at g;omega) (K ⟨ai (ai rfl),by simp;omega⟩)
def sP.N2{d:List Fr}(h:sP D d a):(∀t∈a,t.A5.h<=D)/\(∀m,cg m∈d->m<=a.length):=by
 induction h with
 | nil=>exact⟨λt h=>by simp at h,λm h=>by simp at h⟩
 | list s h f e=>
  refine⟨λt c=>?_,λm b=>?_⟩
  .rcases cj.1 c with c|c
   .exact e.1 t c
   .have:=f t c;omega
  .rcases cj.1 b with b|b
   .have:=e.2 m b;rw[bk];omega
   .simp at b;rw[bk];omega
 | object k s h f g e=>
  refine⟨λt c=>?_,λm b=>?_⟩
  .rcases cj.1 c with c|c
   .exact e.1 t c
   .have:=f t c;omega
  .rcases cj.1 b with b|b
   .have:=e.2 m b;rw[bk];omega
   .simp at b
def fB.N2{b:List Fr}(h:fB D want b a):(∀t∈a,t.A5.h<=D)/\(∀m,cg m∈b->m<=a.length):=by
 cases h with
 | new=>exact⟨λt h=>by simp at h,λm h=>by simp at h⟩
 | done t c=>exact⟨λu h=>by simp at h;subst h;exact c,λm h=>by simp at h⟩
 | list s _ h c _=>exact(sP.list s h c).N2
 | object k s _ h c g=>
  have f:=h.N2;refine⟨λt e=>?_,λm d=>?_⟩
  .rcases cj.1 e with e|e
   .exact f.1 t e
   .have:=c t e;omega
  .rcases cj.1 d with d|d
   .have:=f.2 m d;rw[bk];omega
   .simp at d
def fB.Q0{a:List Fr}{b:List Tr}(h:fB D want a b):(want=2\/want=3\/want=4->jB a=Q)/\(want=5->a≠ [])/\want<=6/\(want=6->a= []/\∃t,b= [t]):=by
 cases h with
 | new=>exact⟨by omega,by omega,by omega,by omega⟩
 | done t c=>exact⟨by omega,by omega,by omega,λ_=>⟨rfl,t,rfl⟩⟩
 | list s _ h c d=>exact⟨by omega,λ_=>by simp,by omega,by omega⟩
 | object k s _ h c e=>exact⟨λ_=>by unfold jB;simp,λ_=>by simp,by omega,by omega⟩
structure cH(x:Ps)(q:Nat):Prop where
 h:x.h<=512
 c:x.e.length+q<=x.h
 g:x.g<=65536
 bytes:x.bytes<=2097152
 f:jJ x.b+x.e.length+q<=x.g
 d:jK x.b+fW x.e<=x.bytes
 b:fB x.h x.a x.e x.b
 a:∀k,bp k∈x.e->k.Nodup/\∀s∈k,aV s=Q
 e:q=0\/(q=1/\(x.a=0\/x.a=1))
section
variable {x y:Ps} {q:Nat}
def cH.O5(h:cH x q):x.b.length<=65536:=by
 have:=oI x.b;have:=h.f;have:=h.g;omega
def cH.P9(h:cH x q):∀t∈x.b,t.A5.A9=Q:=by
 intro t a;have c:=x7 a;have b:=h.b.N2.1 t a;have:=h.f;have:=h.g;have:=h.d;have:=h.bytes;have:=h.h;unfold ew;simp only[ga,decide_eq_true_eq];omega
def cH.Q3(h:cH x q):∀m,cg m∈x.e->m<=65536:=λm a=>ao (h.b.N2.2 m a) h.O5
def cH.Q1(h:cH x q){k:List Oo}(b:bp k∈x.e):bK k/\k.Nodup/\bD k<=x.bytes:=by
 have c:=h.a k b;have e:bD k<=fW x.e:=aAV b;have:=h.d;have:=h.bytes;refine⟨λs d=>⟨c.2 s d,?_⟩,c.1,by omega⟩;have g:=oJ (a:=0) d;have f:s.length<=bD k:=by unfold bD;omega
 omega
def aC8(l:List Fr):(more l).length=l.length:=by
 rcases gc l with rfl|⟨i,a,rfl⟩
 .rfl
 .cases a with
  | list n=>rw[em,mC];simp
  | object k=>rw[em,j9]
def aE4(l:List Fr):fW (more l)=fW l:=by
 rcases gc l with rfl|⟨i,a,rfl⟩
 .rfl
 .cases a with
  | list n=>rw[em,mC,dZ,dZ];rfl
  | object k=>rw[em,j9]
def wA{l:List Fr}{k:List Oo}(h:bp k∈more l):bp k∈l:=by
 rcases gc l with rfl|⟨i,a,rfl⟩
 .exact h
 .rw[em]at h⊢;cases a with
  | list n=>
   rw[mC]at h;rcases cj.1 h with h|h
   .exact gd _ h
   .simp at h
  | object k=>rwa[j9]at h
def cH.C9(d:x.h<=512)(g:x.g<=65536)(f:x.bytes<=2097152){t:Tr}(i:x.e.length<=x.h)(e:t.A5.h+x.e.length<=x.h)(j:jJ x.b+t.A5.g+x.e.length<=x.g)(h:jK x.b+t.A5.bytes+fW x.e<=x.bytes)(c:sP x.h x.e x.b)
 (b:∀k,bp k∈x.e->k.Nodup/\∀s∈k,aV s=Q):cH (ez {x with b:=x.b++ [t]}) 0:=by
 refine⟨d,?_,g,f,?_,?_,c.C9 e,λk a=>b k (wA a),K rfl⟩
 .show(more x.e).length+0<=x.h
  rw[aC8];omega
 .show jJ (x.b++ [t])+(more x.e).length+0<=x.g
  rw[aC8,j6,aJT];omega
 .show jK (x.b++ [t])+fW (more x.e)<=x.bytes
  rw[aE4,j8,aJU];omega
def cH.F7(h:cH x 1){t:Tr}{b:Nat}(a:t.A5=⟨1,b,1⟩)(c:jK x.b+b+fW x.e<=x.bytes):bB x.b t=x.b++ [t]/\cH (ez {x with b:=x.b++ [t]}) 0:=by
 have f:=h.f;have d:=h.g;have i:=oI x.b;have e:=h.c;have g:=h.bytes;refine⟨?_,cH.C9 h.h h.g h.bytes (by omega) (by rw[a];show 1+_<=_;omega) (by rw[a];show _+1+_<=_;omega) (by rw[a];exact c) (h.b.O0 (by have:=h.e;omega)) h.a⟩;unfold bB pA;rw[if_neg (by omega),if_pos (by rw[a];unfold ew;simp;omega)]
def cH.D0{b:Nat}(h:cH x 0)(a:x.D0 b=.ok y):cH y 1/\(x.a=0\/x.a=1)/\y={x with g:=x.g+1}:=by
 unfold Ps.D0 at a;split at a
 .cases a
 .rename_i f;split at a
  .cases a
  .rename_i d;split at a
   .cases a
   .rename_i i;cases a;have e:=h.c;have g:=h.g;have c:=h.f;exact⟨⟨h.h,by show x.e.length+1<=x.h;omega,by show x.g+1<=65536;omega,h.bytes,by show jJ x.b+x.e.length+1<=x.g+1;omega,h.d,h.b,h.a,ai ⟨rfl,by show x.a=0\/x.a=1;omega⟩⟩,by omega,rfl⟩
def cH.O1(h:cH x 1)(f:Fr)(d:f=cg 0/\y.a=1\/f=bp []/\y.a=2)(c:y={x with e:=x.e++ [f],a:=y.a}):cH y 0:=by
 have p:=h.f;have o:=h.c;have j:=h.b.O0 (by have:=h.e;omega);have e:y.h=x.h:=by rw[c]
 have b:y.e=x.e++ [f]:=by rw[c]
 have g:y.b=x.b:=by rw[c]
 have l:y.g=x.g:=by rw[c]
 have i:y.bytes=x.bytes:=by rw[c]
 refine⟨by rw[e];exact h.h,by rw[e,b];simp;omega,by rw[l];exact h.g,by rw[i];exact h.bytes,by rw[b,g,l];simp;omega,?_,?_,?_,K rfl⟩
 .rw[b,g,i,dZ];have:=h.d;rcases d with⟨rfl,_⟩|⟨rfl,_⟩
  .show _+(_+0)<=_;omega
  .show _+(_+0)<=_;omega
 .rw[e,b,g];rcases d with⟨rfl,m⟩|⟨rfl,m⟩
  .have:=fB.list (D:=x.h) [] y.a j (λt h=>by simp at h) (by omega)
   simpa using this
  .have:=fB.object (D:=x.h) [] [] y.a j (λt h=>by simp at h) (K ⟨by omega,rfl⟩)
   simpa using this
 .rw[b];intro k a;rcases cj.1 a with a|a
  .exact h.a k a
  .rcases d with⟨rfl,_⟩|⟨rfl,_⟩
   .simp at a
   .simp at a;subst a;exact⟨List.nodup_nil,λs n=>by simp at n⟩
def cH.E9(h:cH x 0){m:UInt8}(q:x.J5 m=Q):cH (x.C4 po) 0:=by
 have u:=h.h;have B:=h.c;have N:=h.g;have L:=h.bytes;have n:=h.f;have y:=h.d;have R:=h.b;have p:=h.a;obtain⟨D,d,f,G,P,want,b,bytes⟩:=x;simp only at u B N L n y R p;cases R with
 | new=>simp[ge]at q
 | done t o=>simp[ge]at q
 | @list a c s _ z o l=>
  have i:(fa po ⟨D,d,f,c++s,a++ [cg s.length],want,b,bytes⟩)=ez ⟨D,d,f,eI (c++s) s.length,a,want,b,bytes⟩:=by
   unfold fa;simp
  obtain⟨w,j,F⟩:=iM 0 s;rw[j6]at n;rw[j8,dZ,kT]at y;simp only[bk,ek,gu]at n B;have v:=F (D-a.length-1) (λt r=>by have:=o t r;omega);rw[<-gU]at w j v
  have g:eI (c++s) s.length=c++ [.list s]:=by
   unfold eI fZ;rw[if_neg (by simp),bk,gv,gw,gx,if_pos];unfold ew;simp only[ga,decide_eq_true_eq];omega
  rw[i,g];have:=cH.C9 (x:=⟨D,d,f,c,a,want,b,bytes⟩) (t:=.list s) u N L (by show a.length<=D;omega) (by show _+a.length<=D;omega) (by show jJ c+_+a.length<=b;omega) (by show jK c+_+fW a<=bytes;rw[j];have:frB (cg s.length)=0:=rfl;omega) z (λk e=>p k (gd _ e));exact this
 | @object a c k s _ z o l=>
  have e:k.length=s.length:=by
   rcases l with l|l
   .exact l.2
   .unfold ge at q;simp at q;omega
  have i:(fa po ⟨D,d,f,c++s,a++ [bp k],want,b,bytes⟩)=ez ⟨D,d,f,po (c++s) k,a,want,b,bytes⟩:=by
   unfold fa;simp
  obtain⟨C,W⟩:=p k (by simp);obtain⟨w,j,F⟩:=iM (bD k) s;rw[j6]at n;rw[j8,dZ,kT]at y;simp only[bk,ek,gu]at n B;have v:=F (D-a.length-1) (λt r=>by have:=o t r;omega);rw[<-mV C e.symm]at w j v
  have g:po (c++s) k=c++ [dx (dC k) (besides k s)]:=by
   unfold po fZ;rw[if_neg (by simp;omega),bk,e,gv,gw,gx,if_pos];unfold ew;simp only[ga,decide_eq_true_eq];have:frB (bp k)=bD k:=rfl;omega
  rw[i,g];have:=cH.C9 (x:=⟨D,d,f,c,a,want,b,bytes⟩) (t:=dx (dC k) (besides k s)) u N L (by show a.length<=D;omega) (by show _+a.length<=D;omega) (by show jJ c+_+a.length<=b;omega) (by show jK c+_+fW a<=bytes;rw[j];have:frB (bp k)=bD k:=rfl;omega) z (λk e=>p k (gd _ e));exact this
end
end
def aFi(n:Nat):(dG n).length<=2:=by unfold dG;split<;>simp
def qX:∀l:List Nat,(l.flatMap dG).length<=2*l.length
 | []=>by simp
 | n::l=>by
  have:=qX l;have:=aFi n;rw[List.flatMap_cons,bk,ek];omega
def yO(w:V)(s:ByteArray)(hs:s.size<=1073741824)(f:aV s.data.toList=Q):ac T 227 #[s] w λe w'=>
 ∃a k c,e=af (O a k c)/\Row w.heap.size 377 aL5 w' (O a k c) (gI s.data.toList)/\(gI s.data.toList).length<=2*s.size/\ag w w w':=by
 have N:=A (λW=>aFh W s hs f);obtain⟨p,h,d⟩:=vI s.data.toList.length s.data.toList (aw _) f;rw[p];have d:(eJ s.data.toList).length<=s.size:=by simpa using d
 obtain⟨L,q⟩:∃L,eJ s.data.toList=L:=⟨_,rfl⟩;rw[q]at N h d⊢;have l:=qX L;obtain⟨a4,o⟩:∃a4,L.flatMap dG=a4:=⟨_,rfl⟩;rw[o]at l⊢;have HT:=A o;have HL:=A (And.intro h (And.intro d l));clear p h d l q f o;go_enter func227,ntmps227;go_wp2_with fail;refine(N.o _).mono ?_;rintro e w1 ⟨a,k,c,a2,k2,c2,rfl,d,f⟩;have P:=f.size;have h6:=A d;have HB:=A f;obtain⟨_,_,R⟩:=d.A7;cases R;clear d f;go_wp2
 go_loopw [3,6] (λu v wr=>∃(i:Nat)(a0:List Nat),v=I U i/\i<=L.length/\M (a0=(L.take i).flatMap dG)/\Row w1.heap.size 377 aL5 wr u a0/\ag w1 w1 wr) (λ_ v _=>L.length-(bu v).toNat)
 case atStart=>exact⟨0,[],rfl,ej _,A rfl,Row.nil _ _ _ _,bw _ _⟩
 case round=>
  obtain⟨i,a0,rfl,hi,Y,p,h⟩:=hrel
  have f:a0.length<=2*i:=by
   have:=qX (L.take i);rw[<-Y.o,ct]at this;omega
  have d:=HL.o.2.1;have F:=h.size
  by_cases a1:i<L.length
  .have q1:(i:Int)<(L.length:Int):=by omega
   obtain⟨g,rfl,_,l⟩:=(h6.o.A4 h).at a1;obtain⟨n,q⟩:∃n,L[i]=n:=⟨_,rfl⟩;rw[q]at l;replace l:wr.cell? ⟨g,i,S⟩=J (I bc n):=l;have G:fM n:=HL.o.1 n (by rw[<-q];exact List.getElem_mem a1);unfold fM at G;have e0:U.wrap (n:Int)=(n:Int):=by rw[cv];omega
   have o:=A (show a0++dG n=(L.take (i+1)).flatMap dG by rw[Y.o,List.take_succ_eq_append_getElem a1,List.flatMap_append,q];simp);have B:=A p;have HI:=A a1;have h7:U.wrap ((i:Int)+1)=(i:Int)+1:=by rw[cv];omega
   have X:=A h;have C:=A (And.intro f d);clear q p h f d
   by_cases D:n<65536
   .have e1:(n:Int)<65536:=by omega
    have e2:co.wrap (n:Int)=(n:Int):=by rw[gh];omega
    have q:dG n= [n]:=by unfold dG;rw[if_pos D]
    rw[q]at o;clear q D G
    go_wp2_with (at_builtin;refine cV aLV rfl _ _ rfl rfl (B.o.A6 _) ⟨wr.heap.size,0,S⟩ 1 n rfl ?_ rfl ?_ ?_ ?_ ?_)
    .rfl
    .have:=C.o;omega
    .have:=C.o;unfold dy;omega
    ·(try simp);omega
    intro b cap w3 f d;have r:=(X.o.alloc F (ae #[I co n] 377)).grown d (by simp;omega) (λk R=>(B.o.lt k R).1);have t:=A (And.intro f r);clear f d r;go_wp2_with fail;exact⟨⟨i+1,a0++ [n],by go_num,by have:=HI.o;omega,o,by simpa using t.o.1,t.o.2⟩,by have:=HI.o;simp[bu];omega⟩
   .have e1:¬(n:Int)<65536:=by omega
    have q:dG n= [55296+(n-65536)/1024,56320+(n-65536)%1024]:=by unfold dG;rw[if_neg D]
    rw[q]at o;obtain⟨m,hm⟩:∃m,n-65536=m:=⟨_,rfl⟩;rw[hm]at o;have e2:U.wrap ((n:Int)-65536)=(m:Int):=by rw[cv];omega
    obtain⟨x,hx⟩:∃x,55296+m/1024=x:=⟨_,rfl⟩;obtain⟨y,hy⟩:∃y,56320+m%1024=y:=⟨_,rfl⟩;rw[hx,hy]at o;have e3:U.wrap (55296+(m:Int)/1024)=(x:Int):=by rw[cv];omega
    have e4:U.wrap (56320+(m:Int)%1024)=(y:Int):=by rw[cv];omega
    have e5:co.wrap (x:Int)=(x:Int):=by rw[gh];omega
    have e6:co.wrap (y:Int)=(y:Int):=by rw[gh];omega
    have e7:U.wrap ((m:Int)/1024)=(m:Int)/1024:=by rw[cv];omega
    clear q D G hm hx hy
    go_wp2_with (at_builtin;refine jH (enc:=aL5) aLV rfl _ _ rfl rfl (Row.A6 B.o (ae #[I co x,I co y] 377)) ⟨wr.heap.size,0,S⟩ 2 2 [x,y] (by rfl) (by rfl) (by decide) ?_ ?_ ?_ ?_ ?_ ?_)
    .intro j z q;rcases j with _|_|j<;>simp at q<;>subst q<;>rfl
    .intro z;rfl
    .have:=C.o;omega
    .have:=C.o;unfold dy;omega
    ·(try simp);omega
    intro b cap w3 f d;have r:=(X.o.alloc F (ae #[I co x,I co y] 377)).grown d (by simp;omega) (λk R=>(B.o.lt k R).1);have t:=A (And.intro f r);clear f d r;go_wp2_with fail;exact⟨⟨i+1,a0++ [x,y],by go_num,by have:=HI.o;omega,o,by simpa using t.o.1,t.o.2⟩,by have:=HI.o;simp[bu];omega⟩
  .obtain rfl:i=L.length:=by omega
   have q1:¬(L.length:Int)<(L.length:Int):=by omega
   have l:=Y.o;rw[List.take_length,HT.o]at l;subst l;obtain⟨a3,q,rfl⟩:=p.A7;have o:=A (And.intro (p.D6 P) (HB.o.trans (h.mono P)));clear p h Y;go_wp2;go_ret;exact⟨_,_,_,rfl,o.o.1,ao HL.o.2.2 (by omega),o.o.2⟩
def aLm{c d:List Nat}{j:Nat}(b:j<c.length)(a:j<d.length):cmpL (c.drop j) (d.drop j)=if c[j]=d[j]then cmpL (c.drop (j+1)) (d.drop (j+1))else if c[j]<d[j]then -1 else 1:=by
 rw[fc b,fc a];rfl
def aJ1{e f:List Nat}{j:Nat}(d:j<=e.length)(c:j<=f.length)(h:¬(j<e.length/\j<f.length)):cmpL (e.drop j) (f.drop j)=if e.length<f.length then -1 else if f.length<e.length then 1 else 0:=by
 by_cases b:j<e.length
 .have a:f.length=j:=by omega
  rw[fc b,(show f.drop j= []from gj (by omega)),if_neg (by omega),if_pos (by omega)];rfl
 .rw[(show e.drop j= []from gj (by omega))]
  by_cases a:j<f.length
  .rw[fc a,if_pos (by omega)];rfl
  .rw[gj (by omega),if_neg (by omega),if_neg (by omega)];rfl
def aBQ(w:V)(s t:ByteArray)(h:s.size<=1073741824)(l:t.size<=1073741824)(b:aV s.data.toList=Q)(d:aV t.data.toList=Q):ac T 207 #[s,t] w λe w'=>
 e=af (I U (eE s.data.toList t.data.toList))/\ag w w w':=by
 rw[<-aA0 _ _ _ (aw _) b d];have B:=A (λW=>yN W s h b);have D:=A (λW=>yN W t l d);have p:=A (λW=>yO W s h b);have r:=A (λW=>yO W t l d);obtain⟨f,n⟩:∃f,gI s.data.toList=f:=⟨_,rfl⟩;obtain⟨i,o⟩:∃i,gI t.data.toList=i:=⟨_,rfl⟩;rw[n]at p⊢;rw[o]at r⊢;obtain⟨C,m⟩:∃C,cmpL f i=C:=⟨_,rfl⟩;have HC:=A (show cmpL (f.drop 0) (i.drop 0)=C from m);rw[m];have Y:=A (And.intro h l);clear m n o b d h l;go_enter func207,ntmps207;go_wp2_with fail;refine(B.o _).mono ?_;rintro e w1 ⟨rfl,rfl⟩;go_wp2_with fail;refine(D.o _).mono ?_;rintro e w2 ⟨rfl,rfl⟩;go_wp2_with fail;refine(p.o _).mono ?_;rintro e w3 ⟨a,k,c,rfl,l,d,h⟩;obtain⟨_,_,b⟩:=l.A7;cases b;have m:=A (And.intro l d);have F:=A h;clear l d h;go_wp2_with fail;refine(r.o _).mono ?_;rintro e z ⟨a2,k2,c2,rfl,l,n,h⟩;obtain⟨_,_,b⟩:=l.A7;cases b;have G:=A (m.o.1.A4 h);have L:=A (chain F.o h);have HV:=A l;have d:=A (λq=>show ag w2 w2 (z.drewN q)from L.o.trans ⟨rfl,rfl,rfl,aw _,λ_ _=>rfl⟩);have HL:=A (show f.length<=4294967296/\i.length<=4294967296 from⟨by have:=m.o.2;have:=Y.o;omega,by have:=Y.o;omega⟩);clear l n h m;go_wp2
 go_loopw [9] (λv wr=>∃j:Nat,v=I U j/\j<=f.length/\j<=i.length/\M (cmpL (f.drop j) (i.drop j)=C)/\∃q,wr=z.drewN q) (λv _=>f.length-(bu v).toNat)
 case atStart=>exact⟨0,rfl,ej _,ej _,HC,0,rfl⟩
 case round=>
  obtain⟨j,rfl,l,m,N,q,rfl⟩:=hrel;have hl:=HL.o
  by_cases h:j<f.length/\j<i.length
  .have e1:(j:Int)<(f.length:Int):=by omega
   have e2:(j:Int)<(i.length:Int):=by omega
   obtain⟨g,rfl,_,n⟩:=G.o.at h.1;obtain⟨g2,rfl,_,o⟩:=HV.o.at h.2;have b:=N.o;rw[aLm h.1 h.2]at b;obtain⟨x,u⟩:∃x,f[j]=x:=⟨_,rfl⟩;obtain⟨y,R⟩:∃y,i[j]=y:=⟨_,rfl⟩;rw[u]at n b;rw[R]at o b;replace n:z.cell? ⟨g,j,S⟩=J (I co x):=n;replace o:z.cell? ⟨g2,j,S⟩=J (I co y):=o;have P:=A h;have g7:U.wrap ((j:Int)+1)=(j:Int)+1:=by rw[cv];omega
   clear u R h hl l m;rcases Nat.lt_trichotomy x y with X|X|X
   .have u:(x:Int)<(y:Int):=by omega
    rw[if_neg (by omega),if_pos X]at b;subst b;clear X;go_wp2
    go_quiet (fail)
    go_wp2;go_ret;exact⟨rfl,by first|exact d.o _|(rw[fe];exact d.o _)|(rw[World.drewN_drewN,World.drewN_drewN];exact d.o _)⟩
   .subst X;have u:¬(x:Int)<(x:Int):=by omega
    rw[if_pos rfl]at b;have R:=A b;clear b;go_wp2
    go_quiet (fail)
    go_wp2
    go_quiet (fail)
    go_wp2
    go_roundw
    case rel=>exact⟨j+1,by go_num,by have:=P.o;omega,by have:=P.o;omega,R,_,rfl⟩
    case measure=>have:=P.o;simp[bu];omega
   .have u:¬(x:Int)<(y:Int):=by omega
    have R:(y:Int)<(x:Int):=by omega
    rw[if_neg (by omega),if_neg (by omega)]at b;subst b;clear X;go_wp2
    go_quiet (fail)
    go_wp2
    go_quiet (fail)
    go_wp2;go_ret;exact⟨rfl,by first|exact d.o _|(rw[fe];exact d.o _)|(rw[fe,fe];exact d.o _)⟩
  .have b:=N.o;rw[aJ1 l m h]at b;have n:((j:Int)<(f.length:Int)/\¬(j:Int)<(i.length:Int))\/¬(j:Int)<(f.length:Int):=by omega
   have o:((f.length:Int)<(i.length:Int)/\C= -1)\/(¬(f.length:Int)<(i.length:Int)/\(i.length:Int)<(f.length:Int)/\C=1)\/(¬(f.length:Int)<(i.length:Int)/\¬(i.length:Int)<(f.length:Int)/\C=0):=by
    split at b
    .exact K ⟨by omega,b.symm⟩
    .split at b
     .exact ai (K ⟨by omega,by omega,b.symm⟩)
     .exact ai (ai ⟨by omega,by omega,b.symm⟩)
   clear b h N hl l m;rcases n with⟨e1,e2⟩|e1<;>rcases o with⟨u,rfl⟩|⟨u,R,rfl⟩|⟨u,R,rfl⟩
   all_goals
    go_wp2;go_ret;exact⟨rfl,by first|exact d.o _|(rw[World.drewN_drewN];exact d.o _)|(rw[World.drewN_drewN,World.drewN_drewN];exact d.o _)⟩
abbrev eA:=Mem×List Z
def lL(x:eA):List Z:=encS x.1.1::x.2
def yP(x y:eA):Bool:=mD x.1 y.1
def dR(l:List eA):List eA:=
 if l.length<2 then l else dm (dR (l.take (l.length/2))) (dR (l.drop (l.length/2))) yP
termination_by l.length
decreasing_by all_goals(simp_wf;omega)
def iY{l:List eA}(h:l.length<2):dR l=l:=by rw[dR,if_pos h]
def oR{l:List eA}(h:¬l.length<2):dR l=dm (dR (l.take (l.length/2))) (dR (l.drop (l.length/2))) yP:=by rw[dR,if_neg h]
def aFk(N:Nat):∀l:List eA,l.length<=N->(dR l).map (·.1)=iE (l.map (·.1)):=by
 induction N with
 | zero=>intro l h;rw[iY (by omega),gJ (by simp;omega)]
 | succ N b=>
  intro l h
  by_cases a:l.length<2
  .rw[iY a,gJ (by simpa using a)]
  .rw[oR a,oQ (by simpa using a),show((dR (l.take (l.length/2))).merge (dR (l.drop (l.length/2))) yP).map (·.1)=_ from List.map_merge (f:=λx:eA=>x.1) (r:=yP) (s:=mD) (λ_ _ _ _=>rfl),b _ (by rw[ct];omega),b _ (by rw[eo];omega)];simp[gy,gz]
def oS(N:Nat):∀l:List eA,l.length<=N->(dR l).Perm l:=by
 induction N with
 | zero=>intro l h;rw[iY (by omega)]
 | succ N a=>
  intro l h
  by_cases b:l.length<2
  .rw[iY b]
  .rw[oR b];refine(List.merge_perm_append ..).trans (((a _ (by rw[ct];omega)).append (a _ (by rw[eo];omega))).trans ?_);rw[ib]
def sZ:lB 334 336 7 104:=⟨underlying334,by decide,by
 have h:(T.info? 336).map (λi=>(i.zero,i.size,i.bytes))=J (J (bm #["",I U 0,E H,I ah 0,"",(),()]),7,104):=by kernel_rfl
 obtain⟨i,c,a,d,b⟩:=info_parts h;exact⟨i,_,c,a,d,b,rfl⟩⟩
def oX(w:V)(b:Nat)(a:Z)(l:List UInt8)(c:Z->Array Z)(e:cw)(w':V):Prop:=e=af (I U 0)/\∃g off cap,w'.heap[b]?=J (ae (c (O (J ⟨g,off,S⟩) l.length cap)) 228 (0,0))/\
 Win 5 bZ w' (O (J ⟨g,off,S⟩) l.length cap) l/\(a.ownBlock=J g\/w.heap.size<=g)/\Keeps (λk=>k=b\/a.ownBlock=J k) w w'
def aDJ(w:V)(b s:Nat)(v o q j r l k x m p n u t:Z)(a:UInt8)(h:w.heap[b]?=J (ae #[v,o,q,j,r,l,k,s,x,m,p,n,u,t] 228 (0,0)))(c:s<=8)
 (f:aR s a=S)(g:bL s=H):
 ac T 139 #[aj b,I au a.toNat] w λe w'=>e=af (I U 94)/\w'=w:=by
 obtain⟨F,c1,c2,N,G,P,W,C,z,B,D,L,y,cd,R⟩:=aN h;have d:=A (tG s c a);have i:=A (lM s c);rw[f]at d;rw[g]at i;clear h f g c;go_enter func139,ntmps139;go_wp2_with fail;refine(d.o _).mono ?_;rintro e w1 ⟨rfl,rfl⟩;go_wp2_with fail;refine(i.o _).mono ?_;rintro e w1 ⟨rfl,rfl⟩;go_wp2;go_ret;exact⟨rfl,rfl⟩
def rE(w:V)(b s j:Nat)(z B C D G L N P R W X Y a:Z)(h:UInt8)(l:Oo)(r:w.heap[b]?=J (ae #[z,B,C,D,G,L,a,s,N,P,R,W,X,Y] 228 (0,0)))(i:s<=8)
 (n:aR s h=J j)(d:Win 5 bZ w a l)(hl:l.length<=1073741824):
 ac T 139 #[aj b,I au h.toNat] w λe w'=>oX w b a (l++ [h]) (λv=> #[z,B,C,D,G,L,v,j,N,P,R,W,X,Y]) e w':=by
 obtain⟨c0,c1,c2,c3,c4,c5,c6,c7,c8,c9,ca,cb,cc,cd,cf⟩:=aN r;have HN:=A (tG s i h);rw[n]at HN;have m:=A (d.ne r (by decide));have f:=aB r (o:=7) (I U j);simp only[fg,fh,fi]at f;have a0:=A f;have h1:=cz r;obtain⟨ta,tc,t⟩:=d.A7;have c:Win 5 bZ ((w.setCell ⟨b,7,S⟩ (I U j)).alloc (ae #[bZ h] 5)) a l:=d.A2 (F:=λk=>k=b) (((av (λk=>k=b) w).A3 (p:=⟨b,7,S⟩) (K rfl) _).A6 _) (λk e u=>m.o (e.trans (congrArg J u)));have HR:=A c;clear r f n i d c;subst t;go_enter func139,ntmps139;go_wp2_with fail;refine(HN.o _).mono ?_;rintro e w1 ⟨rfl,rfl⟩
 go_wp2_with (at_builtin;refine dE nY rfl _ _ rfl rfl HR.o w1 1 h rfl ?_ rfl ?_ ?_ ?_)
 .exact fQ (aJe _ _ _).symm
 .omega
 .unfold dy;omega
 intro g off cap w' c f i;have d:=(i.block b (by simp;omega) (λe=>m.o e.symm)).trans ((ie _ _ _ (cz a0.o)).trans a0.o);have x:=A (c.ne d (by decide));have n:(O ta l.length tc).ownBlock=J g\/w1.heap.size<=g:=f.elim K (λr=>ai (ao (by first|exact aw _|simp[bx]) r.1));have y:=A n;have HK:=A ((((av (λk=>k=b\/(O ta l.length tc).ownBlock=J k) w1).A3 (p:=⟨b,7,S⟩) (K (K rfl)) (I U j)).A6 (ae #[bZ h] 5)).D7 i (λk e=>K (ai e)));have q:=A c;obtain⟨-,-,-,-,-,-,d6,-,-,-,-,-,-,-,df⟩:=aN d;have HB:=A d;clear d c n f i c0 c1 c2 c3 c4 c5 c6 c7 c8 c9 ca cb cc cd cf;go_wp2;go_ret;refine⟨rfl,g,off,cap,?_,?_,y.o,HK.o.A3 (p:=⟨b,6,S⟩) (K (K rfl)) _⟩
 .rw[bk];exact aB HB.o _
 .rw[bk];exact q.o.A2 ((av (λk=>k=b) w').A3 (p:=⟨b,6,S⟩) (K rfl) _) (λk e u=>x.o (e.trans (congrArg J u)))
def tJ:∀(l:List (List UInt8))(a:Nat),l.length+a<=l.foldl (λa k=>a+k.length) a+l.count []
 | [],a=>by simp
 | x::l,a=>by
  have h:=tJ l (a+x.length);rw[fv,ek,List.count_cons];cases x with
  | nil=>simp at h⊢;omega
  | cons y b=>simp at h⊢;omega
def aBc(h:keys.Nodup):keys.length<=bD keys+1:=by
 have a:=tJ keys 0;have b:keys.count []<=1:=List.nodup_iff_count.1 h [];unfold bD;omega
def aDQ(w:V)(a:Option cr)(n c:Nat):ac T 213 #[bm #[I U 6,E H,I ah 0,"",I U 0,O a n c]] w λe w'=>e=af (E Q)/\ag w w w':=by
 have b:(((n:Nat):Int)==0)=Q\/(((n:Nat):Int)==0)=H:=by cases h:(((n:Nat):Int)==0)<;>simp
 rcases b with b|b
 all_goals
  go_enter func213,ntmps213;go_wp2;go_ret;exact⟨rfl,(bw _ _).alloc (aw _) _⟩
def mJ(w:V)(b:Nat)(f:Z)(a:List Z)(keys:List (List UInt8))(z:Sz)(w':V):Prop:=
 ∃(c:V)(R p:Nat)(d e:Z),ag w w c/\w.heap.size<=R/\c.heap[R]?=J (ae #[ar] 26 (0,0))/\w.heap.size<=p/\c.heap[p]?=J (ae #[z.g,z.bytes,z.h,d,e] 189 (0,0))/\
  Win 9 encS c d (dC keys)/\(∀q,d.ownBlock=J q->w.heap.size<=q)/\
  Win 97 id c e ((dC keys).map λk=>(a.drop (a.length-keys.length)).getD (keys.idxOf k) ar)/\(∀q,e.ownBlock=J q->w.heap.size<=q)/\
  aEK c b f a (a.length-keys.length) 187 (aj p) R w'
def mJ.M8{w w1 w':V}{b:Nat}{u:Z}{a:List Z}{z:Sz}(c:ag w w w1)(h:mJ w1 b u a keys z w'):mJ w b u a keys z w':=by
 obtain⟨f,R,p,t,m,j,g,o,i,l,r,k,n,s,d⟩:=h;exact⟨f,R,p,t,m,c.trans (j.mono c.size),ao c.size g,o,ao c.size i,l,r,λq e=>ao c.size (k q e),n,λq e=>ao c.size (s q e),d⟩
def aCb(w:V)(b:Nat)(d:Z)(c:List Z)(a:List Tr)(keys:List (List UInt8))(w':V):Prop:=
 (po a keys=a/\ag w w w')\/
  (keys.length<=c.length/\po a keys=a.take (c.length-keys.length)++ [dx (dC keys) (besides keys (a.drop (c.length-keys.length)))]/\
   mJ w b d c keys (dx (dC keys) (besides keys (a.drop (c.length-keys.length)))).A5 w')
def aIm(w:V)(F:Nat->Prop)(b n c:Nat)(a:Option cr)(D:Z)(g:List Z)(d:List Tr)(keys:List Oo)(x:w.heap[b]?=J (ae #[D] 195 (0,0)))(o:Win 97 id w D g)(r:eF F w g d)(i:∀t∈d,t.A5.A9=Q)(s:d.length<=65536)
 (j:Win 9 encS w (O a n c) keys)(u:keys= []->(O a n c)=O S 0 0)(l:bK keys)(h:keys.Nodup)(m:bD keys<=2097152):
 ac T 196 #[aj b,bm #[I U 6,E H,I ah 0,"",I U 0,O a n c]] w λe w'=>(∃v,e=af v)/\aCb w b D g d keys w':=by
 have HU:=A (λw=>aDQ w a n c);have HV:=A (λk(e:D.ownBlock=J k)=>o.lt e);have G:=cz x;have HO:=A (λw'(C:ag w w w')=>aFQ w' F b (O a n c) D g d keys (keep x C) (o.A2 (ba (λ_=>False) C) (λ_ _=>id)) (r.A2 (ba (λ_=>False) C) (λ_ _=>id)) i s (j.A2 (ba (λ_=>False) C) (λ_ _=>id)) u l h m (by have:=aBc h;omega));clear x o r i s j u l h m
 go_enter_defers func196,ntmps196
 go_wp2_with fail;refine(HU.o _).mono ?_;rintro e w1 ⟨rfl,h⟩;obtain⟨g1,l,j,g0⟩:=after2 h;obtain⟨W,X,Y,q3,q4,q5,qf⟩:=bJ g1;have L:=A l;have i:=A j;clear h g1 l j;go_wp2_with fail;refine(dT _ 2).mono ?_;rintro e w2 ⟨rfl,rfl⟩;go_wp2_with fail;refine(HO.o _ i.o).mono ?_;rintro e N o;rcases o with⟨no,rfl,j,h⟩|⟨rfl,s,j,r⟩
 .have l:=A (keep L.o h);have m:=A (chain i.o h);have u:=A j;clear h j W X Y q3 q4 q5 qf;go_wp2_with fail;refine ig (f:=211) (args:= #[aj (J ⟨w.heap.size+1,0,S⟩)]) (by simp) (by simp[go_sem]) ?_;refine(l4 ⟨w.heap.size+1,0,S⟩ ar no [] _ (ii l.o) (ij l.o)).mono ?_;rintro e u' P ⟨rfl,rfl,rfl⟩;have x:(N.setCell ⟨w.heap.size+1,0,S⟩ (ee 29 (I U no))).cell? ⟨w.heap.size+1,0,S⟩=J (ee 29 (I U no)):=by rw[aA (aB l.o _)];rfl
  have h:aCb w b D g d keys (N.setCell ⟨w.heap.size+1,0,S⟩ (ee 29 (I U no))):=K ⟨u.o,m.o.setCell (p:=⟨w.heap.size+1,0,S⟩) (gk _) _⟩;simp[Leaves,settle,ep,ik,go_sem,x];exact h
 .obtain⟨w4,p,KV,IV,l,hp,u,hk,x,hi,y,z⟩:=r;obtain⟨r0,rf,m,rc⟩:=jX.E9 (w:=w) (R:=w.heap.size+1) (gk _) (keep L.o l) HV.o G z ar
  have h:aCb w b D g d keys (N.setCell ⟨w.heap.size+1,0,S⟩ ar):=
   ai ⟨s,j,w4,_,p,KV,IV,chain i.o l,gk _,keep L.o l,ao i.o.size hp,u,hk,λq e=>ao i.o.size (x q e),hi,λq e=>ao i.o.size (y q e),m⟩
  have B:=A h;clear l hp u hk x hi y z m h j s W X Y q3 q4 q5 qf;go_wp2_with fail;refine ig (f:=211) (args:= #[aj (J ⟨w.heap.size+1,0,S⟩)]) (by simp) (by simp[go_sem]) ?_;refine(gF ⟨w.heap.size+1,0,S⟩ _).mono ?_;rintro e u' P ⟨rfl,rfl,rfl⟩;have h:=B.o;simp[Leaves,settle,ep,ik,go_sem,rc];exact h
def mJ.F4{F:Nat->Prop}{w w':V}{P:Z}{a:List Z}{b:List Tr}{z:Sz}(W:F n)(d:∀k,F k->k<w.heap.size)(X:eK F 97 id w P a)(ht:eF (λk=>F k/\k≠n/\P.ownBlock≠J k) w a b)
 (x:keys.length<=a.length)(hz:z=(dx (dC keys) (besides keys (b.drop (a.length-keys.length)))).A5)(L:mJ w n P a keys z w'):
 Keeps F w w'/\cN (Since F w w') w' n (b.take (a.length-keys.length)++ [dx (dC keys) (besides keys (b.drop (a.length-keys.length)))]):=by
 obtain⟨w4,R,p,KV,IV,N,hR,hr,hp,s,Y,g2,hi,g3,g,off,cap,h1,h2,y,B⟩:=L;have f:∀q,P.ownBlock=J q->q<w.heap.size:=λq e=>d q (X.2 q e)
 have hk:Keeps F w w':=(ba F N).trans B (λq e=>by
  rcases e with e|e|e
  .exact K (e▸W)
  .exact K (X.2 q e)
  .exact ai (e▸hR))
 have g9:=d n W
 have g4:¬(p=n\/P.ownBlock=J p\/p=R):=by
  rintro(e|e|e)
  .omega
  .have:=f p e;omega
  .rw[e,hr]at s;cases s
 have h:=B.B7 s g4
 have g5:g≠p:=λe=>by
  obtain⟨c,j⟩:=h2.E0 rfl;rw[e,h]at j;cases j
 have C:∀q,q<w4.heap.size->P.ownBlock≠J q->g≠q:=λq hq hn e=>by
  rcases y with y|y
  .exact hn (e▸y)
  .omega
 have g6:(a.drop (a.length-keys.length)).length=keys.length:=by rw[eo];omega
 refine⟨hk,K W,aF d hk.size,_,_,h1,⟨h2,?_⟩,?_⟩
 .intro q e;cases e;exact y.elim (λe=>K (X.2 _ e)) (λx=>ai ⟨ao N.size x,h2.lt rfl⟩)
 .have o:∀q,(F q/\q≠n/\P.ownBlock≠J q)->Since F w w' q/\q≠n/\(O (g,off) (a.length-keys.length+1) cap).ownBlock≠J q:=λq L=>⟨K L.1,L.2.1,λe=>by
   cases e;exact C g (dh (d g L.1) N.size) L.2.2 rfl⟩
  have D:=(ht.A2 (ba (λ_=>False) N) (λ_ _=>id)).A2 B (λq L=>by
   rintro(e|e|e)
   .exact L.2.1 e
   .exact L.2.2 e
   .have:=d q L.1;omega)
  have r:∀{a0:Type}{e:Nat}{enc:a0->Z}{v:Z}{l:List a0},26≠e->Win e enc w4 v l->(∀q,v.ownBlock=J q->w.heap.size<=q)->eK (λk=>Since F w w' k/\k≠n/\(O (g,off) (a.length-keys.length+1) cap).ownBlock≠J k) e enc w' v l:=by
   intro a0 e enc v l g7 m j;refine⟨m.A2 B ?_,?_⟩
   .intro q e;rintro(u|u|u)
    .have:=j q e;omega
    .have:=f q u;have:=j q e;omega
    .exact m.ne hr g7 (e.trans (congrArg J u))
   .intro q e;have G:=m.lt e;have hq:=j q e;exact⟨ai ⟨hq,dh G B.size⟩,by omega,λu=>C q G (λe3=>by have:=f q e3;omega) (by cases u;rfl)⟩
  refine eF.J8 ((D.take (a.length-keys.length)).mono o) ?_;subst hz;refine .object p KV IV ((dC keys).map λk=>(a.drop (a.length-keys.length)).getD (keys.idxOf k) ar) (dC keys) (besides keys (b.drop (a.length-keys.length))) ⟨ai ⟨hp,cz h⟩,by omega,λe=>g5 (by cases e;rfl)⟩ h (r (by decide) Y g2) (r (by decide) hi g3) (by unfold besides;simp) ?_;intro i v t m j;have G:=(D.G0 (a.length-keys.length)).mono o;unfold besides at j;rw[List.getElem?_map]at m j;cases u:(dC keys)[i]? with
  | none=>rw[u]at m;cases m
  | some k=>
   rw[u]at m j;simp only[Option.map_some,jf]at m j;have g7:k∈keys:=(fL keys).mem_iff.1 (il u);have g8:keys.idxOf k<keys.length:=List.idxOf_lt_length_of_mem g7
   have h5:(a.drop (a.length-keys.length))[keys.idxOf k]?=J v:=by
    rw[<-m,im,gl (by rw[g6];exact g8)];rfl
   have h6:(b.drop (a.length-keys.length))[keys.idxOf k]?=J t:=by
    rw[<-j,im,gl (by have:=G.1;omega)];rfl
   exact G.2 _ v t h5 h6
def aDR(w:V)(b n c:Nat)(a:Option cr)(r:Z)(h:w.heap[b]?=J (ae #[r] 195 (0,0)))(P:V->V->Prop)(i:M (∀w1,ag w w w1->ac T 196 #[aj b,bm #[I U 6,E H,I ah 0,"",I U 0,O a n c]] w1 λe w'=>(∃v,e=af v)/\P w1 w')):
 ac T 175 #[aj b,bm #[I U 6,E H,I ah 0,"",I U 0,O a n c]] w λe w'=>(∃v,e=af v)/\∃w1,ag w w w1/\P w1 w':=by
 have f:ag w w (w.alloc (ae #[I U 6,E H,I ah 0,"",I U 0,O a n c] 147)):=(bw _ _).alloc (aw _) _;obtain⟨k,l,q,m,p,o,-⟩:=bJ (gm w (ae #[I U 6,E H,I ah 0,"",I U 0,O a n c] 147));have d:=A f;clear f h;go_enter func175,ntmps175;go_wp2
 go_region_with (go_at_call 196;refine(i.o _ d.o.drew).mono ?_;rintro e w2 ⟨⟨v,rfl⟩,g⟩)
 all_goals
  have j:=A g;clear g;go_wp2;go_ret;exact⟨⟨_,rfl⟩,_,d.o.drew,j.o⟩
def aDS(w:V)(b n c:Nat)(a:Option cr)(j:Z)(h:w.heap[b]?=J (ae #[j] 195 (0,0)))(P:V->V->Prop)(f:M (∀w1,ag w w w1->ac T 196 #[aj b,bm #[I U 6,E H,I ah 0,"",I U 0,O a n c]] w1 λe w'=>(∃v,e=af v)/\P w1 w')):
 ac T 174 #[aj b,O a n c] w λe w'=>(∃v,e=af v)/\∃w1,ag w w w1/\P w1 w':=by
 have g:=A (aDR w b n c a j h P f);clear f h;go_enter func174,ntmps174;go_wp2_with fail;refine(g.o).mono ?_;rintro e w2 ⟨⟨v,rfl⟩,d⟩;have i:=A d;clear d;go_wp2;go_ret;exact⟨⟨_,rfl⟩,i.o⟩
def aCc(F:Nat->Prop)(w:V)(i n c:Nat)(a:Option cr)(b:List Tr)(keys:List Oo)(h:cN F w i b)(u:∀t∈b,t.A5.A9=Q)(X:b.length<=65536)
 (q:Win 9 encS w (O a n c) keys)(W:keys= []->(O a n c)=O S 0 0)(r:bK keys)(x:keys.Nodup)(p:bD keys<=2097152):
 ac T 174 #[aj i,O a n c] w λe w'=>(∃v,e=af v)/\Keeps F w w'/\cN (Since F w w') w' i (po b keys):=by
 have N:=h;obtain⟨R,m,Y,f,B,D,C⟩:=h;have j:∀w',ag w w w'->Keeps F w w'/\cN (Since F w w') w' i b:=λw' g=>⟨ba F g,(N.D8 (ba (λ_=>False) g) (λ_ _=>id)).mono (λk P=>K P) (aF m g.size)⟩
 have s:∀w1,ag w w w1->Win 97 id w1 Y f:=λw1 d=>D.1.A2 (ba (λ_=>False) d) (λ_ _=>id)
 refine(aDS w i n c a Y B (λw1 w'=>aCb w1 i Y f b keys w') (A λw1 d=>aIm w1 _ i n c a Y f b keys (keep B d) (s w1 d) (C.A2 (ba (λ_=>False) d) (λ_ _=>id)) u X (q.A2 (ba (λ_=>False) d) (λ_ _=>id)) W r x p)).mono ?_;rintro e w' ⟨G,w1,d,o⟩;rcases o with⟨l,y⟩|⟨z,l,L⟩
 .rw[l];exact⟨G,j _ (chain d y)⟩
 .rw[l];exact⟨G,(L.M8 d).F4 R m D C z rfl⟩
def aAu(w:V)(b:Nat)(a:UInt8)(d:aI a=Q):ac T 104 #[aj b,I au a.toNat] w λe w'=>e=af (I U 0)/\w'=w:=by
 have c:=A (iK a);rw[d]at c;clear d;go_enter di,dj;go_wp2_with fail;refine(c.o _).mono ?_;rintro e w1 ⟨rfl,rfl⟩;go_wp2;go_ret;exact⟨rfl,rfl⟩
def aFE(h:48<=c.toNat):aI c=H:=by
 have d:¬c=32:=by intro e;subst e;simp at h
 have a:¬c=9:=by intro e;subst e;simp at h
 have f:¬c=10:=by intro e;subst e;simp at h
 have b:¬c=13:=by intro e;subst e;simp at h
 simp[aI,d,a,f,b]
def eN(w:V)(b pl:Nat):V:=(((w.setCell ⟨b,4,S⟩ (E Q)).setCell ⟨b,5,S⟩ (I U pl)).setCell ⟨b,6,S⟩ (O S 0 0)).setCell ⟨b,7,S⟩ (I U 0)
def mG{w:V}{b:Nat}{l f g c r p n q m d e k j:Z}(h:w.heap[b]?=J (ae #[l,f,g,c,r,p,n,q,m,d,i,e,k,j] 228 (0,0))):
 (eN w b pl).heap[b]?=J (ae #[l,f,g,c,E Q,pl,(),I U 0,m,d,i,e,k,j] 228 (0,0)):=by
 have a:=aB (aB (aB (aB h (o:=4) (E Q)) (o:=5) (I U pl)) (o:=6) (O S 0 0)) (o:=7) (I U 0);simp only[fg,fh,fi]at a;exact a
def gD(w:V)(b pl:Nat):Keeps (λk=>k=b) w (eN w b pl):=
 ((((av (λk=>k=b) w).A3 (p:=⟨b,4,S⟩) (K rfl) _).A3 (p:=⟨b,5,S⟩) (K rfl) _).A3 (p:=⟨b,6,S⟩) (K rfl) _).A3 (p:=⟨b,7,S⟩) (K rfl) _
def iH(w:V)(b pl:Nat):(eN w b pl).heap.size=w.heap.size:=by simp[eN,bx]
def jQ.O6{w w':V}{b:Nat}{a t:Z}{toks:List Z}{c:Z->Array Z}(h:jQ (eN w b pl) b a toks t c v e w'):jQ w b a toks t c v e w':=by
 obtain⟨j,g,off,cap,f,m,d,l⟩:=h;refine⟨j,g,off,cap,f,m,?_,((gD w b pl).mono (λk i=>K i)).same l⟩;rw[iH]at d;exact d
def aB3(w:V)(b pl:Nat)(t u L N P R W x y z B C a:Z)(m:UInt8)(D:m=123\/m=125\/m=91\/m=93\/m=58\/m=44)(toks:List Z)(s:w.heap[b]?=J (ae #[pl,t,u,L,N,P,R,W,x,y,z,B,C,a] 228 (0,0)))
 (h:Win 232 id w a toks)(i:toks.length<=1000)(X:pl<=1073741823):
 ac T 104 #[aj b,I au m.toNat] w λe w'=>jQ w b a toks (bU (.mark pl m)) (λv=> #[pl,t,u,bh (bj 104) #[] #[],E H,pl,(),I U 0,x,y,z,B,C,v]) (I U 0) e w':=by
 obtain⟨c0,c1,c2,c3,c4,c5,c6,c7,c8,c9,ca,cb,cc,cd,cf⟩:=aN s;have j:=A (iK m);rw[show aI m=H by rcases D with rfl|rfl|rfl|rfl|rfl|rfl<;>rfl]at j;have c:=mG (pl:=pl) s;have l:=A (h.ne s (by decide));have f:=h.A2 (gD w b pl) (λk e Y=>l.o (e.trans (congrArg J Y)));have n:=A (rX (eN w b pl) b _ pl (pl+1) c rfl (by omega) (by omega));have F:=A (λw'(d:ag (eN w b pl).heap.size (eN w b pl) w')=>rY w' b _ _ _ _ _ _ _ _ _ _ _ _ _ a 238 (bm #[pl,I U 1,I au m.toNat]) toks (keep c d) (f.A2 (ba (λ_=>False) d) (λ_ _=>id)) i);rw[show pl+1-pl=1 by omega,show((pl+1:Nat):Int)=(pl:Int)+1 by omega]at n;unfold eN at n;rcases D with rfl|rfl|rfl|rfl|rfl|rfl
 all_goals
  clear s c h f;simp only[UInt8.reduceToNat,Int.cast_ofNat_Int]at j F⊢;go_enter di,dj;go_wp2_with fail;refine(j.o _).mono ?_;rintro e w1 ⟨rfl,rfl⟩;go_wp2_with fail;refine(n.o).mono ?_;rintro e w2 ⟨rfl,d⟩;have o:=A (F.o w2 d);have c:=A d;clear d;go_wp2_with fail;refine(o.o).mono ?_;rintro e w3 ⟨rfl,g,off,cap,G,d,f,h⟩;have H3:=A G;have p:=A d;have q:=A f;have r:=A h;clear G d f h;go_wp2;go_ret;exact jQ.O6 (pl:=pl) ⟨rfl,g,off,cap,H3.o,p.o,q.o.elim K (λs=>ai (ao c.o.size s)),(ba _ c.o).same r.o⟩
def aAv(w:V)(b pl:Nat)(r s v x y z B C D F G L t:Z)(j:w.heap[b]?=J (ae #[pl,r,s,v,x,y,z,B,C,D,F,G,L,t] 228 (0,0))):
 ac T 104 #[aj b,I au 34] w λe w'=>e=af (I U 0)/\∃f,w.heap.size<=f/\f<w'.heap.size/\w'.heap[b]?=J (ae #[pl,r,s,bh (bj 138) #[] #[],E Q,pl,(),I U 0,aj (J ⟨f,0,S⟩),(),I U 0,I bc 0,I bc 0,t] 228 (0,0))/\
  Feeds w' f 0 []/\Keeps (λk=>k=b) w w':=by
 obtain⟨N,c1,c2,P,R,W,X,Y,c8,c9,ca,cb,cc,cd,cf⟩:=aN j;have u:=A (iK 34);rw[show(((34:UInt8).toNat:Nat):Int)=34 from rfl,show aI 34=H from rfl]at u;have a:=mG (pl:=pl) j;have m:=A a;obtain⟨f,h⟩:∃f,w.heap.size=f:=⟨_,rfl⟩;have i:=newFeeder_any (eN w b pl);rw[iH,h]at i;have d:=A (iH w b pl);have g:=A h;have c:=cz j;rw[h]at c;have n:=A (gD w b pl);unfold eN at i;have HF:=A i;clear j a h i;go_enter di,dj;go_wp2_with fail;refine(u.o _).mono ?_;rintro e w1 ⟨rfl,rfl⟩;go_wp2_with fail;refine(HF.o).mono ?_;rintro e w2 ⟨rfl,h,i,-⟩;have a:ag (eN w1 b pl).heap.size (eN w1 b pl) w2:=by rw[d.o,g.o];exact i
 have j:=keep m.o a;obtain⟨-,-,-,d3,-,-,-,-,d8,d9,da,db,dc,-,df⟩:=aN j;have H2:=A j;have l:=A h;have o:=A a;have q:=A c;clear j h i a c N c1 c2 P R W X Y c8 c9 ca cb cc cd cf;go_wp2;go_ret;have a:f≠b:=by have:=q.o;omega
 have c:Keeps (λk=>k=b) w2 _:=((((((av (λk=>k=b) w2).A3 (p:=⟨b,8,S⟩) (K rfl) (aj (J ⟨f,0,S⟩))).A3 (p:=⟨b,9,S⟩) (K rfl) (O S 0 0)).A3 (p:=⟨b,10,S⟩) (K rfl) (I U 0)).A3 (p:=⟨b,11,S⟩) (K rfl) (I bc 0)).A3 (p:=⟨b,12,S⟩) (K rfl) (I bc 0)).A3 (p:=⟨b,3,S⟩) (K rfl) (bh (bj 138) #[] #[]);have h:f<w2.heap.size:=by obtain⟨_,i,a1,a2,a3,j,_⟩:=l.o;exact cz j
 exact⟨rfl,f,Nat.le_of_eq g.o,dh h c.size,aB (aB (aB (aB (aB (aB H2.o _) _) _) _) _) _,l.o.A2 c a,((n.o.A4 (by have:=o.o;rwa[d.o]at this)).same c)⟩
def aB4(w:V)(b pl:Nat)(B C v3 v4 v5 v6 v7 D F L N P R:Z)(a:UInt8)(f:a=110\/a=116\/a=102)(z:w.heap[b]?=J (ae #[pl,B,C,v3,v4,v5,v6,v7,D,F,L,N,P,R] 228 (0,0))):
 ac T 104 #[aj b,I au a.toNat] w λe w'=>oX w b (O S 0 0) [a] (λv=> #[pl,B,C,bh (bj 141) #[] #[],E Q,pl,v,I U 0,D,F,L,N,P,R]) e w':=by
 obtain⟨c0,c1,c2,c3,c4,c5,c6,c7,c8,c9,ca,cb,cc,cd,cf⟩:=aN z;have r:=A (iK a);rw[show aI a=H by rcases f with rfl|rfl|rfl<;>rfl]at r;obtain⟨W,X,Y⟩:=aD (c:=a) (d:=123) (n:=123) (by rintro rfl;revert f;decide) rfl;obtain⟨h2,h3,h4⟩:=aD (c:=a) (d:=125) (n:=125) (by rintro rfl;revert f;decide) rfl;obtain⟨h5,h6,h7⟩:=aD (c:=a) (d:=91) (n:=91) (by rintro rfl;revert f;decide) rfl;obtain⟨h8,h9,i0⟩:=aD (c:=a) (d:=93) (n:=93) (by rintro rfl;revert f;decide) rfl;obtain⟨i1,i2,i3⟩:=aD (c:=a) (d:=58) (n:=58) (by rintro rfl;revert f;decide) rfl;obtain⟨i4,i5,i6⟩:=aD (c:=a) (d:=44) (n:=44) (by rintro rfl;revert f;decide) rfl;obtain⟨i7,i8,i9⟩:=aD (c:=a) (d:=34) (n:=34) (by rintro rfl;revert f;decide) rfl;obtain⟨j0,j1,j2⟩:=aD (c:=a) (d:=45) (n:=45) (by rintro rfl;revert f;decide) rfl;have j3:(48:Int)<=(a.toNat:Int):=by rcases f with rfl|rfl|rfl<;>decide
 have j4:¬(a.toNat:Int)<=57:=by rcases f with rfl|rfl|rfl<;>decide
 have m:=A (lN a);obtain⟨s,h⟩:∃s:ByteArray,(⟨(aH a).toArray⟩:ByteArray)=s:=⟨_,rfl⟩;have j5:s.toList.isEmpty=H:=by rw[<-h,io];rcases f with rfl|rfl|rfl<;>decide
 have j6:(s==⟨#[]⟩)=H:=by rw[<-h];rcases f with rfl|rfl|rfl<;>decide
 have j7:(s !=⟨#[]⟩)=Q:=by rw[<-h];rcases f with rfl|rfl|rfl<;>decide
 rw[h]at m;have i:=mG (pl:=pl) z;have a0:=A i;have t:=A (gD w b pl);have u:=A (iH w b pl);have j8:=cz z;have HR:=A (show Win 5 bZ ((eN w b pl).alloc (ae #[bZ a] 5)) (O S 0 0) []from .nil _ _ _);unfold eN at HR;clear z i h f;go_enter di,dj;go_wp2_with fail;refine(r.o _).mono ?_;rintro e w1 ⟨rfl,rfl⟩;go_wp2_with fail;refine(m.o _).mono ?_;rintro e w1 ⟨rfl,rfl⟩
 go_wp2_with (at_builtin;refine dE nY rfl _ _ rfl rfl HR.o w1 1 a rfl ?_ rfl ?_ ?_ ?_)
 .exact fQ (iH w1 b pl).symm
 .first|decide|simp
 .first|decide|simp[maxLen]
 intro g off cap w' h j l;have i:=(l.block b (by rw[World.size_alloc];have:=u.o;unfold eN at this;omega) (λe=>by cases e)).trans ((ie _ _ _ (cz a0.o)).trans a0.o);have x:=A (h.ne i (by decide));have o:w1.heap.size<=g:=j.elim (λe=>by cases e) (λz=>ao (by simp[bx]) z.1);have y:=A o;have HK:=A (((t.o.mono (G:=λk=>k=b\/(O S 0 0).ownBlock=J k) (λk f=>K f)).A6 (ae #[bZ a] 5)).D7 l (λk e=>by cases e));have q:=A h;obtain⟨-,-,-,d3,-,-,d6,-,-,-,-,-,-,-,df⟩:=aN i;have r:=A i;clear i h o j l c0 c1 c2 c3 c4 c5 c6 c7 c8 c9 ca cb cc cd cf;go_wp2;go_ret;refine⟨rfl,g,off,cap,?_,?_,ai y.o,(HK.o.A3 (p:=⟨b,6,S⟩) (K (K rfl)) _).A3 (p:=⟨b,3,S⟩) (K (K rfl)) _⟩
 .exact aB (aB r.o _) _
 .exact q.o.A2 (((av (λk=>k=b) w').A3 (p:=⟨b,6,S⟩) (K rfl) _).A3 (p:=⟨b,3,S⟩) (K rfl) _) (λk e f=>x.o (e.trans (congrArg J f)))
def aAw(w:V)(b pl f:Nat)(m n C D F G L q r s t u x:Z)(y:w.heap[b]?=J (ae #[pl,m,n,C,D,F,G,L,q,r,s,t,u,x] 228 (0,0)))(i:aR 0 45=J f):
 ac T 104 #[aj b,I au 45] w λe w'=>oX w b (O S 0 0) [45] (λv=> #[pl,m,n,bh (bj 139) #[] #[],E Q,pl,v,f,q,r,s,t,u,x]) e w':=by
 obtain⟨W,c1,c2,X,Y,c5,c6,c7,c8,c9,ca,cb,cc,cd,cf⟩:=aN y;have z:=A (iK 45);rw[show(((45:UInt8).toNat:Nat):Int)=45 from rfl,show aI 45=H from rfl]at z;have c:=mG (pl:=pl) y;have a:=aB c (o:=3) (bh (bj 139) #[] #[]);simp only[fg,fh,fi]at a;have d:=rE _ b 0 f _ _ _ _ _ _ _ _ _ _ _ _ (O S 0 0) 45 [] a (by decide) i (.nil _ _ _) (by decide);simp only[ip,iq]at d;rw[show(((45:UInt8).toNat:Nat):Int)=45 from rfl]at d;have h:=A ((gD w b pl).A3 (p:=⟨b,3,S⟩) (K rfl) (bh (bj 139) #[] #[]));have N:=A (iH w b pl);unfold eN at d;have P:=A d;clear y c a d i;go_enter di,dj;go_wp2_with fail;refine(z.o _).mono ?_;rintro e w1 ⟨rfl,rfl⟩;go_wp2_with fail;refine(P.o).mono ?_;rintro e w2 ⟨rfl,g,off,cap,B,a,c,d⟩;have R:=A B;have i:=A a;have j:=A c;have l:=A d;clear B a c d;go_wp2;go_ret;refine⟨rfl,g,off,cap,R.o,i.o,j.o.elim K (λy=>ai (ao (by simp[bx]) y)),(h.o.mono (λk a=>K a)).same l.o⟩
def aB5(w:V)(b pl m:Nat)(s t Y v4 v5 v6 v7 u x y z B C:Z)(h:UInt8)(D:w.heap[b]?=J (ae #[pl,s,t,Y,v4,v5,v6,v7,u,x,y,z,B,C] 228 (0,0)))(a:48<=h.toNat)(f:h.toNat<=57)(r:aR 0 h=J m):
 ac T 104 #[aj b,I au h.toNat] w λe w'=>oX w b (O S 0 0) [h] (λv=> #[pl,s,t,bh (bj 139) #[] #[],E Q,pl,v,m,u,x,y,z,B,C]) e w':=by
 obtain⟨c0,c1,c2,c3,c4,c5,c6,c7,c8,c9,ca,cb,cc,cd,cf⟩:=aN D;have F:=A (iK h);rw[aFE a]at F;obtain⟨G,L,N⟩:=aD (c:=h) (d:=123) (n:=123) (by intro e;subst e;simp at a f) rfl;obtain⟨P,R,W⟩:=aD (c:=h) (d:=125) (n:=125) (by intro e;subst e;simp at a f) rfl;obtain⟨h0,h1,h3⟩:=aD (c:=h) (d:=91) (n:=91) (by intro e;subst e;simp at a f) rfl;obtain⟨h4,h5,h6⟩:=aD (c:=h) (d:=93) (n:=93) (by intro e;subst e;simp at a f) rfl;obtain⟨h7,h8,h9⟩:=aD (c:=h) (d:=58) (n:=58) (by intro e;subst e;simp at a f) rfl;obtain⟨i0,i1,i2⟩:=aD (c:=h) (d:=44) (n:=44) (by intro e;subst e;simp at a f) rfl;obtain⟨i3,i4,i5⟩:=aD (c:=h) (d:=34) (n:=34) (by intro e;subst e;simp at a f) rfl;obtain⟨-,i6,-⟩:=aD (c:=h) (d:=45) (n:=45) (by intro e;subst e;simp at a f) rfl;have i7:(48:Int)<=(h.toNat:Int):=by omega
 have i8:(h.toNat:Int)<=57:=by omega
 have j:=mG (pl:=pl) D;have i:=aB j (o:=3) (bh (bj 139) #[] #[]);simp only[fg,fh,fi]at i;have l:=rE _ b 0 m _ _ _ _ _ _ _ _ _ _ _ _ (O S 0 0) h [] i (by decide) r (.nil _ _ _) (by decide);simp only[ip,iq]at l;clear a f;have q:=A ((gD w b pl).A3 (p:=⟨b,3,S⟩) (K rfl) (bh (bj 139) #[] #[]));have i9:=A (iH w b pl);unfold eN at l;have HN:=A l;clear D j i l r;go_enter di,dj;go_wp2_with fail;refine(F.o _).mono ?_;rintro e w1 ⟨rfl,rfl⟩;go_wp2_with fail;refine(HN.o).mono ?_;rintro e w2 ⟨rfl,g,off,cap,X,a,f,i⟩;have H2:=A X;have j:=A a;have l:=A f;have r:=A i;clear X a f i;go_wp2;go_ret;refine⟨rfl,g,off,cap,H2.o,j.o,l.o.elim K (λD=>ai (ao (by simp[bx]) D)),(q.o.mono (λk a=>K a)).same r.o⟩
def zD(w:V)(b pl:Nat)(t u v x y z B C D F G L N:Z)(f:UInt8)(a0:w.heap[b]?=J (ae #[pl,t,u,v,x,y,z,B,C,D,F,G,L,N] 228 (0,0)))(k:aI f=H)(g:aY f=H)(h:f≠34)(a:f≠45)(P:f.toNat<48)(i:aH f= []):
 ac T 104 #[aj b,I au f.toNat] w λe w'=>e=af (I U 94)/\w'=eN w b pl:=by
 obtain⟨c0,c1,c2,c3,c4,c5,c6,c7,c8,c9,ca,cb,cc,cd,cf⟩:=aN a0;have l:=A (iK f);rw[k]at l;have j:=A (lN f);rw[i]at j;obtain⟨m,o,p⟩:=aD (c:=f) (d:=123) (n:=123) (by intro e;subst e;simp[aY]at g h a) rfl;obtain⟨q,r,s⟩:=aD (c:=f) (d:=125) (n:=125) (by intro e;subst e;simp[aY]at g h a) rfl;obtain⟨R,W,X⟩:=aD (c:=f) (d:=91) (n:=91) (by intro e;subst e;simp[aY]at g h a) rfl;obtain⟨Y,h0,h1⟩:=aD (c:=f) (d:=93) (n:=93) (by intro e;subst e;simp[aY]at g h a) rfl;obtain⟨h2,h3,h4⟩:=aD (c:=f) (d:=58) (n:=58) (by intro e;subst e;simp[aY]at g h a) rfl;obtain⟨h5,h6,h7⟩:=aD (c:=f) (d:=44) (n:=44) (by intro e;subst e;simp[aY]at g h a) rfl;obtain⟨h8,h9,i0⟩:=aD (c:=f) (d:=34) (n:=34) (by intro e;subst e;simp[aY]at g h a) rfl;obtain⟨-,i1,-⟩:=aD (c:=f) (d:=45) (n:=45) (by intro e;subst e;simp[aY]at g h a) rfl;have i2:¬(48:Int)<=(f.toNat:Int):=by omega
 clear a0 k g h a P i;go_enter di,dj;go_wp2_with fail;refine(l.o _).mono ?_;rintro e w1 ⟨rfl,rfl⟩;go_wp2_with fail;refine(j.o _).mono ?_;rintro e w1 ⟨rfl,rfl⟩;go_wp2;go_ret;exact⟨rfl,rfl⟩
def aAx(w:V)(b pl:Nat)(t u v x y z B C D F G L N:Z)(a:UInt8)(a0:w.heap[b]?=J (ae #[pl,t,u,v,x,y,z,B,C,D,F,G,L,N] 228 (0,0)))(k:aI a=H)(g:aY a=H)(h:a≠34)(f:a≠45)(P:57<a.toNat)(i:aH a= []):
 ac T 104 #[aj b,I au a.toNat] w λe w'=>e=af (I U 94)/\w'=eN w b pl:=by
 obtain⟨c0,c1,c2,c3,c4,c5,c6,c7,c8,c9,ca,cb,cc,cd,cf⟩:=aN a0;have l:=A (iK a);rw[k]at l;have j:=A (lN a);rw[i]at j;obtain⟨m,o,p⟩:=aD (c:=a) (d:=123) (n:=123) (by intro e;subst e;simp[aY]at g h f) rfl;obtain⟨q,r,s⟩:=aD (c:=a) (d:=125) (n:=125) (by intro e;subst e;simp[aY]at g h f) rfl;obtain⟨R,W,X⟩:=aD (c:=a) (d:=91) (n:=91) (by intro e;subst e;simp[aY]at g h f) rfl;obtain⟨Y,h0,h1⟩:=aD (c:=a) (d:=93) (n:=93) (by intro e;subst e;simp[aY]at g h f) rfl;obtain⟨h2,h3,h4⟩:=aD (c:=a) (d:=58) (n:=58) (by intro e;subst e;simp[aY]at g h f) rfl;obtain⟨h5,h6,h7⟩:=aD (c:=a) (d:=44) (n:=44) (by intro e;subst e;simp[aY]at g h f) rfl;obtain⟨h8,h9,i0⟩:=aD (c:=a) (d:=34) (n:=34) (by intro e;subst e;simp[aY]at g h f) rfl;obtain⟨-,i1,-⟩:=aD (c:=a) (d:=45) (n:=45) (by intro e;subst e;simp[aY]at g h f) rfl;have i2:(48:Int)<=(a.toNat:Int):=by omega
 have i3:¬(a.toNat:Int)<=57:=by omega
 clear a0 k g h f P i;go_enter di,dj;go_wp2_with fail;refine(l.o _).mono ?_;rintro e w1 ⟨rfl,rfl⟩;go_wp2_with fail;refine(j.o _).mono ?_;rintro e w1 ⟨rfl,rfl⟩;go_wp2;go_ret;exact⟨rfl,rfl⟩
section
section
variable {F G:Nat->Prop} {w w':V} {b:Nat} {x:Lx} {dn:Bool} {toks:List Tok}
def cG.mono(h:cG F w b x dn toks)(g:∀k,F k->G k)(e:∀k,G k->k<w.heap.size):cG G w b x dn toks:=by
 obtain⟨j,_,d,f,a,c,i,l,m⟩:=h;exact⟨g _ j,e,d,f,a,c,i,l.mono g,m.mono g⟩
def dU.mono{a:Z}(h:dU F w b pl f a toks)(e:∀k,F k->G k)(d:∀k,G k->k<w.heap.size):dU G w b pl f a toks:=by
 obtain⟨o,_,q,g,s,i,n,u,j,r,m,t,c,l,p⟩:=h;exact⟨e _ o,d,q,g,s,i,n,u,j,r,m,t,c,l,p.mono e⟩
def cG.Q4(h:cG F w b x dn toks):dU F w b x.c x.a ar toks:=by
 obtain⟨j,c,e,g,d,a,i,f,-⟩:=h;exact⟨j,c,_,_,_,_,_,_,_,_,_,_,a,i,f⟩
def cG.lt(h:cG F w b x dn toks):∀k,F k->k<w.heap.size:=h.2.1
end
def eV(F:Nat->Prop)(w:V)(b:Nat)(pl:Nat)(toks:List Tok)(r:nH)(e:cw)(w':V):Prop:=
 e=af (I U r.b)/\Keeps F w w'/\(r.b=0->cG (Since F w w') w' b r.c H (toks++r.a))/\(r.b≠0->dU (Since F w w') w' b pl r.c.a ar (toks++r.a))
def eV.J9{F:Nat->Prop}{w w':V}{b:Nat}{toks:List Tok}{y:Lx}{a:List Tok}(d:e=af (I U 0))(c:Keeps F w w')(h:cG (Since F w w') w' b y H (toks++a)):eV F w b pl toks ⟨y,a,0⟩ e w':=
 ⟨d,c,λ_=>h,λf=>absurd rfl f⟩
def eV.Q2{F:Nat->Prop}{w w':V}{b no:Nat}{toks:List Tok}{y:Lx}{c:List Tok}(a:no≠0)(f:e=af (I U no))(d:Keeps F w w')(h:dU (Since F w w') w' b pl y.a ar (toks++c)):eV F w b pl toks ⟨y,c,no⟩ e w':=
 ⟨f,d,λg=>absurd g a,λ_=>h⟩
def aB6{F:Nat->Prop}{w w':V}{b:Nat}{d t:Z}{toks:List Tok}{tok:Tok}{y:Lx}{m a:Z}(s:F b)(o:∀k,F k->k<w.heap.size)(x:eK F 232 id w d (toks.map bU))(z:t=bU tok)(j:y.j=.outside){c:Z->Array Z}
 (G:∀u,c u= #[I U y.c,ar,E H,bh (bj 104) #[] #[],E y.e,I U y.a,i,I U y.number,m,a,I U y.b,I bc y.code,I bc y.h,u])
 (h:jQ w b d (toks.map bU) t c v e w'):e=af v/\Keeps F w w'/\cG (Since F w w') w' b y H (toks++ [tok]):=by
 obtain⟨D,g,off,cap,B,f,C,p⟩:=h;have l:Keeps F w w':=p.mono λk p=>p.elim (λe=>e▸s) (λe=>x.2 k e)
 refine⟨D,l,K s,aF o l.size,i,m,a,_,by rw[B,G,j];rfl,⟨?_,?_⟩,⟨λn=>?_,λn=>?_⟩⟩
 .rw[ir,fu,List.map_nil,<-z];exact f
 .intro k q;cases q;exact C.elim (λe=>K (x.2 _ e)) (λr=>ai ⟨r,f.lt rfl⟩)
 .rw[j]at n;exact absurd n (by decide)
 .rw[j]at n;exact absurd n (by decide)
def aB7{F:Nat->Prop}{w w':V}{b:Nat}{a:Z}{toks:List Tok}{y:Lx}{p f:Z}(C:F b)(r:∀k,F k->k<w.heap.size)(t:eK F 232 id w a (toks.map bU))(D:∀k,i.ownBlock=J k->F k)(j:y.j=.letter\/y.j=.numeral)(P:y.g=l){c:Z->Array Z}
 (s:∃B,w.heap[b]?=J (ae B 228 (0,0)))(x:∀k,i.ownBlock=J k->a.ownBlock≠J k)
 (W:∀u,c u= #[I U y.c,ar,E H,bh (bj (qJ y.j)) #[] #[],E y.e,I U y.a,u,I U y.number,p,f,I U y.b,I bc y.code,I bc y.h,a])
 (h:oX w b i l c e w'):e=af (I U 0)/\Keeps F w w'/\cG (Since F w w') w' b y H toks:=by
 obtain⟨R,g,off,cap,L,m,N,q⟩:=h;have o:Keeps F w w':=q.mono λk q=>q.elim (λe=>e▸C) (λe=>D k e)
 obtain⟨B,v⟩:=s;refine⟨R,o,K C,aF r o.size,_,p,f,a,by rw[L,W],⟨t.1.A2 q ?_,λk d=>K (t.2 k d)⟩,⟨λ_=>⟨by rw[P];exact m,?_⟩,λG=>?_⟩⟩
 .intro k d n;rcases n with rfl|n
  .exact t.1.ne v (by decide) d
  .exact x k n d
 .intro k d;cases d;exact N.elim (λe=>K (D _ e)) (λz=>ai ⟨z,m.lt rfl⟩)
 .rcases j with j|j<;>(rw[j]at G;exact absurd G (by decide))
def aFH(h:aH c≠ []):c=110\/c=116\/c=102:=by
 unfold aH at h;split at h
 .exact K ‹_›
 .split at h
  .exact ai (K ‹_›)
  .split at h
   .exact ai (ai ‹_›)
   .exact absurd rfl h
def aFI(h:aY c=Q):c=123\/c=125\/c=91\/c=93\/c=58\/c=44:=by
 simpa[aY,or_assoc]using h
def tH(F:Nat->Prop)(w:V)(b:Nat)(x:Lx)(toks:List Tok)(c:UInt8)(a0:cG F w b x H toks)(Y:x.j=.outside)(g0:x.c<=16777216)(R:toks.length<=1000):
 ac T 104 #[aj b,I au c.toNat] w λe w'=>eV F w b x.c toks (aP x c) e w':=by
 have h0:=a0;obtain⟨t,j,W,z,h,a,l,q,X⟩:=a0;have B:(toks.map bU).length<=1000:=by simpa using R
 unfold aP
 by_cases m:aI c=Q
 .rw[if_pos m];refine(aAu w b c m).mono ?_;rintro e w' ⟨rfl,rfl⟩;exact .J9 rfl (av _ _) (by rw[dp];exact h0.mono (λk g=>K g) (aF j (aw _)))
 rw[if_neg m];simp only[]
 by_cases N:aY c=Q
 .rw[if_pos N]
  have i:ac T 104 #[aj b,I au c.toNat] w λe w'=>jQ w b a (toks.map bU) (bU (.mark x.c c)) (λv=> #[x.c,ar,E H,bh (bj 104) #[] #[],E H,x.c,(),I U 0,z,h,x.b,I bc x.code,I bc x.h,v]) (I U 0) e w':=by
   exact aB3 w b x.c _ _ _ _ _ _ _ _ _ _ _ _ a c (aFI N) _ l q.1 B (by omega)
  refine i.mono λe w' s=>?_
  obtain⟨C,g,D⟩:=aB6 (y:=Lx.E2 {x with e:=Q,a:=x.c,g:= [],number:=0}) (tok:=.mark x.c c) t j q rfl rfl (λu=>rfl) s;exact .J9 C g D
 rw[if_neg N]
 by_cases L:c=34
 .rw[if_pos L];subst L;refine(aAv w b x.c _ _ _ _ _ _ _ _ _ _ _ _ a l).mono ?_;rintro e w' ⟨rfl,f,d,n,o,p,g⟩;have r:Keeps F w w':=g.mono (λk e=>e▸t);exact .J9 rfl r ⟨K t,aF j g.size,_,_,_,a,o,by rw[dp];exact q.A2 (G:=λk=>k=b) g (λk e g=>q.1.ne l (by decide) (e.trans (congrArg J g))),⟨λX=>absurd X (by simp),λ_=>⟨.nil _ _ _ _,f,0,rfl,p,ai ⟨d,n⟩,ej _⟩⟩⟩
 rw[if_neg L]
 by_cases d:c=45\/isD c=Q
 .rw[if_pos d]
  obtain⟨r,p⟩:∃r,aR 0 c=J r:=by
   rcases d with rfl|P
   .exact⟨1,rfl⟩
   .by_cases n:c=48
    .subst n;exact⟨2,rfl⟩
    .have o:c≠45:=by intro e;subst e;exact absurd P (by decide)
     exact⟨3,by simp[aR,n,o,P]⟩
  unfold kX;rw[p]
  have i:ac T 104 #[aj b,I au c.toNat] w λe w'=>oX w b (O S 0 0) [c] (λv=> #[x.c,ar,E H,bh (bj 139) #[] #[],E Q,x.c,v,I U r,z,h,x.b,I bc x.code,I bc x.h,a]) e w':=by
   rcases d with rfl|P
   .exact aAw w b x.c r _ _ _ _ _ _ _ _ _ _ _ _ _ l p
   .have:48<=c.toNat/\c.toNat<=57:=by simpa[isD]using P
    exact aB5 w b x.c r _ _ _ _ _ _ _ _ _ _ _ _ _ c l this.1 this.2 p
  refine i.mono λe w' s=>?_
  obtain⟨C,g,D⟩:=aB7 (y:={x with e:=Q,a:=x.c,j:=.numeral,number:=r,g:= [c]}) t j q (λk e=>by cases e) (ai rfl) rfl ⟨_,l⟩ (λk e=>by cases e) (λu=>rfl) s;exact .J9 C g (by rw[dp];exact D)
 rw[if_neg d]
 by_cases p:aH c≠ []
 .rw[if_pos p]
  have i:ac T 104 #[aj b,I au c.toNat] w λe w'=>oX w b (O S 0 0) [c] (λv=> #[x.c,ar,E H,bh (bj 141) #[] #[],E Q,x.c,v,I U 0,z,h,x.b,I bc x.code,I bc x.h,a]) e w':=by
   exact aB4 w b x.c _ _ _ _ _ _ _ _ _ _ _ _ _ c (aFH p) l
  refine i.mono λe w' s=>?_
  obtain⟨C,g,D⟩:=aB7 (y:={x with e:=Q,a:=x.c,number:=0,j:=.letter,g:= [c]}) t j q (λk e=>by cases e) (K rfl) rfl ⟨_,l⟩ (λk e=>by cases e) (λu=>rfl) s;exact .J9 C g (by rw[dp];exact D)
 rw[if_neg p];have r:aH c= []:=by simpa using p
 have s:aI c=H:=by simpa using m
 have C:aY c=H:=by simpa using N
 have o:c≠45:=λe=>d (K e)
 have i:ac T 104 #[aj b,I au c.toNat] w λe w'=>e=af (I U 94)/\w'=eN w b x.c:=by
  by_cases n:c.toNat<48
  .exact zD w b x.c _ _ _ _ _ _ _ _ _ _ _ _ _ c l s C L o n r
  .have D:57<c.toNat:=by
    apply Nat.lt_of_not_le;intro P;exact d (ai (by simp[isD];omega))
   exact aAx w b x.c _ _ _ _ _ _ _ _ _ _ _ _ _ c l s C L o D r
 refine i.mono ?_;rintro e w' ⟨rfl,rfl⟩;have g:Keeps (λk=>k=b) w (eN w b x.c):=gD w b x.c;exact .Q2 (by decide) rfl (g.mono (λk e=>e▸t)) ⟨K t,aF j g.size,_,_,_,_,_,_,_,_,_,_,a,mG l,by rw[dp];exact q.A2 (G:=λk=>k=b) g (λk e g=>q.1.ne l (by decide) (e.trans (congrArg J g)))⟩
end
def rH(l:List UInt8):Prop:=∀x∈l,48<=x.toNat/\x.toNat<=57
def aIy(l:Oo):bO (dq l 48)=bO l:=by
 unfold dq
 induction l with
 | nil=>rfl
 | cons x l a=>
  by_cases h:x=48
  .subst h;rw[List.dropWhile_cons_of_pos (by simp),a];exact(aEv 1 l).symm
  .rw[List.dropWhile_cons_of_neg (by simpa using h)]
def aKB(l:Oo):∀x∈dq l 48,x∈l:=λ_ a=>(it _).subset a
def aKC(l:Oo):(dq l 48).length<=l.length:=(it _).length_le
def aCe(n:Nat):10^(3*n)<=2^(10*n):=by
 rw[iu,iu];exact Nat.pow_le_pow_left (by decide) n
def aLF{m k:Nat}(h:n<2^m)(a:m<=k):gn n<=k:=by
 rw[Lim.bitlen_le];exact dh h (fj (by decide) a)
def aIz(h:l.length<=2400)(b:∀x∈l,x.toNat<=57):gn (bO l)<=8192:=by
 obtain⟨m,c,a⟩:∃m:Nat,l.length<=3*m/\10*m<=8192:=⟨800,h,by decide⟩;exact aLF (dh (kH b) (ao (fj (by decide) c) (aCe m))) a
def uT(s:ByteArray)(w:V)(c:rH s.data.toList)(g8:s.size≠0)(hl:s.size<=2400):
 ac T 230 #[s] w λe w'=>pB w (bO s.data.toList) ar e w':=by
 have a:s.data.toList.length=s.size:=dt;have HD:=A c;clear c;go_enter func230,ntmps230;go_wp2_with fail
 go_loop [12] (λi=>∃k:Nat,k<=s.size/\i=I U k) (λi=>s.size-(bu i).toNat)
 case atStart=>exact⟨0,by omega,rfl⟩
 case round=>
  obtain⟨k,hk,rfl⟩:=hrel
  by_cases j:k<s.size
  .obtain⟨c,f⟩:=HD.o s[k] (iv j);have g:¬((s[k].toNat:Nat):Int)<48:=by omega
   have h:¬(57:Int)<((s[k].toNat:Nat):Int):=by omega
   go_wp2_with fail;refine⟨⟨k+1,by omega,by go_num⟩,by simp[bu];omega⟩
  .have g:s.toList.isEmpty=H:=by
    rw[io];cases c:s.data.toList with
    | nil=>rw[c]at a;exact absurd a.symm g8
    | cons x r=>rfl
   have g9:=A a;clear a;go_wp2_with fail;refine(Tryz.D5 s 48 (by decide) _).mono ?_;rintro e w1 ⟨rfl,rfl⟩;have a:rH (dq s.data.toList 48):=λx f=>HD.o x (aKB _ x f)
   have h:(dq s.data.toList 48).length<=2400:=ao (aKC _) (by have:=g9.o;omega);have c:=aIy s.data.toList;generalize dq s.data.toList 48=a0 at*;have N:=A c;have p:=A a;clear c a g;obtain⟨t,g⟩:∃t:ByteArray,(⟨a0.toArray⟩:ByteArray)=t:=⟨_,rfl⟩;have a:t.data.toList=a0:=by rw[<-g]
   have c:t.size=a0.length:=by rw[<-g];rfl
   rw[g];have h0:=A a;clear g a;have a:¬(2500:Int)<(t.size:Int):=by omega
   go_wp2_with fail;have h5:t.size<=2400:=by omega
   have P:=A c;clear c h a;have a:=gm w (ae #[()] 381);have R:=A a;clear a
   go_loopw [0,5] (λd v wr=>∃(L:Oo)(a:ByteArray)(r:List Nat),d=ak a/\M (a0=L++a.data.toList)/\a.size<=2400/\Wds wr v r/\Lim.Small r/\M (iw r=bO L)/\r.length<=L.length/\M (ag w w wr)/\
    M (wr.heap[w.heap.size]?=J (ae #[()] 381 (0,0)))) (λd _ _=>match d with| .string b=>b.size|_=>0)
   case atStart=>exact⟨[],t,[],rfl,A (by rw[h0.o];rfl),h5,Wds.nil _,(λx f=>by cases f),A rfl,aw _,A ((bw _ _).alloc (aw _) _),R⟩
   case round=>
    obtain⟨L,a,r,rfl,G,i1,hw,W,u,i0,y,X⟩:=hrel
    by_cases B:a.size=0
    .have D:¬(0:Int)<(a.size:Int):=by omega
     go_wp2_with fail
     have g:bO a0=bO L:=by
      have:a.data.toList= []:=eh (by rw[dt];exact B);rw[G.o,this,dp]
     have c:gn (bO a0)<=8192:=aIz (by have:=P.o;omega) (λx f=>(p.o x f).2);have HV:=A (show iw r=bO s.data.toList by rw[u.o,<-g,N.o]);rw[N.o]at c;have Y:=A c;clear g c;refine(jW _ r _ W hw).mono ?_;rintro e w2 ⟨a2,k2,c2,rfl,h,g⟩;have m:=A (keep X.o g);have o:=A (chain y.o g);rw[HV.o]at h;have C:=A h;clear h g;go_wp2_with fail;refine(nQ a2 k2 c2 (bO s.data.toList) _ C.o (ao (Lim.short (k:=128) Y.o) (by decide))).mono ?_;rintro e w3 ⟨a3,k3,c3,rfl,q,z⟩;have c:=A (keep m.o z);have F:=A (chain o.o z);rw[wR Y.o]at q;rw[aCw Y.o];have g4:=A q;clear q z;have q:=ii c.o;have z:=ij c.o;go_wp2_with fail;exact go (v:=.tuple #[bm #[O a3 k3 c3],ar]) (by simp[ep,results230,go_sem,q]) rfl ⟨a3,k3,c3,rfl,g4.o.B5 c.o (by decide) _ _,F.o.setCell (aw _) _⟩
    .have D:(0:Int)<(a.size:Int):=by omega
     obtain⟨k,hk⟩:∃k:Nat,min 18 a.size=k:=⟨_,rfl⟩;have h6:k<=18:=by omega
     have j:k<=a.size:=by omega
     have i2:1<=k:=by omega
     have i3:min (18:Int) (a.size:Int)=(k:Int):=by omega
     clear hk;go_wp2_with fail;clear B D
     go_loop [49,7,8] (λi x q=>∃n:Nat,n<=k/\i=I U n/\x=I ah (bO (a.data.toList.take n):Nat)/\q=I ah (10^n:Nat)) (λi _ _=>k-(bu i).toNat)
     case atStart=>exact⟨0,by omega,rfl,rfl,rfl⟩
     case round=>
      obtain⟨n,hn,rfl,rfl,rfl⟩:=hrel
      by_cases i4:n<k
      .have D:n<a.size:=by omega
       have g6:=p.o a[n] (by rw[G.o];exact gp _ (iv D))
       have c:bO (a.data.toList.take (n+1))=10*bO (a.data.toList.take n)+(a[n].toNat-48):=by
        rw[List.take_succ,gl (by rw[dt];exact D)];exact tP _ _
       have F:bO (a.data.toList.take n)<10^n:=by
        have:=kH (l:=a.data.toList.take n) (λx f=>(p.o x (by rw[G.o];exact gp _ (gq f))).2)
        rwa[ct,et (by rw[dt];exact Nat.le_of_lt D)]at this
       have Y:10^n<=10^17:=fj (by decide) (by omega);have g4:10^(n+1)=10^n*10:=Nat.pow_succ 10 n;have z:(((10^(n+1):Nat)):Int)=((10^n:Nat):Int)*10:=by rw[g4];omega
       have B:((bO (a.data.toList.take (n+1)):Nat):Int)=10*((bO (a.data.toList.take n):Nat):Int)+(((a[n].toNat:Nat):Int)-48):=by rw[c];omega
       have g5:=A B;have g7:=A z;clear c B g4 z;have c:(10:Nat)^17=100000000000000000:=by decide
       rw[c]at Y;clear c;obtain⟨x,f⟩:∃x,bO (a.data.toList.take n)=x:=⟨_,rfl⟩;obtain⟨q,c⟩:∃x,10^n=x:=⟨_,rfl⟩;rw[f,c]at F;rw[c]at Y;simp only[f,c]at*;clear f c;obtain⟨dg,z⟩:∃d,a[n].toNat=d:=⟨_,rfl⟩;simp only[z]at g6 g5;go_wp2_with fail;refine⟨⟨n+1,by omega,by go_num,congrArg (I ah) g5.o.symm,congrArg (I ah) g7.o.symm⟩,by simp[bu];omega⟩
      .have B:n=k:=by omega
       subst B
       have F:bO (a.data.toList.take n)<10^n:=by
        have:=kH (l:=a.data.toList.take n) (λx f=>(p.o x (by rw[G.o];exact gp _ (gq f))).2)
        rwa[ct,et (by rw[dt];exact j)]at this
       have Y:10^n<=10^18:=fj (by decide) h6;have z:(10:Nat)^18=1000000000000000000:=by decide
       rw[z]at Y
       have D:a0=(L++a.data.toList.take n)++(a.extract n a.size).data.toList:=by
        have he:(a.extract n a.size).data.toList=a.data.toList.drop n:=by
         simp[ix]
        rw[he,fz,ib];exact G.o
       have g4:bO (L++a.data.toList.take n)=bO L*10^n+bO (a.data.toList.take n):=by
        have:=jV L (a.data.toList.take n)
        rwa[ct,et (by rw[dt];exact j)]at this
       have g5:(L++a.data.toList.take n).length=L.length+n:=by
        rw[bk,ct,et (by rw[dt];exact j)]
       have g6:(a.extract n a.size).size=a.size-n:=by simp
       have i5:L.length<=2400:=by
        have:=congrArg List.length G.o;rw[bk]at this;have:=P.o;omega
       have h7:=A D;have h8:=A g4;have h9:=A g5;have g7:=A g6;clear z D g4 g5 g6;obtain⟨x,f⟩:∃x,bO (a.data.toList.take n)=x:=⟨_,rfl⟩;obtain⟨q,c⟩:∃x,10^n=x:=⟨_,rfl⟩;rw[f,c]at F;rw[c]at Y;simp only[f,c]at*;clear f c;go_wp2_with fail;refine(aAH _ r q x _ hw W (by omega) (by omega) (by omega)).mono ?_;rintro e w2 ⟨a2,c2,r2,rfl,h,c,f,z,g⟩;have m:=A (keep X.o g);have o:=A (chain y.o g);have D:=A f;have g4:=A z;have C:=A h;clear f z g h;go_wp2_with fail;refine⟨⟨L++a.data.toList.take n,a.extract n a.size,r2,rfl,h7,by rw[g7.o];omega,C.o,c,A (by rw[D.o,u.o,h8.o]),by rw[h9.o,g4.o];omega,o,m⟩,?_⟩
       show(a.extract n a.size).size<a.size
       rw[g7.o];omega
def aBS(x:eA):Prop:=(∃(d:Int)(e:Bool)(c:Nat)(s:ByteArray)(a:Option cr)(n m:Nat)(b:Option cr)(p q:Nat),x.2=eQ d e c s (O a n m) (O b p q))/\aV x.1.1=Q/\x.1.1.length<=1073741824
def iZ(l:List eA):Prop:=∀x∈l,aBS x
def bN(w:V)(v:Z)(l:List eA):Prop:=aQ 7 336 w v l.length (l.map lL).flatten
def qY{l:List eA}(h:iZ l):∀c∈l.map lL,c.length=7:=by
 intro c d;obtain⟨x,f,rfl⟩:=List.mem_map.1 d;obtain⟨⟨i,j,g,s,a,n,m,b,p,q,e⟩,_⟩:=h x f;unfold lL;rw[e];rfl
def aA1:∀{a:List (List Z)}(k:Nat),(∀c∈a,c.length=s)->a.flatten.take (k*s)=(a.take k).flatten
 | [],_,_=>by simp
 | c::a,0,_=>by simp
 | c::a,k+1,h=>by
  rw[fk,List.take_succ_cons,fk,iy,<-aA1 k (λx b=>h x (dl _ b)),List.take_append,h c (dw ..)];rw[ix (by rw[h c (dw ..)];omega),show k*s+s-s=k*s by omega]
def aA2:∀{a:List (List Z)}(k:Nat),(∀c∈a,c.length=s)->a.flatten.drop (k*s)=(a.drop k).flatten
 | [],_,_=>by simp
 | c::a,0,_=>by simp
 | c::a,k+1,h=>by
  rw[fk,du,iy,<-aA2 k (λx b=>h x (dl _ b)),List.drop_append,h c (dw ..)];rw[List.drop_of_length_le (by rw[h c (dw ..)];omega),show k*s+s-s=k*s by omega];rfl
def bN.take{w:V}{l:List eA}(h:bN w (O (g,off) n cap) l)(b:iZ l)(c:n=l.length){k:Nat}(a:k<=n):bN w (O (g,off) k cap) (l.take k):=by
 subst c;have:=aQ.take h a;rw[aA1 k (qY b),<-gy]at this;unfold bN
 rwa[ct,et a]
def bN.G0{w:V}{l:List eA}(h:bN w (O (g,off) n cap) l)(a:iZ l)(c:n=l.length){k:Nat}(b:k<=n):bN w (O (g,off+k*7) (n-k) (cap-k)) (l.drop k):=by
 subst c;have:=aQ.M5 h b;rw[aA2 k (qY a),<-gz]at this;unfold bN
 rwa[eo]
def bN.A2{F:Nat->Prop}{w w':V}{l:List eA}(h:bN w v l)(a:Keeps F w w')(b:∀k,v.ownBlock=J k->¬F k):bN w' v l:=eu h a b
def bN.A4{w w':V}{l:List eA}(h:bN w v l)(a:ag w w w'):bN w' v l:=h.A2 (ba (λ_=>False) a) λ_ _=>id
def qZ(w:V)(b:Z)(l:List eA)(a:Z)(w':V):Prop:=ag w w w'/\bN w' a (dR l)/\∀k,a.ownBlock=J k->b.ownBlock=J k\/w.heap.size<=k
def rA(l:List eA):(dR l).length=l.length:=(oS _ l (aw _)).length_eq
def uK{l:List eA}(h:iZ l):iZ (dR l):=λx a=>h x ((oS _ l (aw _)).mem_iff.1 a)
def oT(l:List eA)(w:V)(i:Z)(d:l.length<2)(b:bN w i l):ac T 192 #[i] w λe w'=>∃a c,e=af (O a l.length c)/\qZ w i l (O a l.length c) w':=by
 obtain⟨a,c,rfl⟩:=fm b;have f:=A (show qZ w (O a l.length c) l (O a l.length c) w from⟨bw _ _,by rw[iY d];exact b,λk e=>K e⟩);have h:(l.length:Int)<2:=by omega
 clear b d;obtain⟨L,g⟩:∃L,l.length=L:=⟨_,rfl⟩;rw[g]at h f⊢;clear g;go_enter func192,ntmps192;go_wp2;go_ret;exact⟨a,c,rfl,f.o⟩
def aHN:Z->Nat
 | .slice _ n _=>n
 | _=>0
def lT(c:V)(d:List eA)(L:Nat)(a b o:Z)(wr:V):Prop:=∃X Y e:List eA,bN c a X/\bN c b Y/\bN wr o e/\iZ X/\iZ Y/\e++dm X Y yP=d/\X.length+Y.length+e.length=L/\ag c c wr/\∀k,o.ownBlock=J k->c.heap.size<=k
def bN.S4{w:V}{x:eA}{X:List eA}{i:Int}{m:Bool}{l:Nat}{s:ByteArray}{a b:Option cr}{t o p q:Nat}(h:bN w (O (g,off) n cap) (x::X))(z:x.2=eQ i m l s (O a t o) (O b p q)):∀W,ag w w W->
 W.cell? ⟨g,off,S⟩=J (encS x.1.1)/\W.cell? ⟨g,off+1,S⟩=J (I U i)/\W.cell? ⟨g,off+2,S⟩=J (E m)/\W.cell? ⟨g,off+3,S⟩=J (I ah l)/\W.cell? ⟨g,off+4,S⟩=J (ak s)/\W.cell? ⟨g,off+5,S⟩=J (O a t o)/\W.cell? ⟨g,off+6,S⟩=J (O b p q):=by
 intro W v;have e:=h.A4 v
 have B:n=(x::X).length:=by
  rcases e.2 with⟨d,_⟩|⟨C,f,k,y,d,_⟩
  .cases d
  .cases d;rfl
 subst B
 have c:∀(j:Nat)(u:Z),(lL x)[j]?=J u->W.cell? ⟨g,off+j,S⟩=J u:=λj u r=>aQ.B3 e (j:=j) (u:=u) (by
  rw[fu,fk,List.getElem?_append_left (List.getElem?_eq_some_iff.1 r).1];exact r)
 unfold lL at c;rw[z]at c;exact⟨c 0 _ rfl,c 1 _ rfl,c 2 _ rfl,c 3 _ rfl,c 4 _ rfl,c 5 _ rfl,c 6 _ rfl⟩
def bN.S9{w:V}{x:eA}{X:List eA}(h:bN w (O (g,off) (X.length+1) cap) (x::X))(n:iZ (x::X)):X.length+1<=cap/\bN w (O (g,off+7) X.length (cap-1)) X/\(cap=1->bN w (O (g,off) X.length (cap-1)) X):=by
 have f:X.length+1<=cap:=by
  rcases h.2 with⟨a,_⟩|⟨m,b,c,d,a,_,f,_⟩
  .cases a
  .cases a;exact f
 have i:=h.G0 n rfl (k:=1) (by omega);rw[Nat.one_mul,show X.length+1-1=X.length by omega]at i;refine⟨f,i,λe=>?_⟩;subst e;obtain rfl:X= []:=eh (by omega);rcases h.2 with⟨a,_⟩|⟨m,b,c,d,a,l,_,p,_,_⟩
 .cases a
 .cases a;exact⟨rfl,ai ⟨g,off,0,d,rfl,l,aw _,by omega,by unfold dy;omega,λj u o=>by simp at o⟩⟩
def bN.S5{w:V}{j:Option cr}{a:Nat}{X:List eA}(h:bN w (O j a f) X)(i:iZ X)(g:X.length=a){x:eA}{c:List eA}(e:X=x::c):∃b d,j=J ⟨b,d,S⟩/\a=c.length+1/\a<=f/\aBS x/\bN w (O (J ⟨b,d,S⟩) a f) X/\bN w (O (J ⟨b,d+7,S⟩) (a-1) (f-1)) c/\(f=1->bN w (O (J ⟨b,d,S⟩) (a-1) (f-1)) c):=by
 subst e;have g:a=c.length+1:=g.symm;subst g;obtain⟨b,d,k,e⟩:=aQ.some (n:=c.length) h;cases e;obtain⟨m,l,o⟩:=bN.S9 h i;exact⟨b,d,rfl,rfl,m,i x (dw ..),h,l,o⟩
def mE(w:V)(a b c d e f g:Z):∀(j:Nat)(u:Z),[a,b,c,d,e,f,g][j]?=J u->(w.alloc (ae #[a,b,c,d,e,f,g] 336)).cell? ((⟨w.heap.size,0,S⟩:cr).add j)=J u:=λj u h=>by
 rw[Addr.add_lit,fq];exact(aA (gm w _)).trans (by simpa using h)
def lT.P2{c wr f w':V}{w X Y y:List eA}{x:eA}{L no:Nat}{a b o:Z}(h:y.length=no)(s:bN c a X)(u:bN c b Y)(i:iZ X)(j:iZ Y)(r:(y++ [x])++dm X Y yP=w)(v:X.length+Y.length+(y.length+1)=L)(m:ag c c wr)(q:∀k,o.ownBlock=J k->c.heap.size<=k)
 (n:Keeps (λ_=>False) wr f)(d:aQ 7 336 w' (O (g,off) (no+1) cap) (no+1) ((y.map lL).flatten++lL x))(l:o.ownBlock=J g\/f.heap.size<=g)(t:Keeps (λk=>o.ownBlock=J k) f w'):
 lT c w L a b (O (g,off) (no+1) cap) w':=by
 subst h;refine⟨X,Y,y++ [x],s,u,?_,i,j,r,by simp;omega,?_,λk e=>?_⟩
 .unfold bN;rw[bk,List.length_singleton,ir,List.map_singleton,dV];exact d
 .have p:ag c c f:=m.trans ((n.C6 m.size λ_=>False.elim));exact p.trans (t.C6 p.size q)
 .obtain rfl:g=k:=by simpa[Value.ownBlock]using e
  exact l.elim (q g) λe=>ao (ao m.size n.size) e
def aAk(l:List eA)(w:V)(a3:Z)(h2:¬l.length<2)(hl:l.length<=65536)(hm:iZ l)(hs:bN w a3 l)
 (ih:∀(l':List eA)(W:V)(V':Z),l'.length<l.length->iZ l'->bN W V' l'->ac T 192 #[V'] W λe w'=>∃a c,e=af (O a l'.length c)/\qZ W V' l' (O a l'.length c) w'):
 ac T 192 #[a3] w λe w'=>∃a c,e=af (O a l.length c)/\qZ w a3 l (O a l.length c) w':=by
 obtain⟨L,t⟩:∃L,l.length=L:=⟨_,rfl⟩
 obtain⟨g,off,cap,rfl⟩:∃g off cap,a3=O (J ⟨g,off,S⟩) L cap:=by
  rcases hs with⟨_,⟨_,hn⟩|⟨g,off,cap,cur,rfl,_⟩⟩
  .omega
  .rw[t];exact⟨g,off,cap,rfl⟩
 have hcap:L<=cap:=by
  rcases hs with⟨_,⟨hv,_⟩|⟨g',off',cap',cur,hv,_,hc,_⟩⟩
  .cases hv
  .cases hv;omega
 obtain⟨a2,hH⟩:∃a2,L/2=a2:=⟨_,rfl⟩;have hHL:1<=a2/\a2<L:=by omega
 obtain⟨a0,hA⟩:∃a0,l.take a2=a0:=⟨_,rfl⟩;obtain⟨B,hB⟩:∃B,l.drop a2=B:=⟨_,rfl⟩;have hAl:a0.length=a2:=by rw[<-hA,ct];omega
 have hBl:B.length=L-a2:=by rw[<-hB,eo];omega
 have hmA:iZ a0:=λx hx=>hm x (gq (by rw[hA];exact hx))
 have hmB:iZ B:=λx hx=>hm x (List.mem_of_mem_drop (by rw[hB];exact hx))
 have F:dR l=dm (dR a0) (dR B) yP:=by rw[oR h2,t,hH,hA,hB]
 have HA:=A (λ(W:V)(hW:ag w w W)=>show ac T 192 #[O (J ⟨g,off,S⟩) a2 cap] W λe w'=>∃a c,e=af (O a a2 c)/\qZ W (O (J ⟨g,off,S⟩) a2 cap) a0 (O a a2 c) w' from by
  have:=ih a0 W (O (J ⟨g,off,S⟩) a2 cap) (by omega) hmA (by rw[<-hA];exact(hs.A4 hW).take hm t.symm (by omega))
  rwa[hAl]at this)
 have HB:=A (λ(W:V)(hW:ag w w W)=>show ac T 192 #[O (J ⟨g,off+a2*7,S⟩) (L-a2) (cap-a2)] W λe w'=>∃a c,e=af (O a (L-a2) c)/\qZ W (O (J ⟨g,off+a2*7,S⟩) (L-a2) (cap-a2)) B (O a (L-a2) c) w' from by
  have:=ih B W (O (J ⟨g,off+a2*7,S⟩) (L-a2) (cap-a2)) (by omega) hmB (by rw[<-hB];exact(hs.A4 hW).G0 hm t.symm (by omega))
  rwa[hBl]at this)
 have i1:¬(L:Int)<2:=by omega
 have i2:Int.tdiv (L:Int) 2=(a2:Int):=by rw[<-hH];rfl
 have i3:U.wrap (a2:Int)=(a2:Int):=by rw[cv];omega
 have i4:(0:Int)<=(a2:Int):=by omega
 have i5:(a2:Int)<=(L:Int):=by omega
 have i7:(a2:Int)<=(cap:Int):=by omega
 have i9:¬cap=a2:=by omega
 have HX:=A (And.intro hs (And.intro F (And.intro t (And.intro (uK hmA) (And.intro (uK hmB) (And.intro hAl hBl))))));rw[t];have HH:=A (And.intro hHL hH);clear hs F t hmA hmB hAl hBl hA hB hHL hH ih h2 hm;go_enter func192,ntmps192;go_wp2_with fail;have HD:=A (m8 (bw w w))
 go_region_held3 (λ_=>True) (trivial) (first
  | (go_at_call 192;(with_reducible refine(HA.o _ HD.o).mono ?_);rintro e wa ⟨aa,ca,rfl,hsa⟩;have hba:ag w w wa:=sT hsa.1)
  | (go_at_call 192;(with_reducible refine(HB.o _ hba).mono ?_);rintro e wb ⟨ab,cb,rfl,hsb⟩))
 have HI0:=A (show lT wb (dm (dR a0) (dR B) yP) L (O aa a2 ca) (O ab (L-a2) cb) (O S 0 0) wb from by
  obtain⟨-,-,-,hmA,hmB,hAl,hBl⟩:=HX.o;refine⟨dR a0,dR B,[],hsa.2.1.A4 hsb.1,hsb.2.1,.nil _ _ _,hmA,hmB,(by simp),(by simp[rA];have:=HH.o;omega),bw _ _,λk e=>(by cases e)⟩)
 have HBW:=A (show ag w w wb from chain hba hsb.1);clear hsa hsb hba HA HB HD i1 i2 i3 i4 i5 i7 i9 hcap;go_wp2
 go_loopw [3,4,5] (λa b o wr=>M (lT wb (dm (dR a0) (dR B) yP) L a b o wr)) (λa b _ _=>aHN a+aHN b)
 case atStart=>exact HI0
 case round=>
  obtain⟨X,Y,a1,hX,hY,hO,r,p,hM,t,hB,hF⟩:=hrel.o;obtain⟨xa,xc,rfl⟩:=fm hX;obtain⟨ya,yc,rfl⟩:=fm hY;obtain⟨oa,oc,rfl⟩:=fm hO;obtain⟨nx,hnx⟩:∃nx,X.length=nx:=⟨_,rfl⟩;obtain⟨ny,hny⟩:∃ny,Y.length=ny:=⟨_,rfl⟩;obtain⟨no,j⟩:∃no,a1.length=no:=⟨_,rfl⟩;rw[hnx]at hX⊢;rw[hny]at hY⊢;rw[j]at hO⊢
  have hO:aQ 7 336 wr (O oa no oc) no (a1.map lL).flatten:=by
   unfold bN at hO
   rwa[j]at hO
  have hF:∀k,(O oa no oc).ownBlock=J k->wb.heap.size<=k:=by rw[<-j];exact hF
  have HO:=A (And.intro hO (And.intro hM (And.intro t (And.intro hB (And.intro hF (And.intro j (And.intro r p)))))));have HN:=A (And.intro hnx hny);have HBM:=A (show(no+1)*104<=140737488355328/\no+1<=dy from⟨by have:=HX.o.2.2.1;omega,by unfold dy;have:=HX.o.2.2.1;omega⟩);have HPX:=A (show ∀x X',X=x::X'->∃xg xo,xa=J ⟨xg,xo,S⟩/\nx=X'.length+1/\nx<=xc/\aBS x/\bN wb (O (J ⟨xg,xo,S⟩) nx xc) X/\bN wb (O (J ⟨xg,xo+7,S⟩) (nx-1) (xc-1)) X'/\(xc=1->bN wb (O (J ⟨xg,xo,S⟩) (nx-1) (xc-1)) X')from λx X' e=>bN.S5 hX r hnx e);have HPY:=A (show ∀x X',Y=x::X'->∃xg xo,ya=J ⟨xg,xo,S⟩/\ny=X'.length+1/\ny<=yc/\aBS x/\bN wb (O (J ⟨xg,xo,S⟩) ny yc) Y/\bN wb (O (J ⟨xg,xo+7,S⟩) (ny-1) (yc-1)) X'/\(yc=1->bN wb (O (J ⟨xg,xo,S⟩) (ny-1) (yc-1)) X')from λx X' e=>bN.S5 hY p hny e);have HXY:=A (And.intro hX hY);clear hX hY hO hM t hB hF j hnx hny r p;rcases gr nx with hx0|hx0
  .rcases gr ny with hy0|hy0
   .subst hx0;subst hy0;go_wp2;go_ret;obtain⟨hO,hM,t,hB,hF,j,_⟩:=HO.o;obtain rfl:=eh HN.o.1;obtain rfl:=eh HN.o.2;simp at hM t;have hOL:no=L:=by omega
    subst hOL;obtain⟨-,F,-,_⟩:=HX.o;have hO2:bN wr (O oa no oc) a1:=by unfold bN;rw[j];exact hO
    exact⟨oa,oc,rfl,chain HBW.o hB,by rw[F,<-hM];exact hO2,λk e=>ai (ao HBW.o.size (hF k e))⟩
   .subst hx0
    obtain⟨y,y',ye⟩:∃y y',Y=y::y':=by
     cases Y with
     | nil=>have:=HN.o.2;simp at this;omega
     | cons y y'=>exact⟨y,y',rfl⟩
    obtain⟨yg,yo,rfl,y1,yl,⟨⟨yso,v,ybi,G,R,P,yvm,D,N,ykm,y2⟩,yr,yn⟩,ys,yt,yt1⟩:=HPY.o y y' ye;subst ye;obtain⟨yk,yhk⟩:∃k:ByteArray,encS y.1.1=ak k:=⟨_,rfl⟩;have HYD:=A (bN.S4 ys y2);rw[yhk]at HYD;have HYM:=A (show lL y= [ak yk,I U yso,E v,I ah ybi,ak G,O R P yvm,O D N ykm] by unfold lL;rw[y2,yhk];rfl);have HYT:=A (And.intro yt (And.intro yt1 y1));
    have yi2:(1:Int)<=(ny:Int):=by omega
    have yi3:(ny:Int)<=(yc:Int):=by omega
    clear y1 y2 yr yn ys yt yt1 yhk;have ney:((ny:Int)==0)=H:=by simp;omega
    go_wp2
    go_quiet (fail)
    generalize hW6:iz wr _=m;have f:ag wr wr m:=by rw[<-hW6];exact qW (bw _ _)
    clear hW6;have d:=chain HO.o.2.2.2.1 f;obtain⟨d0,d1,d2,d3,d4,d5,d6⟩:=HYD.o m d;have HW:=A ((eu HO.o.1 (ba (λ_=>False) f) λ_ _=>id).A2 ((av (λ_=>False) m).A6 (ae #[yk,yso,v,I ah ybi,G,O R P yvm,O D N ykm] 336)) λ_ _=>id);have HNW:=A (mE m (ak yk) (I U yso) (E v) (I ah ybi) (ak G) (O R P yvm) (O D N ykm));have HB6:=A (And.intro f d);clear f d
    go_wp2_with (at_builtin;refine bC sZ rfl _ _ rfl rfl HW.o m 1 1 [ak yk,I U yso,E v,I ah ybi,ak G,O R P yvm,O D N ykm] (by rfl) rfl HNW.o ?_ (by decide) HBM.o.1 HBM.o.2 ?_)
    .intro u hu;simp at hu;rcases hu with rfl|rfl|rfl|rfl|rfl|rfl|rfl<;>rfl
    intro g' off' cap' w' i s n;have HF:=A (And.intro i (And.intro s n));clear i s n d0 d1 d2 d3 d4 d5 d6;have q:(yc=1/\¬yc≠1)\/(¬yc=1/\¬1=yc):=by omega
    rcases q with⟨h1,_⟩|⟨h1,-⟩
    all_goals
     go_wp2_with fail;refine⟨A ?_,by simp[aHN];omega⟩;obtain⟨-,hM,t,-,hF,j,r,p⟩:=HO.o;have hn:=HN.o;refine lT.P2 (x:=y) (wr:=m) j HXY.o.1 (by first|exact HYT.o.1|exact HYT.o.2.1 h1|(subst h1;exact HYT.o.2.1 rfl)) r (λz hz=>p z (dl _ hz)) (by obtain rfl:=eh hn.1;rw[<-hM,ja,ja];simp) (by simp at t⊢;omega) HB6.o.2 hF ((av (λ_=>False) m).A6 _) (by rw[HYM.o];exact HF.o.1) (HF.o.2.1.imp id λh=>by have:=h.1;simp at this⊢;omega) HF.o.2.2
  .obtain⟨x,x',xe⟩:∃x x',X=x::x':=by
    cases X with
    | nil=>have:=HN.o.1;simp at this;omega
    | cons x x'=>exact⟨x,x',rfl⟩
   obtain⟨xg,xo,rfl,x1,xl,⟨⟨xso,xfl,xbi,xtx,xva,xvn,xvm,xka,xkn,xkm,x2⟩,xr,xn⟩,xs,xt,xt1⟩:=HPX.o x x' xe;subst xe;obtain⟨xk,xhk⟩:∃k:ByteArray,encS x.1.1=ak k:=⟨_,rfl⟩;have HXD:=A (bN.S4 xs x2);rw[xhk]at HXD;have HXM:=A (show lL x= [ak xk,I U xso,E xfl,I ah xbi,ak xtx,O xva xvn xvm,O xka xkn xkm] by unfold lL;rw[x2,xhk];rfl);have HXT:=A (And.intro xt (And.intro xt1 x1));have HXR:=A (And.intro xr (And.intro xn xhk))
   have xi2:(1:Int)<=(nx:Int):=by omega
   have xi3:(nx:Int)<=(xc:Int):=by omega
   clear x1 x2 xr xn xs xt xt1 xhk;rcases gr ny with hy0|hy0
   .subst hy0;go_wp2
    go_quiet (fail)
    generalize hW6:iz wr _=m;have f:ag wr wr m:=by rw[<-hW6];exact qW (bw _ _)
    clear hW6;have d:=chain HO.o.2.2.2.1 f;obtain⟨d0,d1,d2,d3,d4,d5,d6⟩:=HXD.o m d;have HW:=A ((eu HO.o.1 (ba (λ_=>False) f) λ_ _=>id).A2 ((av (λ_=>False) m).A6 (ae #[xk,xso,xfl,I ah xbi,xtx,O xva xvn xvm,O xka xkn xkm] 336)) λ_ _=>id);have HNW:=A (mE m (ak xk) (I U xso) (E xfl) (I ah xbi) (ak xtx) (O xva xvn xvm) (O xka xkn xkm));have HB6:=A (And.intro f d);clear f d
    go_wp2_with (at_builtin;refine bC sZ rfl _ _ rfl rfl HW.o m 1 1 [ak xk,I U xso,E xfl,I ah xbi,ak xtx,O xva xvn xvm,O xka xkn xkm] (by rfl) rfl HNW.o ?_ (by decide) HBM.o.1 HBM.o.2 ?_)
    .intro u hu;simp at hu;rcases hu with rfl|rfl|rfl|rfl|rfl|rfl|rfl<;>rfl
    intro g' off' cap' w' i s n;have HF:=A (And.intro i (And.intro s n));clear i s n d0 d1 d2 d3 d4 d5 d6;have q:(xc=1/\¬xc≠1)\/(¬xc=1/\¬1=xc):=by omega
    rcases q with⟨h1,_⟩|⟨h1,-⟩
    all_goals
     go_wp2_with fail;refine⟨A ?_,by simp[aHN];omega⟩;obtain⟨-,hM,t,-,hF,j,r,p⟩:=HO.o;have hn:=HN.o;refine lT.P2 (x:=x) (wr:=m) j (by first|exact HXT.o.1|exact HXT.o.2.1 h1|(subst h1;exact HXT.o.2.1 rfl)) HXY.o.2 (λz hz=>r z (dl _ hz)) p (by obtain rfl:=eh hn.2;rw[<-hM,jb,jb];simp) (by simp at t⊢;omega) HB6.o.2 hF ((av (λ_=>False) m).A6 _) (by rw[HXM.o];exact HF.o.1) (HF.o.2.1.imp id λh=>by have:=h.1;simp at this⊢;omega) HF.o.2.2
   .obtain⟨y,y',ye⟩:∃y y',Y=y::y':=by
     cases Y with
     | nil=>have:=HN.o.2;simp at this;omega
     | cons y y'=>exact⟨y,y',rfl⟩
    obtain⟨yg,yo,rfl,y1,yl,⟨⟨yso,v,ybi,G,R,P,yvm,D,N,ykm,y2⟩,yr,yn⟩,ys,yt,yt1⟩:=HPY.o y y' ye;subst ye;obtain⟨yk,yhk⟩:∃k:ByteArray,encS y.1.1=ak k:=⟨_,rfl⟩;have HYD:=A (bN.S4 ys y2);rw[yhk]at HYD;have HYM:=A (show lL y= [ak yk,I U yso,E v,I ah ybi,ak G,O R P yvm,O D N ykm] by unfold lL;rw[y2,yhk];rfl);have HYT:=A (And.intro yt (And.intro yt1 y1));have HYR:=A (And.intro yr (And.intro yn yhk))
    have yi2:(1:Int)<=(ny:Int):=by omega
    have yi3:(ny:Int)<=(yc:Int):=by omega
    clear y1 y2 yr yn ys yt yt1 yhk
    have hcmp:∀W,ac T 207 #[xk,yk] W λe w'=>e=af (I U (eE x.1.1 y.1.1))/\ag W.heap.size W w':=λW=>by
     obtain⟨x1,x2,x3⟩:=HXR.o;obtain⟨y1,y2,y3⟩:=HYR.o;have ex:xk.data.toList=x.1.1:=by unfold encS at x3;injection x3 with x3;rw[<-x3]
     have ey:yk.data.toList=y.1.1:=by unfold encS at y3;injection y3 with y3;rw[<-y3]
     have:=aBQ W xk yk (by rw[<-ex]at x2;simpa using x2) (by rw[<-ey]at y2;simpa using y2) (by rw[ex];exact x1) (by rw[ey];exact y1)
     rwa[ex,ey]at this
    have HC:=A hcmp;obtain⟨C,hC⟩:∃C,eE x.1.1 y.1.1=C:=⟨_,rfl⟩;rw[hC]at HC;have HCC:=A (show yP x y=decide (C<=0)from by unfold yP mD;rw[hC]);obtain⟨d0,_⟩:=HXD.o wr HO.o.2.2.2.1;obtain⟨c0,_⟩:=HYD.o wr HO.o.2.2.2.1;clear hcmp hC;have hsx:∀W:V,W=W:=λ_=>rfl
    have ney:((ny:Int)==0)=H:=by simp;omega
    by_cases hle:C<=0
    all_goals
     go_wp2
     go_region_held3 (λw'=>w'.cell? ⟨xg,xo,S⟩=J (ak xk)/\w'.cell? ⟨yg,yo,S⟩=J (ak yk)) (first|with_reducible exact hS|go_keep) ((go_at_call 207;(with_reducible refine(HC.o _).mono ?_);rintro e m ⟨rfl,f⟩;have f:=fA f;have hS:=And.intro (bE f d0) (bE f c0)))
     clear d0 c0 hS
    .skip;have d:=chain HO.o.2.2.2.1 f;obtain⟨-,d1,d2,d3,d4,d5,d6⟩:=HXD.o m d;have HW:=A ((eu HO.o.1 (ba (λ_=>False) f) λ_ _=>id).A2 ((av (λ_=>False) m).A6 (ae #[xk,xso,xfl,I ah xbi,xtx,O xva xvn xvm,O xka xkn xkm] 336)) λ_ _=>id);have HNW:=A (mE m (ak xk) (I U xso) (E xfl) (I ah xbi) (ak xtx) (O xva xvn xvm) (O xka xkn xkm));have HB6:=A (And.intro f d);clear f d
     go_wp2_with (at_builtin;refine bC sZ rfl _ _ rfl rfl HW.o m 1 1 [ak xk,I U xso,E xfl,I ah xbi,ak xtx,O xva xvn xvm,O xka xkn xkm] (by rfl) rfl HNW.o ?_ (by decide) HBM.o.1 HBM.o.2 ?_)
     .intro u hu;simp at hu;rcases hu with rfl|rfl|rfl|rfl|rfl|rfl|rfl<;>rfl
     intro g' off' cap' w' i s n;have HF:=A (And.intro i (And.intro s n));clear i s n d1 d2 d3 d4 d5 d6;have q:(xc=1/\¬xc≠1)\/(¬xc=1/\¬1=xc):=by omega
     rcases q with⟨h1,_⟩|⟨h1,-⟩
     all_goals
      go_wp2_with fail;refine⟨A ?_,by simp[aHN];omega⟩;obtain⟨-,hM,t,-,hF,j,r,p⟩:=HO.o;refine lT.P2 (x:=x) (wr:=m) j (by first|exact HXT.o.1|exact HXT.o.2.1 h1|(subst h1;exact HXT.o.2.1 rfl)) HXY.o.2 (λz hz=>r z (dl _ hz)) p (by rw[<-hM,jc,if_pos (by rw[HCC.o];exact decide_eq_true hle)];simp) (by simp at t⊢;omega) HB6.o.2 hF ((av (λ_=>False) m).A6 _) (by rw[HXM.o];exact HF.o.1) (HF.o.2.1.imp id λh=>by have:=h.1;simp at this⊢;omega) HF.o.2.2
    .skip;have d:=chain HO.o.2.2.2.1 f;obtain⟨-,d1,d2,d3,d4,d5,d6⟩:=HYD.o m d;have HW:=A ((eu HO.o.1 (ba (λ_=>False) f) λ_ _=>id).A2 ((av (λ_=>False) m).A6 (ae #[yk,yso,v,I ah ybi,G,O R P yvm,O D N ykm] 336)) λ_ _=>id);have HNW:=A (mE m (ak yk) (I U yso) (E v) (I ah ybi) (ak G) (O R P yvm) (O D N ykm));have HB6:=A (And.intro f d);clear f d
     go_wp2_with (at_builtin;refine bC sZ rfl _ _ rfl rfl HW.o m 1 1 [ak yk,I U yso,E v,I ah ybi,ak G,O R P yvm,O D N ykm] (by rfl) rfl HNW.o ?_ (by decide) HBM.o.1 HBM.o.2 ?_)
     .intro u hu;simp at hu;rcases hu with rfl|rfl|rfl|rfl|rfl|rfl|rfl<;>rfl
     intro g' off' cap' w' i s n;have HF:=A (And.intro i (And.intro s n));clear i s n d1 d2 d3 d4 d5 d6;have q:(yc=1/\¬yc≠1)\/(¬yc=1/\¬1=yc):=by omega
     rcases q with⟨h1,_⟩|⟨h1,-⟩
     all_goals
      go_wp2_with fail;refine⟨A ?_,by simp[aHN];omega⟩;obtain⟨-,hM,t,-,hF,j,r,p⟩:=HO.o;refine lT.P2 (x:=y) (wr:=m) j HXY.o.1 (by first|exact HYT.o.1|exact HYT.o.2.1 h1|(subst h1;exact HYT.o.2.1 rfl)) r (λz hz=>p z (dl _ hz)) (by rw[<-hM,jc,if_neg (by rw[HCC.o];simpa using hle)];simp) (by simp at t⊢;omega) HB6.o.2 hF ((av (λ_=>False) m).A6 _) (by rw[HYM.o];exact HF.o.1) (HF.o.2.1.imp id λh=>by have:=h.1;simp at this⊢;omega) HF.o.2.2
def gR(keys:List (List UInt8))(a:List Tr)(b:List (List Z)):List eA:=(keys.zip a).zip b
def aHO{b:List (List Z)}{i:Nat}{k:Oo}{c:List Z}(e:keys[i]?=J k)(d:a[i]?=J t)(f:b[i]?=J c):(gR keys a b)[i]?=J ((k,t),c):=by
 unfold gR;rw[ei,ei];exact⟨⟨e,d⟩,f⟩
def yQ{b:List (List Z)}(d:a.length=keys.length)(c:b.length=keys.length):(gR keys a b).length=keys.length:=by
 unfold gR;simp;omega
def aFl{b:List (List Z)}(d:a.length=keys.length)(c:b.length=keys.length):(gR keys a b).map (·.1)=keys.zip a:=by
 unfold gR;exact List.map_fst_zip (by simp;omega)
def aLo(F:Nat->Prop)(w:V)(l:List eA):Prop:=∀x∈l,ValAt F w x.2 x.1.2
def vJ{F:Nat->Prop}{w:V}{b:List (List Z)}(h:l5 F w b a):aLo F w (gR keys a b):=by
 intro x c;obtain⟨i,hi⟩:=jd c;unfold gR at hi;rw[ei,ei]at hi;exact h.2 i _ _ hi.2 hi.1.2
def aHP{F:Nat->Prop}{w:V}{b:List (List Z)}(h:l5 F w b a)(f:∀k∈keys,aV k=Q/\k.length<=1073741824):iZ (gR keys a b):=by
 intro x c;have e:=vJ (keys:=keys) h x c;obtain⟨i,hi⟩:=jd c;unfold gR at hi;rw[ei,ei]at hi;have d:x.1.1∈keys:=il hi.1.1;exact⟨e.A7,f _ d⟩
def aHQ(w:V)(l:List eA)(i:Nat)(o:Z)(wr:V):Prop:=bN wr o (l.take i)/\(∀k,o.ownBlock=J k->w.heap.size<k)/\ag (w.heap.size+1) (w.alloc (ae #[I U 0,E H,I ah 0,"",(),()] 34)) wr
def s6:∀(N:Nat)(l:List eA)(w:V)(o:Z),l.length<=N->l.length<=65536->iZ l->bN w o l->ac T 192 #[o] w λe w'=>∃a c,e=af (O a l.length c)/\qZ w o l (O a l.length c) w'
 | 0,l,w,o,j,_,_,b=>oT l w o (by omega) b
 | N+1,l,w,o,j,h,k,b=>by
  by_cases d:l.length<2
  .exact oT l w o d b
  .exact aAk l w o d h k b λm W g n i f=>s6 N m W g (by omega) (by omega) i f
def aKj(w:V)(b:Nat)(a:b<18446744073709551616):ac T 145 #[I ah b] w λe w'=>e=af (bm #[I U 3,E H,I ah (dW b:Nat),"",(),()])/\ag w w w':=by
 by_cases h:b=9223372036854775808
 .have e:dW b=0:=by unfold dW;rw[if_pos h]
  rw[e];have q:((b:Int)==9223372036854775808)=Q:=by simp;omega
  clear e h;go_enter func145,ntmps145;go_wp2_with fail;exact go (v:=bm #[I U 3,E H,I ah 0,"",(),()]) (by simp[ep,je,go_sem]) rfl ⟨rfl,(bw _ _).alloc (aw _) _⟩
 .have e:dW b=b:=by unfold dW;rw[if_neg h]
  rw[e];have q:((b:Int)==9223372036854775808)=H:=by simp;omega
  clear e h;go_enter func145,ntmps145;go_wp2_with fail;exact go (v:=bm #[I U 3,E H,I ah b,"",(),()]) (by simp[ep,je,go_sem]) rfl ⟨rfl,(bw _ _).alloc (aw _) _⟩
def oY(F:Nat->Prop)(w:V)(b:Nat)(toks:List Tok)(t:Lx×List Tok×Nat×Nat)(a:Nat->Nat->Z)(e:cw)(w':V):Prop:=
 Keeps F w w'/\(t.2.2.1=0->e=af ar/\cG (Since F w w') w' b t.1 H (toks++t.2.1))/\
 (t.2.2.1≠0->e=af (ee 151 (bm #[t.2.2.1,t.2.2.2]))/\∃pl c,dU (Since F w w') w' b pl c (a t.2.2.1 t.2.2.2) (toks++t.2.1))
def lV(x:Lx)(c:UInt8):(aP x c).c.c=x.c:=by
 unfold aP;split
 .rfl
 .simp only[];split
  .rfl
  .split
   .rfl
   .split
    .unfold kX;split<;>rfl
    .split<;>rfl
def aFJ(x:Lx)(c:UInt8):(x.B4 c).c.c=x.c:=by
 unfold Lx.B4;split
 .exact lV x c
 .unfold cP;simp only[];split
  .split<;>rfl
  .rfl
 .unfold bX;split
  .rfl
  .split
   .unfold Lx.C0;cases bitsOf x.g with
    | none=>rfl
    | some b=>exact lV x.E2 c
   .rfl
 .unfold bY;split
  .rfl
  .split
   .rfl
   .split
    .rfl
    .split<;>rfl
 .unfold dN;split
  .rfl
  .split<;>rfl
 .unfold dH;split
  .rfl
  .split
   .rfl
   .simp only[];split
    .unfold Lx.whole;split
     .rfl
     .split<;>rfl
    .rfl
 .unfold fD;split<;>rfl
 .unfold dS;split<;>rfl
def cG.R6{F:Nat->Prop}{w:V}{b:Nat}{x:Lx}{s:Bool}{toks:List Tok}(h:cG F w b x s toks)(n:Nat):cG F (w.setCell b (I U n)) b {x with c:=n} s toks:=by
 obtain⟨B,j,i,o,c,g,d,q,u⟩:=h;have a:Keeps (λk=>k=b) w (w.setCell b (I U n)):=(av (λk=>k=b) w).A3 (p:=b) (K rfl) _;refine⟨B,λk l=>dh (j k l) a.size,i,o,c,g,aB d _,⟨q.1.A2 a (λk e a=>q.1.ne d (by decide) (e.trans (congrArg J a))),q.2⟩,⟨λh=>?_,λh=>?_⟩⟩
 .have r:=u.g h;exact⟨r.1.A2 a (λk e a=>r.1.ne d (by decide) (e.trans (congrArg J a))),r.2⟩
 .obtain⟨m,f,pl,v,t,y,z⟩:=u.text h;refine⟨⟨m.1.A2 a (λk e a=>m.1.ne d (by decide) (e.trans (congrArg J a))),m.2⟩,f,pl,v,t.A2 a (λe=>?_),y,z⟩;subst e;obtain⟨_,D,a1,a2,a3,C,_⟩:=t;rw[C]at d;simp at d
def aLD(k:Nat)(l:k=104\/k=141\/k=139\/k=138\/k=168\/k=188\/k=223\/k=241)(F:Nat->Prop)(w:V)(b:Nat)(x:Lx)(toks:List Tok)(c:UInt8)(g:qJ x.j=k)(a0:cG F w b x H toks)(P:x.c<=16777216)
 (d:x.c<16777216->ac T k #[aj b,I au c.toNat] w λe w'=>eV F w b x.c toks (x.B4 c) e w'):
 ac T 115 #[aj b,I au c.toNat] w λe w'=>oY F w b toks (x.take c) (λ_ _=>.nilIface) e w':=by
 have q:=a0;obtain⟨s,h,h9,i2,R,i0,u,-,-⟩:=a0;obtain⟨W,-,-,D,c4,c5,c6,c7,c8,c9,ca,cb,cc,cd,cf⟩:=aN u;rw[g]at D;have HL:=A q;have X:=A h;have HF:=A s;obtain⟨pl,a⟩:∃pl,x.c=pl:=⟨_,rfl⟩;have m:=A a;rw[a]at W P d;unfold Lx.take
 by_cases i:x.c=16777216
 .rw[if_pos i];rw[a]at i;subst i;clear q u s h d a D g;go_enter func115,ntmps115;go_wp2;go_ret;exact⟨av _ _,λe=>absurd e (show ¬(3:Nat)=0 by decide),λ_=>⟨by show af _=af (ee 151 (bm #[I U ((3:Nat):Int),x.c]));rw[m.o];rfl,x.c,x.a,by rw[dp];exact HL.o.Q4.mono (λk l=>K l) (aF X.o (aw _))⟩⟩
 .rw[if_neg i];have v:pl<16777216:=by omega
  have i1:((pl:Int)==16777216)=H:=by simp;omega
  obtain⟨r,z⟩:∃r,x.B4 c=r:=⟨_,rfl⟩;have B:=d v;rw[z]at B⊢;simp only[];obtain⟨t,o⟩:∃t,(if r.b=0 then(({r.c with c:=x.c+1}:Lx),r.a,0,0)else(r.c,r.a,r.b,if r.b=41 then r.c.a else x.c))=t:=⟨_,rfl⟩;rw[o];have Y:=A (λ(f:r.b=0)=>o.symm.trans (if_pos f));have y:=A (λ(f:r.b≠0)=>o.symm.trans (if_neg f));have HS:=A B;have j:r.c.c=pl:=by rw[<-z,aFJ,a]
  have HX:=A j;clear q u s h d a i B z g j o;rcases l with rfl|rfl|rfl|rfl|rfl|rfl|rfl|rfl
  all_goals
   go_enter func115,ntmps115;go_wp2_with fail;refine(HS.o).mono ?_;rintro e w2 ⟨rfl,i,G,L⟩
   by_cases f:r.b=0
   .have a:=G f;obtain⟨o,-,j,z,h,q,g,s,d⟩:=G f;rw[HX.o]at g;obtain⟨d0,-,-,-,-,-,-,-,-,-,-,-,-,-,df⟩:=aN g;have B:=A a;have N:=A i;have u:=A f;rw[f];clear o g s d G L a i f W D c4 c5 c6 c7 c8 c9 ca cb cc cd cf;go_wp2;go_ret;have d:=Y.o u.o;subst d;refine⟨N.o.A3 (p:=b) (K HF.o) _,λ_=>⟨rfl,?_⟩,λe=>?_⟩
    .have:=B.o.R6 (x.c+1);rw[show((pl:Int)+1)=((x.c+1:Nat):Int) by rw[m.o];omega];exact this.mono (λk l=>l.N6 (by simp[bx])) (λk l=>this.lt k (l.N6 (by simp[bx])))
    .exact absurd rfl e
   .obtain⟨n,j⟩:∃n,r.b=n:=⟨_,rfl⟩;have z:=L f;obtain⟨o,B,v2,v3,v4,v6,v7,v8,v9,va,vb,vc,q,g,s⟩:=L f;obtain⟨d0,d1,d2,d3,d4,d5,d6,d7,d8,d9,da,db,dc,dd,df⟩:=aN g;have HD:=A z;have N:=A i;have u:=A f;have h:=A j;rw[j]at f;rw[j];have n0:((n:Int)==0)=H:=by simp;omega
    have C:(((n:Int)==41)=Q/\n=41)\/(((n:Int)==41)=H/\n≠41):=by
     by_cases a:n=41
     .exact K ⟨by simp;omega,a⟩
     .exact ai ⟨by simp;omega,a⟩
    clear o B g s G L z i f j W D c4 c5 c6 c7 c8 c9 ca cb cc cd cf;rcases C with⟨g,a⟩|⟨g,a⟩
    .have f:=A a;clear a;go_wp2;go_ret;have d:=y.o u.o;rw[if_pos (h.o.trans f.o),h.o]at d;subst d;exact⟨N.o,λe=>absurd (h.o.trans e) u.o,λ_=>⟨rfl,_,_,HD.o⟩⟩
    .have f:=A a;clear a;go_wp2;go_ret;have d:=y.o u.o;rw[if_neg (λe=>f.o (h.o.symm.trans e)),h.o,m.o]at d;subst d;exact⟨N.o,λe=>absurd (h.o.trans e) u.o,λ_=>⟨rfl,_,_,HD.o⟩⟩
section
def cU(no a:Nat):Z:=ee 151 (bm #[no,a])
section
variable {F:Nat->Prop} {w:V} {b:Nat} {x:Lx} {dn:Bool} {toks:List Tok}
def cG.cells(h:cG F w b x dn toks):w.cell? b=J (I U x.c)/\w.cell? ⟨b,1,S⟩=J ar/\w.cell? ⟨b,2,S⟩=J (E dn)/\w.cell? ⟨b,4,S⟩=J (E x.e)/\w.cell? ⟨b,5,S⟩=J (I U x.a)/\∀o,w.frozen? ⟨b,o,S⟩=H:=by
 obtain⟨-,-,d,f,a,c,e,_⟩:=h;obtain⟨k,c1,c2,-,j,i,-,-,-,-,-,-,-,-,g⟩:=aN e;exact⟨k,c1,c2,j,i,g⟩
def cG.Q7(h:cG F w b x dn toks):cG F (w.setCell ⟨b,1,S⟩ ar) b x dn toks:=by
 obtain⟨y,j,i,n,c,g,d,o,s⟩:=h;have a:Keeps (λk=>k=b) w (w.setCell ⟨b,1,S⟩ ar):=(av (λk=>k=b) w).A3 (p:=⟨b,1,S⟩) (K rfl) _;refine⟨y,λk l=>dh (j k l) a.size,i,n,c,g,aB d _,⟨o.1.A2 a (λk e a=>o.1.ne d (by decide) (e.trans (congrArg J a))),o.2⟩,⟨λh=>?_,λh=>?_⟩⟩
 .have q:=s.g h;exact⟨q.1.A2 a (λk e a=>q.1.ne d (by decide) (e.trans (congrArg J a))),q.2⟩
 .obtain⟨m,f,pl,t,r,u,v⟩:=s.text h;refine⟨⟨m.1.A2 a (λk e a=>m.1.ne d (by decide) (e.trans (congrArg J a))),m.2⟩,f,pl,t,r.A2 a (λe=>?_),u,v⟩;subst e;obtain⟨_,B,a1,a2,a3,z,_⟩:=r;rw[z]at d;simp at d
def dU.Q7{l:Nat}{a:Z}(h:dU F w b pl l a toks)(u:Z):dU F (w.setCell ⟨b,1,S⟩ u) b pl l u toks:=by
 obtain⟨s,f,t,m,x,n,r,z,o,v,q,y,c,j,i⟩:=h;have d:Keeps (λk=>k=b) w (w.setCell ⟨b,1,S⟩ u):=(av (λk=>k=b) w).A3 (p:=⟨b,1,S⟩) (K rfl) _;exact⟨s,λk g=>dh (f k g) d.size,t,m,x,n,r,z,o,v,q,y,c,aB j _,⟨i.1.A2 d (λk e d=>i.1.ne j (by decide) (e.trans (congrArg J d))),i.2⟩⟩
def dU.cells{a:Z}(h:dU F w b pl f a toks):w.cell? ⟨b,1,S⟩=J a/\∀o,w.frozen? ⟨b,o,S⟩=H:=by
 obtain⟨-,-,m,g,p,i,l,r,j,n,k,q,c,d,-⟩:=h;obtain⟨-,c1,-,-,-,-,-,-,-,-,-,-,-,-,e⟩:=aN d;exact⟨c1,e⟩
end
def aDM(F:Nat->Prop)(w:V)(b g off:Nat)(x:Lx)(toks:List Tok)(c:UInt8)(h:cG F w b x H toks)(z:w.cell? ⟨g,off,S⟩=J (I au c.toNat))
 (j:ac T 115 #[aj b,I au c.toNat] w λe w'=>oY F w b toks (x.take c) (λ_ _=>.nilIface) e w'):
 ac T 82 #[aj b,O (g,off) 1 1] w λe w'=>oY F w b toks (x.take c) cU e w':=by
 obtain⟨y,c1,c2,v,u,s⟩:=h.cells;have G:=A h.1;have L:=A j;obtain⟨t,D⟩:∃t,x.take c=t:=⟨_,rfl⟩;rw[D]at L⊢;clear h j D;go_enter func82,ntmps82;go_wp2
 go_loopw [5] (λi wr=>(i=I U 0/\wr=w)\/(i=I U 1/\M (∃e,oY F w b toks t cU e wr))) (λi _=>1-(bu i).toNat)
 case atStart=>exact K ⟨rfl,rfl⟩
 case round=>
  rcases hrel with⟨rfl,rfl⟩|⟨rfl,m⟩
  .go_wp2_with fail;refine(L.o).mono ?_;rintro e w2 ⟨a,o,n⟩
   by_cases f:t.2.2.1=0
   .obtain⟨rfl,d⟩:=o f;obtain⟨-,B,-,-,-,N⟩:=d.cells;have l:=A d;have r:=A a;have q:=A f;clear o n d a f y c1 c2 v u s z;go_wp2
    go_roundw
    case rel=>
     refine ai ⟨by go_num,A ⟨af ar,r.o.A3 (p:=⟨b,1,S⟩) (K G.o) _,λ_=>⟨rfl,?_⟩,λe=>absurd q.o e⟩⟩;exact(l.o.Q7).mono (λk a=>a.N6 (by simp[bx])) (λk a=>l.o.Q7.lt k (a.N6 (by simp[bx])))
    case measure=>simp[bu]
   .obtain⟨rfl,pl,C,d⟩:=n f;obtain⟨B,N⟩:=d.cells;have l:=A d;have r:=A a;have q:=A f;clear o n d a f y c1 c2 v u s z;go_wp2
    go_roundw
    case rel=>
     refine ai ⟨by go_num,A ⟨af (cU t.2.2.1 t.2.2.2),r.o.A3 (p:=⟨b,1,S⟩) (K G.o) _,λe=>absurd e q.o,λ_=>⟨rfl,pl,C,?_⟩⟩⟩;exact(l.o.Q7 _).mono (λk a=>a.N6 (by simp[bx])) (λk a=>(l.o.Q7 (cU t.2.2.1 t.2.2.2)).2.1 k (a.N6 (by simp[bx])))
    case measure=>simp[bu]
  .obtain⟨P,a,o,n⟩:=m.o;clear m
   by_cases f:t.2.2.1=0
   .obtain⟨rfl,d⟩:=o f;obtain⟨-,B,-,-,-,-⟩:=d.cells;have l:=A d;have r:=A a;have q:=A f;clear o n d a f y c1 c2 v u s z;go_wp2;go_ret;exact⟨r.o,λ_=>⟨rfl,l.o⟩,λe=>absurd q.o e⟩
   .obtain⟨rfl,pl,C,d⟩:=n f;obtain⟨B,-⟩:=d.cells;have l:=A d;have r:=A a;have q:=A f;clear o n d a f y c1 c2 v u s z;go_wp2;go_ret;exact⟨r.o,λe=>absurd e q.o,λ_=>⟨rfl,pl,C,l.o⟩⟩
end
