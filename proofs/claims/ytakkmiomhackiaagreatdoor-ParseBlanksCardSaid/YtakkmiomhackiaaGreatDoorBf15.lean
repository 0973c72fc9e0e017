/-
  The program, one part of its walk. Conditions: none.
-/
import Derived.Test.YtakkmiomhackiaaGreatDoorBf14
set_option linter.all false
set_option maxRecDepth 100000
set_option maxHeartbeats 16000000
open Go.Proofs.Tryz
open Bool renaming and_eq_true->gk,false->W,true->I
open ByteArray renaming getElem_eq_getElem_data->gr,size->gq
open Except renaming error->ai,map->aw,ok->R,pure->fa
open Except.ok renaming injEq->ew
open Go renaming Calls->cg,Value->ac,World->ah,bodyPost_ret->go,lt_of_block->dl
open Go.Ending renaming returned->dj
open Go.IntKind renaming i64->au
open Go.Obj renaming cells->aj
open Go.Proofs.Tryz renaming func141->fi,ntmps141->fj,prog->cj,results194->gp
open Go.Proofs.YtakkmiomhackiaaGreatDoor.Fr renaming list->bm,object->Q
open Go.Proofs.YtakkmiomhackiaaGreatDoor.Keeps renaming A0->gl,A8->ck
open Go.Proofs.YtakkmiomhackiaaGreatDoor.Lx renaming B8->cu,C0->cr,D4->dt,E2->ep,take->eu,whole->bj
open Go.Proofs.YtakkmiomhackiaaGreatDoor.Pc renaming bad->T,cut->ag,ok->H
open Go.Proofs.YtakkmiomhackiaaGreatDoor.Ps renaming C4->ct,C5->av,C9->ao,D0->ev,D3->ba,E4->ez,F3->dp,J0->fv,J5->di,J6->fu,take->fz
open Go.Proofs.YtakkmiomhackiaaGreatDoor.Rr renaming C9->bk,L9->gd,M9->bz
open Go.Proofs.YtakkmiomhackiaaGreatDoor.St renaming digit->X,escape->bu,letterU->du,slash->cw,within->V
open Go.Proofs.YtakkmiomhackiaaGreatDoor.Sz renaming A9->gj
open Go.Proofs.YtakkmiomhackiaaGreatDoor.Tr renaming A5->dm,list->dx,object->dy
open Go.Proofs.YtakkmiomhackiaaGreatDoor.fB renaming object->em
open Go.RowKit.Below renaming heap_alloc->fk
open Go.Value renaming bool->bh,iface->fm,int->af,nilIface->gn,pointer->eh,slice->Z,string->ei,tuple->ek
open List renaming append_inj'->ee,append_nil->bc,concat_eq_append->dh,dropLast_concat->fg,drop_left->ge,drop_succ_cons->cv,drop_zero->ga,eq_nil_or_concat->cz,foldlM_cons->dq,getLast?_map->dw,length_append->ar,length_cons->Y,length_drop->bw,length_nil->fe,map_append->bx,map_singleton->fh,mem_append->eo,mem_cons->fw,mem_cons_of_mem->fq,mem_cons_self->ft,size_toArray->ej,take_left->gh,take_succ_cons->fc
open Nat renaming add_assoc->bp,add_sub_cancel->dv,le_refl->ae,le_trans->co,zero_add->gc,zero_le->ak
open Option renaming map_some->et,none->E,some->J
open Option.some renaming injEq->gm
open Or renaming inl->O,inr->U
namespace Go.Proofs.YtakkmiomhackiaaGreatDoor
open Go.RowKit
variable {D P a cd dg hi s want:Nat}{c:UInt8}{S:Oo}{neg:Bool}
section
def aJV:Tok->Prop
 | .mark _ _=>True
 | _=>False
def aE5(q want:Nat):Tok->Prop
 | .mark _ _=>q=0
 | .str _ _ _=>q=1\/(q=0/\(want=2\/want=3))
 | _=>q=1
def iW(q want:Nat):List Tok->Prop
 | []=>True
 | t::rest=>aE5 q want t/\∀u∈rest,aJV u
def iW.N3{l:List Tok}(h:∀u∈l,aJV u):iW 0 want l:=by
 cases l with
 | nil=>trivial
 | cons t l=>
  refine⟨?_,λu e=>h u (fq _ e)⟩;have d:=h t (ft ..);cases t with
  | mark a s=>rfl
  | term a b c=>exact d.elim
  | num a b c=>exact d.elim
  | str a b c=>exact d.elim
def iW.M5{q:Nat}{t:Tok}{l:List Tok}(h:iW q want (t::l)):iW 0 a l:=.N3 h.2
def fB.O7{b:List Fr}{a:List Tr}(h:fB D want b a)(d:want=4):fB D 0 b a:=by
 cases h with
 | new=>exact .new
 | done t c=>omega
 | list s _ h c d=>exact .list s 0 h c (O rfl)
 | object k s _ h c e=>exact em k s 0 h c (U ⟨U rfl,by omega⟩)
def fB.O8{a:List Fr}{b:List Tr}(h:fB D want a b)(f:want=5):fB D (if jB a=I then 3 else 0) a b:=by
 cases h with
 | new=>omega
 | done t d=>omega
 | @list c e s _ h d f=>
  have:jB (c++ [bm s.length])=W:=by unfold jB;simp
  rw[this,if_neg (by decide)];exact .list s 0 h d (O rfl)
 | @object c e k s _ h d g=>
  have:jB (c++ [Q k])=I:=by unfold jB;simp
  rw[this,if_pos rfl];exact em k s 3 h d (O ⟨U (O rfl),by omega⟩)
def fB.O3{a:List Fr}{c:List Tr}(h:fB D want a c)(f:want=2\/want=3)(d:Oo):
 ∃b k,a=b++ [Q k]/\fP a=k/\a.dropLast=b/\fB D 4 (b++ [Q (k++ [d])]) c:=by
 cases h with
 | new=>omega
 | done t e=>omega
 | list s _ h e f=>omega
 | @object b g k s _ h e i=>exact⟨b,k,rfl,by unfold fP;simp,by simp,em (k++ [d]) s 4 h e (U ⟨O rfl,by simp;omega⟩)⟩
section
variable {x y:Ps} {q:Nat}
def sQ(n:Oo):(jE n).A5=⟨1,0,1⟩:=by
 unfold jE;split
 .simp[dm]
 .simp[dm]
def cH.C5{t:Tok}(h:cH x q)(F:qE t)(n:aE5 q x.a t)(d:x.C5 po t=R y):cH y 0:=by
 cases t with
 | mark a s=>
  obtain rfl:q=0:=n;simp only[av]at d;unfold fu at d;split at d
  .cases i:x.D0 a with
   | error e=>rw[i]at d;cases d
   | ok z=>
    rw[i]at d;simp only[aw]at d;cases d;exact(h.D0 i).1.O1 (bm 0) (O ⟨rfl,rfl⟩) rfl
  .split at d
   .cases i:x.D0 a with
    | error e=>rw[i]at d;cases d
    | ok z=>
     rw[i]at d;simp only[aw]at d;cases d;exact(h.D0 i).1.O1 (Q []) (U ⟨rfl,rfl⟩) rfl
   .split at d
    .rename_i j;cases d;exact⟨h.h,h.c,h.g,h.bytes,h.f,h.d,h.b.O7 j.2,h.a,O rfl⟩
    .split at d
     .rename_i j;cases d;exact⟨h.h,h.c,h.g,h.bytes,h.f,h.d,h.b.O8 j.2,h.a,O rfl⟩
     .split at d
      .rename_i j;cases d;exact h.E9 j
      .cases d
 | term a b c=>
  obtain rfl:q=1:=n;simp only[av]at d;cases d;have g:=h.F7 (t:=jE c) (b:=0) (sQ c) (by have:=h.d;omega);unfold Ps.F7;rw[g.1];exact g.2
 | num a b c=>
  obtain rfl:q=1:=n;simp only[av]at d;cases d;have g:=h.F7 (t:=.num (dW c)) (b:=0) (by simp[dm]) (by have:=h.d;omega);unfold iR;rw[g.1];exact g.2
 | str a b c=>
  simp only[av]at d;unfold fv at d;rcases n with rfl|⟨rfl,P⟩
  .have o:=h.e;rw[if_pos (by omega)]at d;unfold dp at d;split at d
   .cases d
   .rename_i D;simp only[aw]at d;cases d;have p:cH {x with bytes:=x.bytes+c.length} 1:=⟨h.h,h.c,h.g,by show x.bytes+c.length<=2097152;omega,h.f,by have:=h.d;show jK x.b+fW x.e<=x.bytes+c.length;omega,h.b,h.a,h.e⟩;have g:=p.F7 (t:=.text c) (b:=c.length) (by simp[dm]) (by have:=h.d;show _<=x.bytes+c.length;show jK x.b+c.length+fW x.e<=_;omega);have C:gE x.b c=x.b++ [.text c]:=by unfold gE;rw[if_pos F.1];exact g.1
    rw[C];exact g.2
  .rw[if_neg (by omega)]at d;split at d
   .cases d
   .rename_i m;obtain⟨l,k,o,w,B,r⟩:=h.b.O3 P c;rw[w]at d m;rw[B]at d;unfold dp at d;simp only at d;split at d
    .cases d
    .rename_i D;simp only[aw]at d;cases d;have j:=h.f;have K:=h.c;have G:=h.d;rw[o]at j K G;rw[dZ,kT]at G;refine⟨h.h,?_,h.g,by show x.bytes+c.length<=2097152;omega,?_,?_,r,?_,O rfl⟩
     .simpa using K
     .simpa using j
     .show jK x.b+fW (l++ [Q (k++ [c])])<=x.bytes+c.length
      rw[dZ,kT];have e1:frB (Q (k++ [c]))=bD k+c.length:=sF k c;have e2:frB (Q k)=bD k:=rfl;omega
     .intro L f;have f:Q L∈l++ [Q (k++ [c])]:=f;rcases eo.1 f with f|f
      .exact h.a L (by rw[o];exact List.mem_append_left _ f)
      .simp at f;subst f;obtain⟨N,p⟩:=h.a k (by rw[o];simp);refine⟨?_,λs g=>?_⟩
       .rw[List.nodup_append];exact⟨N,by simp,λu S v i=>by simp at i;subst i;exact λe=>m (e▸S)⟩
       .rcases eo.1 g with g|g
        .exact p s g
        .simp at g;subst g;exact F.1
def eT(t:Tok)(toks:List Tok):x.D3 po (t::toks)=(x.C5 po t).bind λz=>z.D3 po toks:=by
 unfold ba;rw[dq];cases x.C5 po t<;>rfl
def pM{toks:List Tok}:∀{x y:Ps}{q:Nat},cH x q->(∀t∈toks,qE t)->iW q x.a toks->x.D3 po toks=R y->cH y (if toks= []then q else 0)/\(toks= []->y=x):=by
 induction toks with
 | nil=>intro x y q b _ _ h;cases h;exact⟨b,λ_=>rfl⟩
 | cons t toks f=>
  intro x y q b d c h;rw[eT]at h;cases a:x.C5 po t with
  | error e=>rw[a]at h;cases h
  | ok z=>
   rw[a]at h;have i:=b.C5 (d t (ft ..)) c.1 a;have g:=f i (λt h=>d t (fq _ h)) c.M5 h;rw[if_neg (by simp)];exact⟨by simpa using g.1,λe=>by simp at e⟩
end
def aC9:Tok->Prop
 | .term _ _ _=>True
 | .num _ _ _=>True
 | _=>False
def sR(x:Lx)(toks:List Tok):Prop:=
 (x.e=W/\∀u∈toks,aJV u)\/
 (x.e=I/\∃t rest,toks=t::rest/\(∀u∈rest,aJV u)/\((dJ x.j=I/\∃a n s,t=.str a n s)\/(dJ x.j=W/\aC9 t)))
def aGN:Tok->Nat
 | .mark a _=>a
 | .term a _ _=>a
 | .num a _ _=>a
 | .str a _ _=>a
def qF(x:Lx)(c:UInt8)(d:x.e=W):(∀u∈(aP x c).a,aJV u/\aGN u<=x.c)/\
 ((aP x c).c.e=I->(aP x c).c.a=x.c/\(c=34->(aP x c).b=0->dJ (aP x c).c.j=I))/\((aP x c).b≠0->(aP x c).b≠41):=by
 unfold aP;split
 .exact⟨λu a=>by simp at a,λh=>by simp[d]at h,λh=>absurd rfl h⟩
 .simp only[];split
  .refine⟨λu a=>?_,λh=>by simp[ep]at h,λh=>absurd rfl h⟩;simp at a;subst a;exact⟨trivial,ae _⟩
  .split
   .exact⟨λu a=>by simp at a,λ_=>⟨rfl,λ_ _=>rfl⟩,λh=>absurd rfl h⟩
   .rename_i b;split
    .unfold kX;split
     .exact⟨λu a=>by simp at a,λ_=>⟨rfl,λh=>absurd h b⟩,λh=>absurd rfl h⟩
     .exact⟨λu a=>by simp at a,λ_=>⟨rfl,λh=>absurd h b⟩,λ_=>(show(94:Nat)≠41 by decide)⟩
    .split
     .exact⟨λu a=>by simp at a,λ_=>⟨rfl,λh=>absurd h b⟩,λh=>absurd rfl h⟩
     .exact⟨λu a=>by simp at a,λ_=>⟨rfl,λh=>absurd h b⟩,λ_=>(show(94:Nat)≠41 by decide)⟩
def uC(x:Lx)(c:UInt8)(r:nH):Prop:=
 ((x.e=I/\r.a= []/\(r.b=0->r.c.e=I/\r.c.a=x.a/\(dJ x.j=I->dJ r.c.j=I)))\/
  (sR x r.a/\(r.b=0->r.c.e=I->r.c.a=x.c/\(c=34->dJ r.c.j=I))))/\(∀t∈r.a,aGN t<=x.c)/\(r.b=41->r.c.a<=x.c)
def uC.C7{x y:Lx}{no:Nat}(a:x.e=I)(g:x.a<=x.c)(d:y.e=I)(b:y.a=x.a)(f:dJ x.j=I->dJ y.j=I):uC x c ⟨y,[],no⟩:=
 ⟨O ⟨a,rfl,λ_=>⟨d,b,f⟩⟩,λt e=>by simp at e,λ_=>by show y.a<=_;omega⟩
def aE6{x:Lx}(p:x.Fine)(c:UInt8):uC x c (x.B4 c):=by
 have b:=p.a;have g:=p.e;unfold Lx.B4;cases d:x.j with
 | outside=>
  have a:x.e=W:=by rw[g,d];rfl
  obtain⟨m,l,n⟩:=qF x c a;exact⟨U ⟨O ⟨a,λu i=>(m u i).1⟩,λf hi=>⟨(l hi).1,λo=>(l hi).2 o f⟩⟩,λt e=>(m t e).2,λf=>absurd f (n (by rw[f];decide))⟩
 | letter=>
  have a:x.e=I:=by rw[g,d];rfl
  have j:dJ x.j=W:=by rw[d];rfl
  have k:¬dJ x.j=I:=by rw[j];decide
  simp only[cP];split
  .split
   .refine⟨U ⟨U ⟨a,_,[],rfl,λu i=>by simp at i,U ⟨j,trivial⟩⟩,λ_ h=>by simp[ep]at h⟩,λt e=>?_,λh=>by simp at h⟩;simp at e;subst e;exact b
   .exact .C7 a b a rfl (λh=>absurd h k)
  .exact .C7 a b a rfl (λh=>absurd h k)
 | numeral=>
  have a:x.e=I:=by rw[g,d];rfl
  have j:dJ x.j=W:=by rw[d];rfl
  have k:¬dJ x.j=I:=by rw[j];decide
  simp only[bX];cases q:aR x.number c with
  | some s=>exact .C7 a b a rfl (λh=>absurd h k)
  | none=>
   simp only[];split
   .unfold cr;cases r:bitsOf x.g with
    | none=>exact .C7 a b a rfl (λh=>absurd h k)
    | some v=>
     simp only[et];obtain⟨m,l,n⟩:=qF x.E2 c rfl;refine⟨U ⟨U ⟨a,_,_,rfl,λu i=>(m u i).1,U ⟨j,trivial⟩⟩,λf hi=>⟨(l hi).1,λo=>(l hi).2 o f⟩⟩,λt e=>?_,λf=>absurd f (n (by rw[f];decide))⟩;rcases fw.1 e with rfl|e
     .exact b
     .exact(m t e).2
   .exact .C7 a b a rfl (λh=>absurd h k)
 | within=>
  have a:x.e=I:=by rw[g,d];rfl
  have j:dJ x.j=I:=by rw[d];rfl
  simp only[bY];split
  .refine⟨U ⟨U ⟨a,_,[],rfl,λu i=>by simp at i,O ⟨j,_,_,_,rfl⟩⟩,λ_ h=>by simp[ep]at h⟩,λt e=>?_,λh=>by simp at h⟩;simp at e;subst e;exact b
  .split
   .exact .C7 a b a rfl (λ_=>rfl)
   .split
    .exact .C7 a b a rfl id
    .split
     .exact .C7 a b a rfl id
     .exact .C7 a b a rfl id
 | escape=>
  have a:x.e=I:=by rw[g,d];rfl
  simp only[dN];split
  .exact .C7 a b a rfl (λ_=>rfl)
  .split
   .exact .C7 a b a rfl id
   .exact .C7 a b a rfl (λ_=>rfl)
 | digit=>
  have a:x.e=I:=by rw[g,d];rfl
  simp only[dH];split
  .exact .C7 a b a rfl id
  .split
   .exact .C7 a b a rfl id
   .split
    .unfold bj;split
     .exact .C7 a b a rfl (λ_=>rfl)
     .split
      .exact .C7 a b a rfl (λ_=>rfl)
      .exact .C7 a b a rfl (λ_=>rfl)
    .exact .C7 a b a rfl id
 | slash=>
  have a:x.e=I:=by rw[g,d];rfl
  simp only[fD];split
  .exact .C7 a b a rfl (λ_=>rfl)
  .exact .C7 a b a rfl id
 | letterU=>
  have a:x.e=I:=by rw[g,d];rfl
  simp only[dS];split
  .exact .C7 a b a rfl (λ_=>rfl)
  .exact .C7 a b a rfl id
def aHD(x:Lx)(c:UInt8)(r:Lx×List Tok×Nat×Nat):Prop:=
 ((x.e=I/\r.2.1= []/\(r.2.2.1=0->r.1.e=I/\r.1.a=x.a/\(dJ x.j=I->dJ r.1.j=I)))\/
  (sR x r.2.1/\(r.2.2.1=0->r.1.e=I->r.1.a=x.c/\(c=34->dJ r.1.j=I))))/\(∀t∈r.2.1,aGN t<=x.c)/\(r.2.2.1≠0->r.2.2.2<=x.c)/\(r.2.2.1=0->r.1.c=x.c+1)
def qU{x:Lx}(f:x.Fine)(c:UInt8):aHD x c (x.take c):=by
 unfold eu;split
 .refine⟨?_,λt i=>by simp at i,λ_=>ae _,λh=>by simp at h⟩;cases hi:x.e with
  | true=>exact O ⟨rfl,rfl,λh=>by simp at h⟩
  | false=>exact U ⟨O ⟨hi,λu g=>by simp at g⟩,λh=>by simp at h⟩
 .have h:=aE6 f c;simp only[];split
  .rename_i b;refine⟨?_,h.2.1,λh=>absurd rfl h,λ_=>rfl⟩;rcases h.1 with⟨a,d,j⟩|⟨a,d⟩
   .exact O ⟨a,d,λ_=>j b⟩
   .exact U ⟨a,λ_=>d b⟩
  .rename_i b;refine⟨?_,h.2.1,λ_=>?_,λh=>absurd h b⟩
   .rcases h.1 with⟨a,d,-⟩|⟨a,-⟩
    .exact O ⟨a,d,λh=>absurd h b⟩
    .exact U ⟨a,λh=>absurd h b⟩
   .show(if _ then _ else _)<=_
    split
    .rename_i e;exact h.2.2 e
    .exact ae _
def bW(x:Ps):Nat:=if x.d.e=I/\(x.a=0\/x.a=1)then 1 else 0
structure fF(x:Ps):Prop where
 ps:cH x (bW x)
 a:x.d.Fine
 tok:x.d.e=I->x.d.a<x.d.c/\((x.a=0\/x.a=1)\/((x.a=2\/x.a=3)/\dJ x.d.j=I))
 c:x.c=x.d.c
def cH.P8{x:Ps}{q:Nat}(h:cH x q)(l:Lx):cH {x with d:=l} q:=⟨h.h,h.c,h.g,h.bytes,h.f,h.d,h.b,h.a,h.e⟩
def fF.N4{x:Ps}(h:fF x){toks:List Tok}(i:sR x.d toks):iW (bW x) x.a toks:=by
 rcases i with⟨hi,f⟩|⟨hi,t,rest,rfl,f,j⟩
 .have:bW x=0:=by unfold bW;rw[if_neg (by rw[hi];simp)]
  rw[this];exact .N3 f
 .refine⟨?_,f⟩;have d:=(h.tok hi).2;rcases j with⟨-,a,n,s,rfl⟩|⟨l,g⟩
  .rcases d with d|⟨d,_⟩
   .exact O (by unfold bW;rw[if_pos ⟨hi,d⟩])
   .exact U ⟨by unfold bW;rw[if_neg (by omega)],d⟩
  .have e:x.a=0\/x.a=1:=by
    rcases d with d|⟨_,d⟩
    .exact d
    .rw[l]at d;cases d
   have k:bW x=1:=by unfold bW;rw[if_pos ⟨hi,e⟩]
   rw[k];cases t with
   | mark a s=>exact g.elim
   | term a b c=>rfl
   | num a b c=>rfl
   | str a b c=>exact g.elim
def aBI{x:Ps}(h:fF x)(c:UInt8):iW (bW x) x.a (x.d.take c).2.1:=by
 rcases(qU h.a c).1 with⟨_,a,_⟩|⟨a,_⟩
 .rw[a];trivial
 .exact h.N4 a
def kA{x y:Ps}(h:x.D0 a=R y):y.d=x.d/\y.c=x.c/\y.a=x.a:=by
 unfold ev at h
 repeat' (split at h)
 all_goals first|(cases h;exact⟨rfl,rfl,rfl⟩)|cases h
def vE{x y:Ps}{l:Oo}(h:x.F3 l a=R y):y.d=x.d/\y.c=x.c:=by
 unfold dp at h;split at h
 .cases h
 .cases h;exact⟨rfl,rfl⟩
def aDa{x y:Ps}{t:Tok}(h:x.C5 po t=R y):y.d=x.d/\y.c=x.c:=by
 cases t with
 | mark a s=>
  simp only[av]at h;unfold fu at h;split at h
  .cases d:x.D0 a with
   | error e=>rw[d]at h;cases h
   | ok z=>rw[d]at h;simp only[aw]at h;cases h;have f:=kA d;exact⟨f.1,f.2.1⟩
  .split at h
   .cases d:x.D0 a with
    | error e=>rw[d]at h;cases h
    | ok z=>rw[d]at h;simp only[aw]at h;cases h;have f:=kA d;exact⟨f.1,f.2.1⟩
   .split at h
    .cases h;exact⟨rfl,rfl⟩
    .split at h
     .cases h;exact⟨rfl,rfl⟩
     .split at h
      .cases h;unfold ct;split<;>exact⟨rfl,rfl⟩
      .cases h
 | term a b c=>simp only[av]at h;cases h;exact⟨rfl,rfl⟩
 | num a b c=>simp only[av]at h;cases h;exact⟨rfl,rfl⟩
 | str a b c=>
  simp only[av]at h;unfold fv at h;split at h
  .cases d:x.F3 c a with
   | error e=>rw[d]at h;cases h
   | ok z=>rw[d]at h;simp only[aw]at h;cases h;have f:=vE d;exact⟨f.1,f.2⟩
  .split at h
   .cases h
   .cases d:dp {x with e:=x.e.dropLast++ [Q (fP x.e++ [c])]} c a with
    | error e=>rw[d]at h;cases h
    | ok z=>rw[d]at h;simp only[aw]at h;cases h;have f:=vE (x:={x with e:=x.e.dropLast++ [Q (fP x.e++ [c])]}) d;exact⟨f.1,f.2⟩
def oK{toks:List Tok}:∀{x y:Ps},x.D3 po toks=R y->y.d=x.d/\y.c=x.c:=by
 induction toks with
 | nil=>intro x y h;cases h;exact⟨rfl,rfl⟩
 | cons t toks d=>
  intro x y h;rw[eT]at h;cases a:x.C5 po t with
  | error e=>rw[a]at h;cases h
  | ok z=>
   rw[a]at h;have c:=d h;have b:=aDa a;exact⟨c.1.trans b.1,c.2.trans b.2⟩
def sS(c:UInt8)(r:Lx×List Tok×Nat×Nat)(d:Out):Out:=match d with
 | .error e=>ai e
 | .ok q=>if r.2.2.1≠0 then ai (nO r.2.2.1,r.2.2.2)else match(if r.1.D4=1 then q.F9 c else R q)with
  | .error e=>ai e
  | .ok q=>R {q with c:=q.c+1}
def fF.take{x y:Ps}(a:fF x)(h:x.take po c=R y):fF y:=by
 have u:=qU a.a c;have w:=aAU a.a c;have m:x.take po c=sS c (x.d.take c) (ba po {x with d:=(x.d.take c).1} (x.d.take c).2.1):=rfl;obtain⟨r,hr⟩:∃r,x.d.take c=r:=⟨_,rfl⟩;rw[hr]at m u w;rw[m]at h;cases B:ba po {x with d:=r.1} r.2.1 with
 | error e=>rw[B]at h;cases h
 | ok z=>
  rw[B]at h;simp only[sS]at h
  by_cases l:r.2.2.1=0
  .rw[if_neg (λh=>h l)]at h;have d:=u.2.2.2 l;have j:=w.1 l;have D:=oK B;have f:z.d=r.1:=D.1;have s:z.c=x.c:=D.2;rcases u.1 with⟨i,L,P⟩|⟨K,G⟩
   .obtain⟨g1,g2,g3⟩:=P l;obtain⟨hlt,hw⟩:=a.tok i;have F:r.1.D4≠1:=by unfold dt;rw[g1,if_pos rfl,d,g2];omega
    rw[if_neg F]at h;simp only[ew]at h;subst h;rw[L]at B;cases B;have k:bW {x with d:=r.1,c:=x.c+1}=bW x:=by unfold bW;simp only[];rw[g1,i]
    refine⟨?_,j,λ_=>⟨by show r.1.a<r.1.c;rw[g2,d];omega,?_⟩,by show x.c+1=r.1.c;rw[d,a.c]⟩
    .show cH _ (bW {x with d:=r.1,c:=x.c+1})
     rw[k];have p:=a.ps;exact⟨p.h,p.c,p.g,p.bytes,p.f,p.d,p.b,p.a,p.e⟩
    .exact hw.imp id (λh=>⟨h.1,g3 h.2⟩)
   .have hps:cH {x with d:=r.1} (bW x):=a.ps.P8 r.1;have hdr:=pM hps w.2 (a.N4 K) B
    have g:cH z 0:=by
     have N:=hdr.1
     by_cases he:r.2.1= []
     .rw[if_pos he]at N
      have S:bW x=0:=by
       rcases K with⟨hi,_⟩|⟨-,t,rest,e,_⟩
       .unfold bW;rw[if_neg (by rw[hi];simp)]
       .rw[he]at e;cases e
      rwa[S]at N
     .rwa[if_neg he]at N
    cases i:r.1.e with
    | false=>
     have F:r.1.D4≠1:=by unfold dt;rw[i];simp
     rw[if_neg F]at h;simp only[ew]at h;subst h;have k:bW {z with c:=z.c+1}=0:=by unfold bW;simp only[];rw[f,i];simp
     refine⟨?_,by show z.d.Fine;rw[f];exact j,λh=>?_,by show z.c+1=z.d.c;rw[f,s,d,a.c]⟩
     .show cH _ (bW {z with c:=z.c+1})
      rw[k];exact⟨g.h,g.c,g.g,g.bytes,g.f,g.d,g.b,g.a,g.e⟩
     .have h:z.d.e=I:=h;rw[f,i]at h;cases h
    | true=>
     obtain⟨b1,b2⟩:=G l i;have F:r.1.D4=1:=by unfold dt;rw[i,if_pos rfl,d,b1];omega
     rw[if_pos F]at h;cases q:z.F9 c with
     | error e=>rw[q]at h;cases h
     | ok v=>
      rw[q]at h;simp only[ew]at h;subst h;unfold Ps.F9 at q;split at q
      .rename_i hc;cases q;have k:bW {z with c:=z.c+1}=0:=by unfold bW;rw[if_neg (by show ¬(_/\(z.a=0\/z.a=1));omega)]
       refine⟨?_,by show z.d.Fine;rw[f];exact j,λ_=>⟨by show z.d.a<z.d.c;rw[f,b1,d];omega,U ⟨hc.2,by show dJ z.d.j=I;rw[f];exact b2 hc.1⟩⟩,by show z.c+1=z.d.c;rw[f,s,d,a.c]⟩
       show cH _ (bW {z with c:=z.c+1})
       rw[k];exact⟨g.h,g.c,g.g,g.bytes,g.f,g.d,g.b,g.a,g.e⟩
      .obtain⟨b,C,-⟩:=g.D0 q;have n:=kA q;have o:v.d=r.1:=n.1.trans f;have k:bW {v with c:=v.c+1}=1:=by unfold bW;rw[if_pos ⟨by show v.d.e=I;rw[o,i],by show v.a=0\/v.a=1;rw[n.2.2];exact C⟩]
       refine⟨?_,by show v.d.Fine;rw[o];exact j,λ_=>⟨by show v.d.a<v.d.c;rw[o,b1,d];omega,O (by show v.a=0\/v.a=1;rw[n.2.2];exact C)⟩,by show v.c+1=v.d.c;rw[o,n.2.1,s,d,a.c]⟩
       show cH _ (bW {v with c:=v.c+1})
       rw[k];exact⟨b.h,b.c,b.g,b.bytes,b.f,b.d,b.b,b.a,b.e⟩
  .rw[if_pos l]at h;cases h
def pN(d:Nat)(a:d<=512):fF (Ps.G5 d):=⟨⟨a,ak _,ak _,ak _,ak _,ak _,.new,λk h=>(by cases h),O rfl⟩,aJS,λh=>(by cases h),rfl⟩
def fF.E4{l:Oo}:∀{x y:Ps},fF x->x.E4 po l=R y->fF y:=by
 induction l with
 | nil=>intro x y b h;cases h;exact b
 | cons c l d=>
  intro x y b h;unfold ez at h;rw[dq]at h;cases a:x.take po c with
  | error e=>rw[a]at h;cases h
  | ok z=>
   rw[a]at h;exact d (b.take a) h
def vF{x:Lx}(c:x.Fine):((x.B8.2.1= [])\/sR x x.B8.2.1)/\(∀t∈x.B8.2.1,aGN t<=x.c)/\x.B8.2.2.2<=x.c/\(x.B8.2.2.1=0->x.B8.1.e=W)/\(bL x.number=I->x.e=I->x.j=.numeral):=by
 have d:bL x.number=I->x.e=I->x.j=.numeral:=by
  intro b hi;cases a:x.j with
  | numeral=>rfl
  | outside=>rw[c.e,a]at hi;cases hi
  | letter=>rw[(c.letter a).1]at b;cases b
  | within=>rw[(c.text (by rw[a];rfl)).1]at b;cases b
  | escape=>rw[(c.text (by rw[a];rfl)).1]at b;cases b
  | digit=>rw[(c.text (by rw[a];rfl)).1]at b;cases b
  | slash=>rw[(c.text (by rw[a];rfl)).1]at b;cases b
  | letterU=>rw[(c.text (by rw[a];rfl)).1]at b;cases b
 refine⟨?_,?_,?_,?_,d⟩
 .unfold cu;split
  .exact O rfl
  .rename_i hi;split
   .exact O rfl
   .rename_i b;unfold cr;cases g:bitsOf x.g with
    | none=>exact O rfl
    | some v=>
     have f:x.e=I:=by simpa using hi
     have a:=d (by simpa using b) f;exact U (U ⟨f,_,[],rfl,λu i=>by simp at i,U ⟨by rw[a];rfl,trivial⟩⟩)
 .unfold cu;split
  .intro t e;simp at e
  .split
   .intro t e;simp at e
   .unfold cr;cases g:bitsOf x.g with
    | none=>intro t e;simp at e
    | some v=>intro t e;simp at e;subst e;exact c.a
 .unfold cu;split
  .exact ak _
  .split
   .exact ae _
   .unfold cr;cases g:bitsOf x.g with
    | none=>exact c.a
    | some v=>exact ak _
 .unfold cu;split
  .rename_i hi;exact λ_=>hi
  .split
   .intro h;simp at h
   .unfold cr;cases g:bitsOf x.g with
    | none=>intro h;simp at h
    | some v=>intro _;rfl
def qV(r:Lx×List Tok×Nat×Nat)(d:Out):Out:=match d with
 | .error e=>ai e
 | .ok q=>if r.2.2.1≠0 then ai (nO r.2.2.1,r.2.2.2)else if q.a≠6 then ai (95,q.c)else R q
def fF.N5{x:Ps}(h:fF x):iW (bW x) x.a x.d.B8.2.1:=by
 rcases(vF h.a).1 with a|a
 .rw[a];trivial
 .exact h.N4 a
def aE7{x y:Ps}(h:fF x)(a:x.C0 po=R y):∃t,y.b= [t]:=by
 have b:x.C0 po=qV x.d.B8 (ba po {x with d:=x.d.B8.1} x.d.B8.2.1):=rfl;rw[b]at a;cases c:ba po {x with d:=x.d.B8.1} x.d.B8.2.1 with
 | error e=>rw[c]at a;cases a
 | ok z=>
  rw[c]at a;simp only[qV]at a;split at a
  .cases a
  .split at a
   .cases a
   .rename_i g;cases a;have d:=pM (h.ps.P8 x.d.B8.1) (λt f=>qT t f) h.N5 c;exact(d.1.b.Q0.2.2.2 (by omega)).2
end
def Ps.C8(p:Ps)(x:Lx):Ps:={p with d:=x,c:=x.c}
def eG(p:Ps){x y:Lx}{c:UInt8}(h:x.B4 c=⟨y,[],0⟩)(d:x.c<16777216)(hi:y.e=I)(e:y.a<x.c):(p.C8 x).take po c=R (p.C8 {y with c:=x.c+1}):=by
 have a:¬x.c=16777216:=by omega
 have b:¬x.c+1-y.a=1:=by omega
 simp[fz,eu,Ps.C8,a,h,ba,dt,hi,b,pure,fa]
def eZ(p:Ps){x y:Lx}{c:UInt8}{no:Nat}(h:x.B4 c=⟨y,[],no⟩)(e:x.c<16777216)(d:no≠0)(a:no≠41):(p.C8 x).take po c=ai (nO no,x.c):=by
 have b:¬x.c=16777216:=by omega
 simp[fz,eu,Ps.C8,b,h,ba,d,a,pure,fa]
def wM{p q:Ps}{t:Oo}(h:p.take po c=R q):p.E4 po (c::t)=q.E4 po t:=by
 unfold ez;rw[dq,h];rfl
def gX{p:Ps}{t:Oo}{e:Nat×Nat}(h:p.take po c=ai e):p.E4 po (c::t)=ai e:=by
 unfold ez;rw[dq,h];rfl
def Goes(p:Ps)(l:List UInt8):Pc (Ps×List UInt8)->Prop
 | .cut=>∃q,p.E4 po l=R q/\q.C0 po=ai (95,p.c+l.length)
 | .bad no a=>p.E4 po l=ai (no,a)
 | .ok x=>p.E4 po l=x.1.E4 po x.2/\(fF p->fF x.1)
def Goes.C3{p q:Ps}{t:Oo}(h:p.take po c=R q)(d:q.c=p.c+1):∀{o:Pc (Ps×Oo)},Goes q t o->Goes p (c::t) o
 | .cut,⟨r,b,e⟩=>⟨r,by rw[wM h];exact b,by rw[e,d,Y];congr 2;omega⟩
 | .bad no a,b=>by show p.E4 po _=_;rw[wM h];exact b
 | .ok x,b=>⟨by rw[wM h];exact b.1,λd=>b.2 (d.take h)⟩
def Goes.L6{p q:Ps}{l r:Oo}(h:Goes p l (H (q,r)))(c:q.c+r.length=p.c+l.length):∀{o:Pc (Ps×Oo)},Goes q r o->Goes p l o
 | .cut,⟨x,b,d⟩=>⟨x,h.1.trans b,by rw[d,c]⟩
 | .bad no a,b=>h.1.trans b
 | .ok x,b=>⟨h.1.trans b.1,λc=>b.2 (h.2 c)⟩
def kB(p:Ps){x:Lx}(hi:x.e=I)(a:bL x.number=W):Goes (p.C8 x) [] ag:=by
 refine⟨p.C8 x,rfl,?_⟩;simp[Ps.C0,cu,Ps.C8,hi,a,ba,nO,pure,fa]
abbrev aK(a:St)(P s:Nat)(held S:List UInt8)(dg cd hi:Nat):Lx:=⟨P,a,I,s,[],0,held,S,dg,cd,hi⟩
def aDb{h:UInt8}{t:Oo}(a:(aC h).B9 (h::t).length c=I):
 (aK V P s (h::t) S dg cd hi).B4 c=⟨aK V P s (if(h::t).length+1=(aC h).a then []else(h::t)++ [c]) (S++ [c]) dg cd hi,[],0⟩:=by
 show bY _ c=_
 unfold bY;simp only[reduceCtorEq,false_and,if_false]
 have:aO (h::t) c=J (if(h::t).length+1=(aC h).a then []else(h::t)++ [c]):=by
  unfold aO;simp only;rw[if_pos a];split<;>rfl
 rw[this]
def wB{h:UInt8}{t:Oo}(a:(aC h).B9 (h::t).length c=W):
 (aK V P s (h::t) S dg cd hi).B4 c=⟨aK V P s (h::t) S dg cd hi,[],90⟩:=by
 show bY _ c=_
 unfold bY;simp only[reduceCtorEq,false_and,if_false]
 have:aO (h::t) c=E:=by
  unfold aO;simp only;rw[a];rfl
 rw[this]
def aAW(p:Ps)(b s dg cd:Nat)(h:UInt8)(o:s<b):∀(m:Nat)(t l S:Oo),(aC h).a=(h::t).length+(m+1)->b+(h::t).length+l.length<=16777216->
 Goes (p.C8 (aK V (b+(h::t).length) s (h::t) S dg cd 0)) l
  (match cJ (aC h) (m+1) (h::t).length l with
   | .cut=>ag
   | .bad no a=>T no (b+a)
   | .ok n=>H (p.C8 (aK V (b+n) s [] (S++l.take (m+1)) dg cd 0),l.drop (m+1)))
 | m,t,[],S,_,_=>kB p rfl rfl
 | m,t,c::l,S,k,f=>by
  have e:(c::l).length=l.length+1:=rfl;rw[e]at f;rw[cJ]
  by_cases d:(aC h).B9 (h::t).length c=I
  .rw[if_pos d];have i:=eG p (aDb (P:=b+(h::t).length) (s:=s) (S:=S) (dg:=dg) (cd:=cd) (hi:=0) d) (show b+(h::t).length<16777216 by omega) rfl (show s<b+(h::t).length by omega);refine Goes.C3 i rfl ?_;cases m with
   | zero=>
    rw[if_pos (by omega),cJ,fc,List.take_zero,cv,ga];exact⟨rfl,id⟩
   | succ m=>
    rw[if_neg (by omega)];have g:=aAW p b s dg cd h o m (t++ [c]) l (S++ [c]) (by simp at k⊢;omega) (by simp at f⊢;omega);have j:(h::(t++ [c])).length=(h::t).length+1:=by simp
    rw[j]at g;rw[fc,cv,show S++c::l.take (m+1)=S++ [c]++l.take (m+1) by simp];exact g
  .rw[if_neg d];exact gX (eZ p (wB (by simpa using d)) (show b+(h::t).length<16777216 by omega) (by decide) (by decide))
def aBJ(d:c≠34)(a:c≠92)(e:¬c.toNat<32)(b:(aC c).a≠0):
 (aK V P s [] S dg cd hi).B4 c=⟨aK V P s (if 1<(aC c).a then [c]else []) (S++ [c]) dg cd hi,[],0⟩:=by
 show bY _ c=_
 unfold bY;rw[if_neg (λh=>d h.2),if_neg (λh=>a h.2),if_neg (λh=>e h.2)]
 have:aO [] c=J (if 1<(aC c).a then [c]else []):=by
  unfold aO;simp only;rw[if_neg b];split<;>rfl
 show(match aO [] c with|none=>_|some h=>_)=_
 rw[this]
def uD(d:c≠34)(a:c≠92)(e:¬c.toNat<32)(b:(aC c).a=0):
 (aK V P s [] S dg cd hi).B4 c=⟨aK V P s [] S dg cd hi,[],90⟩:=by
 show bY _ c=_
 unfold bY;rw[if_neg (λh=>d h.2),if_neg (λh=>a h.2),if_neg (λh=>e h.2)]
 have:aO [] c=E:=by
  unfold aO;simp only;rw[if_pos b]
 show(match aO [] c with|none=>_|some h=>_)=_
 rw[this]
def aHE(p:Ps)(P s dg cd:Nat)(c:UInt8)(l S:Oo)(f:c≠34)(e:c≠92)(g:¬c.toNat<32)(j:s<P)(k:P+(c::l).length<=16777216):
 Goes (p.C8 (aK V P s [] S dg cd 0)) (c::l)
  (match eC (c::l)with
   | .cut=>ag
   | .bad no a=>T no (P+a)
   | .ok n=>H (p.C8 (aK V (P+n) s [] (S++(c::l).take n) dg cd 0),l.drop (n-1))):=by
 rw[Y]at k;unfold eC;simp only
 by_cases b:(aC c).a=0
 .rw[if_pos b];exact gX (eZ p (uD f e g b) (show P<16777216 by omega) (by decide) (by decide))
 .rw[if_neg b];refine Goes.C3 (eG p (aBJ f e g b) (show P<16777216 by omega) rfl j) rfl ?_;obtain⟨m,r⟩:∃m,(aC c).a-1=m:=⟨_,rfl⟩;rw[r];cases m with
  | zero=>
   rw[if_neg (by omega),cJ];exact⟨rfl,id⟩
  | succ m=>
   rw[if_pos (by omega)];have:=aAW p P s dg cd c j m [] l (S++ [c]) (by simp;omega) (by simp;omega)
   have o:∀n,cJ (aC c) (m+1) 1 l=H n->n=m+1+1:=by
    have:∀(m i n:Nat)(l:Oo),cJ (aC c) m i l=H n->n=i+m:=by
     intro m
     induction m with
     | zero=>intro i n l h;cases l<;>(unfold cJ at h;cases h;rfl)
     | succ m t=>
      intro i n l h;cases l with
      | nil=>unfold cJ at h;cases h
      | cons d u=>
       unfold cJ at h;split at h
       .have:=t _ _ _ h;omega
       .cases h
    intro n h;have:=this _ _ _ _ h;omega
   simp only[Y,fe,gc]at this;revert this;cases q:cJ (aC c) (m+1) 1 l with
   | cut=>exact id
   | bad no a=>exact id
   | ok n=>
    have:=o n q;subst this;intro h
    show Goes _ l (H (p.C8 (aK V (P+(m+1+1)) s [] (S++(c::l).take (m+1+1)) dg cd 0),l.drop (m+1)))
    rw[fc,show S++c::l.take (m+1)=S++ [c]++l.take (m+1) by simp];exact h
def uE(p:Ps)(b s:Nat)(f:Bool)(hi:Nat)(j:f=decide (hi≠0))(S:Oo)(x:s<b):∀(m n:Nat)(l:Oo),m<=3->b+(3-m)+l.length<=16777216->
 Goes (p.C8 (aK X (b+(3-m)) s [] S (3-m) n hi)) l
  (match cX f (m+1) n l with
   | .cut=>ag
   | .bad no a=>T no (b+a)
   | .ok v=>H (p.C8 {(aK X b s [] S 4 v hi).whole with c:=b+4},l.drop (m+1)))
 | m,n,[],_,_=>kB p rfl rfl
 | m,n,c::l,z,w=>by
  rw[Y]at w;rw[cX];have d:(aK X (b+(3-m)) s [] S (3-m) n hi).B4 c=dH (aK X (b+(3-m)) s [] S (3-m) n hi) c:=rfl;cases o:hexOf c with
  | none=>
   have i:dH (aK X (b+(3-m)) s [] S (3-m) n hi) c=⟨aK X (b+(3-m)) s [] S (3-m) n hi,[],if f then 93 else 92⟩:=by
    unfold dH;rw[o,j]
    by_cases h:hi=0<;>simp[h]
   have:=gX (t:=l) (eZ p (d.trans i) (show b+(3-m)<16777216 by omega) (by cases f<;>decide) (by cases f<;>decide));refine this.trans ?_;cases f<;>rfl
  | some v=>
   simp only
   have g:(aK X (b+(3-m)) s [] S (3-m) n hi).I9 v=gV f (3-m) n v:=by
    unfold Lx.I9 gV;rw[j]
    by_cases h:hi=0
    .subst h;simp
    .simp only[h,not_false_eq_true,true_and,decide_true,if_true,ne_eq]
     by_cases q:3-m=0
     .simp[q]
     .by_cases r:3-m=1
      .simp[r]
      .simp[q,r]
   by_cases k:gV f (3-m) n v=I
   .rw[if_pos k]
    have i:dH (aK X (b+(3-m)) s [] S (3-m) n hi) c=⟨aK X (b+(3-m)) s [] S (3-m) n hi,[],93⟩:=by
     unfold dH;rw[o];simp only;rw[g,if_pos k]
    exact gX (eZ p (d.trans i) (show b+(3-m)<16777216 by omega) (by decide) (by decide))
   .rw[if_neg k]
    have i:dH (aK X (b+(3-m)) s [] S (3-m) n hi) c=⟨if(3-m)+1=4 then(aK X (b+(3-m)) s [] S (3-m+1) (n*16+v) hi).whole else aK X (b+(3-m)) s [] S (3-m+1) (n*16+v) hi,[],0⟩:=by
     unfold dH;rw[o];simp only;rw[g,if_neg k]
    rw[Nat.mul_comm 16 n];cases m with
    | zero=>
     rw[if_pos rfl]at i;refine Goes.C3 (eG p (d.trans i) (show b+3<16777216 by omega) ?_ ?_) rfl ?_
     .unfold bj;split
      .rfl
      .split<;>rfl
     .have:(aK X (b+(3-0)) s [] S (3-0+1) (n*16+v) hi).whole.a=s:=by
       unfold bj;split
       .rfl
       .split<;>rfl
      rw[this]
      show s<b+3
      omega
     .rw[cX];simp only[cv,ga]
      have e:({(aK X (b+(3-0)) s [] S (3-0+1) (n*16+v) hi).whole with c:=b+(3-0)+1}:Lx)={(aK X b s [] S 4 (n*16+v) hi).whole with c:=b+4}:=by
       unfold bj;simp only;split
       .rfl
       .split<;>rfl
      show Goes (p.C8 {(aK X (b+(3-0)) s [] S (3-0+1) (n*16+v) hi).whole with c:=b+(3-0)+1}) l _
      rw[e];exact⟨rfl,id⟩
    | succ m=>
     rw[if_neg (by omega)]at i;refine Goes.C3 (eG p (d.trans i) (show b+(3-(m+1))<16777216 by omega) rfl (show s<b+(3-(m+1)) by omega)) rfl ?_;have y:=uE p b s f hi j S x m (n*16+v) l (by omega) (by omega);rw[cv];have u:3-(m+1)+1=3-m:=by omega
     rw[u]
     show Goes (p.C8 (aK X (b+(3-(m+1))+1) s [] S (3-m) (n*16+v) hi)) l _
     rw[bp,u];exact y
def aLg(p:Ps)(P s:Nat)(S:List UInt8)(l:List UInt8):Pc (List UInt8×Nat)->Pc (Ps×List UInt8)->Prop
 | .cut,o=>o=ag
 | .bad no a,o=>o=T no (P+a)
 | .ok x,o=>1<=x.2/\x.2<=l.length/\∃dg cd,o=H (p.C8 (aK V (P+x.2) s [] (S++x.1) dg cd 0),l.drop x.2)
def oL{a:Bool}:∀{m n v:Nat}{l:Oo},cX a m n l=H v->m<=l.length
 | 0,_,_,_,_=>ak _
 | m+1,_,_,[],h=>by unfold cX at h;cases h
 | m+1,n,v,c::l,h=>by
  unfold cX at h;cases b:hexOf c with
  | none=>rw[b]at h;cases h
  | some x=>
   rw[b]at h;simp only at h;split at h
   .cases h
   .have:=oL h;rw[Y];omega
def aDc{f:Form}:∀{m i n:Nat}{l:Oo},cJ f m i l=H n->n=i+m/\m<=l.length
 | 0,_,_,_,h=>by unfold cJ at h;cases h;exact⟨rfl,ak _⟩
 | m+1,_,_,[],h=>by unfold cJ at h;cases h
 | m+1,i,n,c::l,h=>by
  unfold cJ at h;split at h
  .obtain⟨b,a⟩:=aDc h;rw[Y];omega
  .cases h
def aDd{l:Oo}{n:Nat}(h:eC (c::l)=H n):1<=n/\n<=(c::l).length:=by
 unfold eC at h;simp only at h;split at h
 .cases h
 .obtain⟨b,a⟩:=aDc h;rw[Y];omega
def aAe:(aK bu P s [] S dg cd 0).B4 117=⟨aK X P s [] S 0 0 0,[],0⟩:=rfl
def aAf{b:UInt8}(h:c≠117)(a:cO c=J b):(aK bu P s [] S dg cd 0).B4 c=⟨aK V P s [] (S++ [b]) dg cd 0,[],0⟩:=by
 show dN _ c=_
 unfold dN;rw[if_neg h,a]
def wC(h:c≠117)(a:cO c=E):(aK bu P s [] S dg cd 0).B4 c=⟨aK bu P s [] S dg cd 0,[],92⟩:=by
 show dN _ c=_
 unfold dN;rw[if_neg h,a]
def aBK:(aK cw P s [] S dg cd hi).B4 92=⟨aK du P s [] S dg cd hi,[],0⟩:=rfl
def x8(h:c≠92):(aK cw P s [] S dg cd hi).B4 c=⟨aK cw P s [] S dg cd hi,[],93⟩:=by
 show fD _ c=_
 unfold fD;rw[if_neg h]
def yA:(aK du P s [] S dg cd hi).B4 117=⟨aK X P s [] S 0 0 hi,[],0⟩:=rfl
def uF(h:c≠117):(aK du P s [] S dg cd hi).B4 c=⟨aK du P s [] S dg cd hi,[],93⟩:=by
 show dS _ c=_
 unfold dS;rw[if_neg h]
def aJW(p:Ps)(P s n dg cd:Nat)(S l:Oo)(g:n≠0)(q:s<P)(f:P+6+l.length<=16777216):
 ∃o,Goes (p.C8 (aK cw (P+6) s [] S dg cd n)) l o/\match qN n l with
  | .cut=>o=ag
  | .bad no a=>o=T no (P+a)
  | .ok x=>x.2=12/\6<=l.length/\∃dg cd,o=H (p.C8 (aK V (P+12) s [] (S++x.1) dg cd 0),l.drop 6):=by
 cases l with
 | nil=>exact⟨ag,kB p rfl rfl,rfl⟩
 | cons c t=>
  rw[Y]at f;unfold qN;simp only
  by_cases h:c=92
  .subst h;rw[if_pos rfl];have e:=eG p (aBK (P:=P+6) (s:=s) (S:=S) (dg:=dg) (cd:=cd) (hi:=n)) (show P+6<16777216 by omega) rfl (show s<P+6 by omega);cases t with
   | nil=>exact⟨ag,Goes.C3 e rfl (kB p rfl rfl),rfl⟩
   | cons d u=>
    rw[Y]at f;simp only
    by_cases b:d=117
    .subst b;rw[if_pos rfl];have m:=eG p (yA (P:=P+6+1) (s:=s) (S:=S) (dg:=dg) (cd:=cd) (hi:=n)) (show P+6+1<16777216 by omega) rfl (show s<P+6+1 by omega);have j:=uE p (P+8) s I n (by simp[g]) S (by omega) 3 0 u (ae _) (by omega);refine⟨_,Goes.C3 e rfl (Goes.C3 m rfl j),?_⟩;cases k:cX I (3+1) 0 u with
     | cut=>rfl
     | bad no a=>show T no (P+8+a)=T no (P+(8+a));rw[bp]
     | ok v=>
      have:=oL k;refine⟨rfl,by simp;omega,4,v,?_⟩
      show H _=_
      have i:{(aK X (P+8) s [] S 4 v n).whole with c:=P+8+4}=aK V (P+12) s [] (S++aT (65536+(n-55296)*1024+v-56320)) 4 v 0:=by
       unfold bj;rw[if_pos g]
      rw[i];simp
    .rw[if_neg b];exact⟨_,Goes.C3 (o:=T 93 (P+6+1)) e rfl (gX (eZ p (uF b) (show P+6+1<16777216 by omega) (by decide) (by decide))),rfl⟩
  .rw[if_neg h];exact⟨T 93 (P+6),gX (eZ p (x8 h) (show P+6<16777216 by omega) (by decide) (by decide)),rfl⟩
def aJX(p:Ps)(P s dg cd:Nat)(S l:Oo)(r:s<P)(q:P+1+l.length<=16777216):
 ∃o,Goes (p.C8 (aK bu (P+1) s [] S dg cd 0)) l o/\match jG l with
  | .cut=>o=ag
  | .bad no a=>o=T no (P+a)
  | .ok x=>2<=x.2/\x.2<=l.length+1/\∃dg cd,o=H (p.C8 (aK V (P+x.2) s [] (S++x.1) dg cd 0),l.drop (x.2-1)):=by
 cases l with
 | nil=>exact⟨ag,kB p rfl rfl,rfl⟩
 | cons c t=>
  rw[Y]at q;unfold jG;simp only
  by_cases h:c=117
  .subst h;rw[if_pos rfl];have e:=eG p (aAe (P:=P+1) (s:=s) (S:=S) (dg:=dg) (cd:=cd)) (show P+1<16777216 by omega) rfl (show s<P+1 by omega);have d:=uE p (P+2) s W 0 rfl S (by omega) 3 0 t (ae _) (by omega);cases f:cX W (3+1) 0 t with
   | cut=>rw[f]at d;exact⟨ag,Goes.C3 e rfl d,rfl⟩
   | bad no a=>rw[f]at d;exact⟨_,Goes.C3 e rfl d,by show T no (P+2+a)=T no (P+(2+a));rw[bp]⟩
   | ok n=>
    rw[f]at d;have w:=oL f
    show ∃o,_/\match(if n<55296\/56319<n then H (aT n,6)else qN n (t.drop 4))with| .cut=>_| .bad no a=>_| .ok x=>_
    by_cases k:n<55296\/56319<n
    .rw[if_pos k]
     have i:{(aK X (P+2) s [] S 4 n 0).whole with c:=P+2+4}=aK V (P+6) s [] (S++aT n) 4 n 0:=by
      unfold bj;rw[if_neg (λh=>h rfl),if_neg (by show ¬(55296<=n/\n<=56319);omega)]
     simp only[i]at d;exact⟨_,Goes.C3 e rfl d,(show 2<=6 by decide),by simp;omega,4,n,by simp⟩
    .rw[if_neg k]
     have i:{(aK X (P+2) s [] S 4 n 0).whole with c:=P+2+4}=aK cw (P+6) s [] S 4 n n:=by
      unfold bj;rw[if_neg (λh=>h rfl),if_pos (by show 55296<=n/\n<=56319;omega)]
     simp only[i]at d;obtain⟨o,m,u⟩:=aJW p P s n 4 n S (t.drop 4) (by omega) r (by simp;omega);refine⟨o,Goes.C3 e rfl (Goes.L6 d ?_ m),?_⟩
     .show P+6+(t.drop 4).length=P+1+1+t.length
      rw[bw];omega
     .revert u;cases qN n (t.drop 4)with
      | cut=>exact id
      | bad no a=>exact id
      | ok x=>
       rintro⟨g,v,dg,cd,h⟩;rw[bw]at v;refine⟨by omega,by simp;omega,dg,cd,?_⟩;rw[h,g];simp
  .rw[if_neg h];cases j:cO c with
   | none=>exact⟨T 92 (P+1),gX (eZ p (wC h j) (show P+1<16777216 by omega) (by decide) (by decide)),rfl⟩
   | some b=>
    refine⟨H _,Goes.C3 (eG p (aAf (P:=P+1) (s:=s) (S:=S) (dg:=dg) (cd:=cd) h j) (show P+1<16777216 by omega) rfl (show s<P+1 by omega)) rfl (o:=H (p.C8 (aK V (P+1+1) s [] (S++ [b]) dg cd 0),t)) ⟨rfl,id⟩,ae _,by simp,dg,cd,rfl⟩
def aE8(p:Ps)(P s dg cd:Nat)(S:Oo)(c:UInt8)(l:Oo)(j:c≠34)(i:s<P)(m:P+(c::l).length<=16777216):
 ∃o,Goes (p.C8 (aK V P s [] S dg cd 0)) (c::l) o/\aLg p P s S (c::l) (eX (c::l)) o:=by
 unfold eX;simp only;have g:=m;rw[Y]at m
 by_cases b:c=92
 .subst b;rw[if_pos rfl];have t:(p.C8 (aK V P s [] S dg cd 0)).take po 92=R (p.C8 {(aK bu P s [] S dg cd 0)with c:=P+1}):=eG p rfl (show P<16777216 by omega) rfl i;obtain⟨o,u,v⟩:=aJX p P s dg cd S l i (by omega);refine⟨o,Goes.C3 t rfl u,?_⟩;revert v;cases jG l with
  | cut=>exact id
  | bad no a=>exact id
  | ok x=>
   rintro⟨b,z,dg,cd,h⟩;refine⟨by omega,by rw[Y];omega,dg,cd,?_⟩;rw[h];congr 2;obtain⟨B,q⟩:=x;obtain⟨k,rfl⟩:∃k,q=k+1:=⟨q-1,by simp only at b;omega⟩;rfl
 .rw[if_neg b]
  by_cases e:c.toNat<32
  .rw[if_pos e];refine⟨T 91 P,gX (eZ p (x:=aK V P s [] S dg cd 0) (y:=aK V P s [] S dg cd 0) (no:=91) ?_ (show P<16777216 by omega) (by decide) (by decide)),rfl⟩
   show bY _ c=_
   unfold bY;rw[if_neg (λh=>j h.2),if_neg (λh=>b h.2),if_pos ⟨rfl,e⟩]
  .rw[if_neg e];have d:=aHE p P s dg cd c l S j b e i g;cases f:eC (c::l)with
   | cut=>rw[f]at d;exact⟨ag,d,rfl⟩
   | bad no a=>rw[f]at d;exact⟨_,d,by show T no (P+a)=T no (P+(0+a));rw[gc]⟩
   | ok n=>
    rw[f]at d;obtain⟨r,w⟩:=aDd f;refine⟨_,d,r,w,dg,cd,?_⟩;congr 2;obtain⟨k,rfl⟩:∃k,n=k+1:=⟨n-1,by omega⟩;rfl
def aAX(p:Ps)(b s:Nat)(B:s<=b):∀(N:Nat)(l S:Oo)(i dg cd:Nat),l.length<=N->1<=i->b+i+l.length<=16777216->
 match cM S i l with
  | .cut=>Goes (p.C8 (aK V (b+i) s [] S dg cd 0)) l ag
  | .bad no a=>Goes (p.C8 (aK V (b+i) s [] S dg cd 0)) l (T no (b+a))
  | .ok x=>i<x.2/\x.2<=i+l.length/\∃e d,Goes (p.C8 (aK V (b+i) s [] S dg cd 0)) l (H (p.C8 (aK V (b+x.2-1) s [] x.1 e d 0),34::l.drop (x.2-i)))
 | N,[],S,i,dg,cd,_,_,_=>by
  rw[cM];exact kB p rfl rfl
 | 0,c::l,_,_,_,_,h,_,_=>by simp at h
 | N+1,c::l,S,i,dg,cd,D,hi,u=>by
  rw[cM]
  by_cases h:c=34
  .subst h;rw[if_pos rfl];refine⟨Nat.lt_succ_self _,by rw[Y];show i+1<=_;omega,dg,cd,?_⟩
   show Goes _ _ (H (p.C8 (aK V (b+(i+1)-1) s [] S dg cd 0),34::(34::l).drop (i+1-i)))
   rw[Nat.add_sub_cancel_left,<-bp,dv];exact⟨rfl,id⟩
  .rw[if_neg h];obtain⟨o,q,r⟩:=aE8 p (b+i) s dg cd S c l h (by omega) u;revert r;cases K:eX (c::l)with
   | cut=>rintro rfl;exact q
   | bad no a=>rintro rfl;show Goes _ _ (T no (b+(i+a)));rw[<-bp];exact q
   | ok x=>
    rintro⟨z,w,e,d,rfl⟩;obtain⟨t,v⟩:=x;obtain⟨k,rfl⟩:∃k,v=k+1:=⟨v-1,by simp only at z;omega⟩;simp only[Y]at w;rw[Y]at D u;simp only[dv]
    have g:Goes (p.C8 (aK V (b+i) s [] S dg cd 0)) (c::l) (H (p.C8 (aK V (b+(i+(k+1))) s [] (S++t) e d 0),l.drop k)):=by
     rw[<-bp];exact q
    have f:b+(i+(k+1))+(l.drop k).length=b+i+(c::l).length:=by rw[bw,Y];omega
    have C:=aAX p b s B N (l.drop k) (S++t) (i+(k+1)) e d (by rw[bw];omega) (by omega) (by rw[bw];omega);revert C;cases cM (S++t) (i+(k+1)) (l.drop k)with
    | cut=>exact λh=>Goes.L6 g f h
    | bad no a=>exact λh=>Goes.L6 g f h
    | ok y=>
     rintro⟨G,F,j,n,h⟩;rw[bw]at F;refine⟨by omega,by rw[Y];omega,j,n,?_⟩;have:=Goes.L6 g f h;rw[List.drop_drop]at this;obtain⟨m,r⟩:∃m,y.2-i=m+1:=⟨y.2-i-1,by omega⟩;rw[r,cv];rw[show k+(y.2-(i+(k+1)))=m by omega]at this;exact this
section
def jM(f:RFr):Fr:=if f.object then Q f.a else bm f.b.length
def aGU(l:List RFr):Prop:=∀f∈l.dropLast,f.object=I->f.a.length=f.b.length+1
def aGV(l:List RFr)(want:Nat):Prop:=∀f,l.getLast?=J f->f.object=I->f.a.length=f.b.length+(if want=4\/want=0 then 1 else 0)
def iG{l:List RFr}{f:RFr}:aGU (l++ [f])<->∀g∈l,g.object=I->g.a.length=g.b.length+1:=by unfold aGU;rw[fg]
def rD{l:List RFr}{f:RFr}{w:Nat}:aGV (l++ [f]) w<->(f.object=I->f.a.length=f.b.length+(if w=4\/w=0 then 1 else 0)):=by
 unfold aGV;rw[show(l++ [f]).getLast?=J f by simp];exact⟨λh=>h f rfl,λh g a=>by cases a;exact h⟩
structure Al(p:Ps)(r:Rr)(d:Nat):Prop where
 h:p.h=d
 a:p.a=r.a
 g:p.g=r.g
 bytes:p.bytes=r.bytes
 e:p.e=r.e.map jM
 b:p.b=r.e.flatMap (λf=>f.b)++(if r.a=6 then [r.done]else [])
 low:aGU r.e
 c:aGV r.e r.a
section
variable {p:Ps} {r:Rr} {d:Nat}
def Al.C8(h:Al p r d)(x:Lx):Al (p.C8 x) r d:=⟨h.h,h.a,h.g,h.bytes,h.e,h.b,h.low,h.c⟩
def Al.O4(h:Al p r d):p.e.length=r.e.length:=by rw[h.e,List.length_map]
def Al.D0(h:Al p r d)(ok:cH p 0)(a:Nat):match r.B9 d with
 | .error no=>p.D0 a=ai (no,a)
 | .ok g=>p.D0 a=R {p with g:=p.g+1}/\g={r with g:=r.g+1}/\(r.a=0\/r.a=1)/\cH {p with g:=p.g+1} 1:=by
 have n:=ok.c;have l:=ok.g;have q:=h.O4;have m:=h.h;have o:=h.g;have s:=h.a;cases b:p.D0 a with
 | ok y=>
  have j:=ok.D0 b;unfold ev at b;unfold Rr.B9;split at b
  .cases b
  .rename_i c1;split at b
   .cases b
   .rename_i c2;split at b
    .cases b
    .rename_i k;rw[if_neg (by omega),if_neg (by omega),if_neg (by omega)];obtain⟨f,i,c⟩:=j;rw[<-c];exact⟨c▸rfl,rfl,by omega,f⟩
 | error e=>
  unfold ev at b;unfold Rr.B9;split at b
  .rename_i c1;cases b;rw[if_pos (by omega)]
  .rename_i c1;split at b
   .rename_i c2;cases b;rw[if_neg (by omega),if_pos (by omega)]
   .rename_i c2;split at b
    .rename_i k;cases b;rw[if_neg (by omega),if_neg (by omega),if_pos (by omega)]
    .cases b
def Al.S6(h:Al p r d):Al {p with g:=p.g+1} {r with g:=r.g+1} d:=⟨h.h,h.a,by show p.g+1=r.g+1;rw[h.g],h.bytes,h.e,h.b,h.low,h.c⟩
def aKk(f:RFr)(t:Tr):more [jM f]= [jM {f with b:=f.b++ [t]}]:=by
 unfold jM
 by_cases h:f.object
 .simp only[h,if_true];rfl
 .simp only[h];simp[more]
def aDA(l:List Fr)(f:Fr):more (l++ [f])=l++more [f]:=by
 cases f with
 | list n=>rw[mC];rfl
 | object k=>rw[j9];rfl
def cE{b:Type}(l:List b)(a:b):(l++ [a]).getLast?=J a:=by simp
def Al.C9(h:Al p r d)(q:r.a=0\/r.a=1)(g:∀f,r.e.getLast?=J f->f.object=I->r.a=0)(t:Tr):Al (ao {p with b:=p.b++ [t]}) (r.C9 t) d:=by
 have j:¬r.a=6:=by omega
 have b:=h.e;have c:=h.b;have o:=h.low;have m:=h.c;rw[if_neg j,bc]at c;rcases cz r.e with a|⟨e,f,a⟩
 .rw[a]at b c;have b:p.e= []:=b;have c:p.b= []:=c;have l:r.C9 t={r with done:=t,a:=6}:=by unfold bk;rw[a];rfl
  rw[l];refine⟨h.h,?_,h.g,h.bytes,?_,?_,?_,?_⟩
  .show(if p.e= []then 6 else 5)=6;rw[if_pos b]
  .show more p.e=r.e.map jM;rw[b,a];rfl
  .show p.b++ [t]=r.e.flatMap _++(if 6=6 then [t]else []);rw[c,a];rfl
  .show aGU r.e;rw[a];intro f k;simp at k
  .show aGV r.e 6;rw[a];intro f k;simp at k
 .rw[dh]at a;have l:r.C9 t={r with e:=e++ [{f with b:=f.b++ [t]}],a:=5}:=by unfold bk;rw[a,cE];simp
  rw[a]at b c o m;rw[l];have i:¬p.e= []:=by rw[b];simp
  refine⟨h.h,?_,h.g,h.bytes,?_,?_,?_,?_⟩
  .show(if p.e= []then 6 else 5)=5;rw[if_neg i]
  .show more p.e=(e++ [_]).map jM
   rw[b,bx,bx,fh,aDA,aKk f t];rfl
  .show p.b++ [t]=(e++ [_]).flatMap _++(if 5=6 then [r.done]else [])
   rw[c];simp
  .exact iG.2 (iG.1 o)
  .refine rD.2 λn=>?_
   have:=m f (cE _ _) n;rw[if_pos (U (g f (by rw[a];exact cE _ _) n))]at this
   show f.a.length=(f.b++ [t]).length+(if 5=4\/5=0 then 1 else 0)
   rw[ar];simp;omega
def Al.F7(h:Al p r d)(c:cH p 1){t:Tr}{b:Nat}(e:t.A5=⟨1,b,1⟩)(g:jK p.b+b+fW p.e<=p.bytes)(a:∀f,r.e.getLast?=J f->f.object=I->r.a=0):Al (ao {p with b:=bB p.b t}) (r.C9 t) d:=by
 rw[(c.F7 e g).1];exact h.C9 (by have:=c.e;have:=h.a;omega) a t
def Al.T5(h:Al p r d)(b:fB p.h p.a p.e p.b)(o:r.a=0\/r.a=1):∀f,r.e.getLast?=J f->f.object=I->r.a=0:=by
 intro f j l;have i:=h.e;have g:=h.a;have a:p.e.getLast?=J (Q f.a):=by rw[i,dw,j];simp[jM,l]
 revert a;generalize p.e=e at b;generalize p.b=c at b;generalize p.a=want at b g;cases b with
 | new=>intro a;simp at a
 | done t m=>intro a;simp at a
 | list s _ _ _ _=>intro a;rw[cE]at a;cases a
 | object k s _ _ _ n=>intro _;omega
def Al.M9(h:Al p r d):r.M9=jB p.e:=by
 unfold bz jB;rw[h.e,dw];cases r.e.getLast? with
 | none=>rfl
 | some f=>show f.object=_;simp only[et];unfold jM;cases f.object<;>rfl
def Al.L9(h:Al p r d)(a:r.M9=I):r.L9=fP p.e:=by
 unfold bz at a;unfold gd fP;rw[h.e,dw];cases b:r.e.getLast? with
 | none=>rfl
 | some f=>rw[b]at a;have a:f.object=I:=a;simp[jM,a]
def Al.O3(h:Al p r d)(o:r.a=2\/r.a=3)(c:r.M9=I)(s:Oo):Al {p with e:=p.e.dropLast++ [Q (fP p.e++ [s])],a:=4} (r.O3 s) d:=by
 have i:=h.L9 c;rcases cz r.e with a|⟨b,f,a⟩
 .unfold bz at c;rw[a]at c;cases c
 .rw[dh]at a;have e:f.object=I:=by unfold bz at c;rw[a,cE]at c;exact c
  have n:r.O3 s={r with e:=b++ [{f with a:=f.a++ [s]}],a:=4}:=by unfold Rr.O3;rw[a,cE];simp
  have l:r.L9=f.a:=by unfold gd;rw[a,cE]
  have j:=h.e;have g:=h.b;have k:=h.low;have m:=h.c f (by rw[a];exact cE _ _) e;rw[if_neg (by omega)]at m;rw[if_neg (by omega),bc]at g;rw[a]at j g k;rw[n,<-i,l];refine⟨h.h,rfl,h.g,h.bytes,?_,?_,?_,?_⟩
  .show p.e.dropLast++ [_]=(b++ [_]).map jM
   rw[j,bx,bx,fh,fg];simp[jM,e]
  .show p.b=(b++ [_]).flatMap _++(if 4=6 then [r.done]else [])
   rw[g];simp
  .exact iG.2 (iG.1 k)
  .refine rD.2 λ_=>?_
   show(f.a++ [s]).length=f.b.length+(if 4=4\/4=0 then 1 else 0)
   rw[ar];simp;omega
def Al.O1(h:Al p r d)(m:r.a=0\/r.a=1)(e:∀f,r.e.getLast?=J f->f.object=I->r.a=0)(o:Bool):
 Al {p with e:=p.e++ [if o then Q []else bm 0],a:=if o then 2 else 1} {r with e:=r.e++ [⟨o,[],[]⟩],a:=if o then 2 else 1} d:=by
 have k:=h.b;rw[if_neg (by omega),bc]at k;refine⟨h.h,rfl,h.g,h.bytes,?_,?_,?_,?_⟩
 .show p.e++ [_]=(r.e++ [_]).map jM
  rw[h.e,bx];cases o<;>rfl
 .show p.b=(r.e++ [_]).flatMap _++(if(if o then 2 else 1)=6 then [r.done]else [])
  rw[k,if_neg (by cases o<;>decide)];simp
 .refine iG.2 λg a i=>?_
  rcases cz r.e with b|⟨l,f,b⟩
  .rw[b]at a;simp at a
  .rw[dh]at b;have j:r.e.getLast?=J f:=by rw[b];exact cE _ _
   rw[b]at a;rcases eo.1 a with a|a
   .have c:=h.low;rw[b]at c;exact iG.1 c g a i
   .simp at a;subst a;have:=h.c g j i
    rwa[if_pos (U (e g j i))]at this
 .refine rD.2 λ_=>?_
  show 0=0+(if(if o then 2 else 1)=4\/(if o then 2 else 1)=0 then 1 else 0)
  cases o<;>rfl
def Al.N9(h:Al p r d){n:Nat}(i:n≠6)(g:r.a≠6)(a:(if n=4\/n=0 then 1 else 0)=(if r.a=4\/r.a=0 then 1 else 0)\/r.M9=W):Al {p with a:=n} {r with a:=n} d:=by
 have e:=h.b;rw[if_neg g]at e;refine⟨h.h,rfl,h.g,h.bytes,h.e,?_,h.low,?_⟩
 .show p.b=_++(if n=6 then [r.done]else []);rw[if_neg i];exact e
 .intro f b c;rcases a with a|a
  .show _=_+(if n=4\/n=0 then 1 else 0);rw[a];exact h.c f b c
  .have b:r.e.getLast?=J f:=b;unfold bz at a;rw[b]at a;exact absurd c (by rw[show f.object=W from a];decide)
end
def cH.S7{x:Ps}(h:cH x 0){l:UInt8}(o:x.J5 l=I):∃b a s,x.b=a++s/\
 ((x.e = b ++ [bm s.length] /\ x.C4 po = ao { x with e := b, b := a ++ [dx s] }) \/
   (∃k,x.e=b++ [Q k]/\k.length=s.length/\x.C4 po=ao {x with e:=b,b:=a++ [dy (dC k) (besides k s)]})):=by
 have F:=h.h;have w:=h.c;have N:=h.g;have L:=h.bytes;have m:=h.f;have v:=h.d;have C:=h.b;have B:=h.a;obtain⟨D,d,e,items,pile,want,c,bytes⟩:=x;simp only at F w N L m v C B;cases C with
 | new=>simp[di]at o
 | done t n=>simp[di]at o
 | @list b a s _ G n j=>
  have i:(ct po ⟨D,d,e,a++s,b++ [bm s.length],want,c,bytes⟩)=ao ⟨D,d,e,eI (a++s) s.length,b,want,c,bytes⟩:=by
   unfold ct;simp
  obtain⟨u,q,z⟩:=iM 0 s;rw[j6]at m;rw[j8,dZ,kT]at v;simp only[ar,Y,fe]at m w;have r:=z (D-b.length-1) (λt p=>by have:=n t p;omega);rw[<-gU]at u q r
  have g:eI (a++s) s.length=a++ [dx s]:=by
   unfold eI fZ;rw[if_neg (by simp),ar,dv,ge,gh,if_pos];unfold gj;simp only[gk,decide_eq_true_eq];omega
  exact⟨b,a,s,rfl,O ⟨rfl,by rw[i,g]⟩⟩
 | @object b a k s _ G n j=>
  have f:k.length=s.length:=by
   rcases j with j|j
   .exact j.2
   .unfold di at o;simp at o;omega
  have i:(ct po ⟨D,d,e,a++s,b++ [Q k],want,c,bytes⟩)=ao ⟨D,d,e,po (a++s) k,b,want,c,bytes⟩:=by
   unfold ct;simp
  obtain⟨y,K⟩:=B k (by simp);obtain⟨u,q,z⟩:=iM (bD k) s;rw[j6]at m;rw[j8,dZ,kT]at v;simp only[ar,Y,fe]at m w;have r:=z (D-b.length-1) (λt p=>by have:=n t p;omega);rw[<-mV y f.symm]at u q r
  have g:po (a++s) k=a++ [dy (dC k) (besides k s)]:=by
   unfold po fZ;rw[if_neg (by simp;omega),ar,f,dv,ge,gh,if_pos];unfold gj;simp only[gk,decide_eq_true_eq];have:frB (Q k)=bD k:=rfl;omega
  exact⟨b,a,s,rfl,U ⟨k,rfl,f,by rw[i,g]⟩⟩
section
variable {p:Ps} {r:Rr} {d:Nat}
def Al.E9(B:Al p r d)(L:cH p 0){o:UInt8}(C:p.J5 o=I):Al (p.C4 po) r.P3 d:=by
 obtain⟨N,P,s,q,u⟩:=L.S7 C;have m:=B.e;have v:=B.b;rcases cz r.e with h|⟨a,f,h⟩
 .rw[h]at m;rcases u with⟨n,_⟩|⟨k,n,_⟩<;>(rw[n]at m;simp at m)
 .rw[dh]at h
  have hw:r.a=5\/r.a=1\/r.a=2:=by
   have:=B.a;unfold di at C;simp at C;omega
  have K:r.e.getLast?=J f:=by rw[h];exact cE _ _
  have S:r.P3=bk {r with e:=a} (madeOf f):=by unfold Rr.P3;rw[K];simp only;rw[h,fg]
  have i:=B.c f K;rw[if_neg (by omega)]at i;rw[if_neg (by omega),bc,h,List.flatMap_append]at v;have v:p.b=a.flatMap (λf=>f.b)++f.b:=by rw[v];simp
  rw[h,bx,fh]at m;have w:=B.low;rw[h]at w;have j:=iG.1 w;rw[S]
  have x:∀t:Tr,Al (ao {p with e:=a.map jM,b:=a.flatMap (λf=>f.b)++ [t]}) (bk {r with e:=a} t) d:=by
   intro t
   have c:Al {p with e:=a.map jM,b:=a.flatMap (λf=>f.b),a:=0} {r with e:=a,a:=0} d:=
    ⟨B.h,rfl,B.g,B.bytes,rfl,by simp,λg b=>j g ((List.dropLast_sublist _).subset b),λg b y=>by rw[if_pos (U rfl)];exact j g (List.mem_of_getLast? b) y⟩
   have:=c.C9 (O rfl) (λ_ _ _=>rfl) t;have z:ao {p with e:=a.map jM,b:=a.flatMap (λf=>f.b)++ [t],a:=0}=ao {p with e:=a.map jM,b:=a.flatMap (λf=>f.b)++ [t]}:=rfl
   have l:bk {r with e:=a,a:=0} t=bk {r with e:=a} t:=by
    unfold bk;cases a.getLast?<;>rfl
   rw[l]at this;exact this
  rcases u with⟨n,D⟩|⟨k,n,hk,D⟩
  .have e:=n.symm.trans m;obtain⟨z,l⟩:=ee e rfl
   have b:f.object=W:=by
    cases y:f.object with
    | false=>rfl
    | true=>simp[jM,y]at l
   have c:s.length=f.b.length:=by simpa[jM,b]using l
   obtain⟨F,G⟩:=ee (q.symm.trans v) c;rw[D,z,F,G];have:madeOf f=dx f.b:=by unfold madeOf;rw[b];rfl
   rw[this];exact x _
  .have e:=n.symm.trans m;obtain⟨z,l⟩:=ee e rfl
   have b:f.object=I:=by
    cases y:f.object with
    | true=>rfl
    | false=>simp[jM,y]at l
   have y:k=f.a:=by simpa[jM,b]using l
   have c:s.length=f.b.length:=by have:=i b;rw[<-y]at this;omega
   obtain⟨F,G⟩:=ee (q.symm.trans v) c;rw[D,z,F,G,y];have:madeOf f=dy (dC f.a) (besides f.a f.b):=by unfold madeOf;rw[b];rfl
   rw[this];exact x _
def Al.J5(h:Al p r d)(u:fB p.h p.a p.e p.b)(c:UInt8):p.J5 c=I<->(c=93/\r.L0=I/\(r.a=5\/r.a=1)\/c=125/\r.M9=I/\(r.a=5\/r.a=2)):=by
 have m:=h.e;have l:=h.a;unfold di Rr.L0 bz;rw[m,dw,l];have e:=u;rcases cz r.e with i|⟨o,f,i⟩
 .rw[i];simp
 .rw[dh]at i;rw[i,cE];simp only[et];have b:p.e.getLast?=J (jM f):=by rw[m,i];simp
  have a:(f.object=I->r.a≠1)/\(f.object=W->r.a≠2):=by
   revert b;rw[<-l];clear l m u;generalize p.e=q at e;generalize p.b=n at e;generalize p.a=want at e;cases e with
   | new=>intro b;simp at b
   | done t v=>intro b;simp at b
   | list s _ _ _ j=>
    intro b;rw[cE]at b;refine⟨λg=>?_,λ_=>by omega⟩;simp[jM,g]at b
   | object k s _ _ _ w=>
    intro b;rw[cE]at b;refine⟨λ_=>by omega,λg=>?_⟩;simp[jM,g]at b
  cases g:f.object with
  | true=>
   have:=a.1 g;simp[jM,g,wQ];constructor
   .rintro⟨rfl,j⟩;exact⟨rfl,by omega⟩
   .rintro⟨rfl,j⟩;exact⟨rfl,by omega⟩
  | false=>
   have:=a.2 g;simp[jM,g,wQ];constructor
   .rintro⟨rfl,j⟩;exact⟨rfl,by omega⟩
   .rintro⟨rfl,j⟩;exact⟨rfl,by omega⟩
end
end
section
inductive Small:Tr->Prop
 | null:Small .null
 | flag (b:Bool):Small (.flag b)
 | num (x:Nat):Small (.num x)
 | text (s:List UInt8):Small (.text s)
 | list (l:List Tr) (hl:l.length<=65536) (h:∀t∈l,Small t):Small (dx l)
 | object (keys:List (List UInt8)) (l:List Tr) (hk:keys.length=l.length) (hl:l.length<=65536) (h:∀t∈l,Small t):Small (dy keys l)
section
variable {F G:Nat->Prop} {w w':ah} {v:ac} {t:Tr}
end
section
variable {F G:Nat->Prop} {w w':ah} {vals:List ac} {l:List Tr}
end
end
def oZ{w:ah}{f pl b:Nat}{held:Oo}{c:Array ac}{j:TypeId}(h:Feeds w f pl held)(a:w.heap[b]?=J (aj c j (0,0)))(g:j≠305):f≠b:=by
 obtain⟨_,i,a1,a2,a3,d,_⟩:=h;intro e;subst e;rw[d]at a;simp at a;exact g a.2.symm
def uP{g:Type}{e:Nat}{enc:g->ac}{w:ah}{f pl:Nat}{held:Oo}{v:ac}{l:List g}(h:Feeds w f pl held)(a:Win e enc w v l)(c:e≠305):v.ownBlock≠J f:=by
 obtain⟨_,d,a1,a2,a3,b,_⟩:=h;exact a.ne b (λe=>c e.symm)
def tK{o p:Type}{e d:Nat}{enc:o->ac}{a:p->ac}{w:ah}{v b:ac}{l:List o}{n:List p}(h:Win e enc w v l)(i:Win d a w b n)(j:e≠d){k:Nat}(c:v.ownBlock=J k):b.ownBlock≠J k:=by
 rcases h with⟨rfl,_⟩|⟨g,off,cap,m,rfl,f,_⟩
 .cases c
 .cases c;exact i.ne f j
def step_within(F:Nat->Prop)(w:ah)(b:Nat)(x:Lx)(toks:List Tok)(c:UInt8)(a0:cG F w b x W toks)(v:x.j=V)(g4:x.a<=x.c)(D:x.f.length<=1073741824)(g5:x.c<=16777216)(g2:toks.length<=1000):
 cg cj 138 #[eh b,af .u8 c.toNat] w λe w'=>eV F w b x.c toks (bY x c) e w':=by
 have h0:=a0;obtain⟨C,l,K,g6,m,j,q,n,L⟩:=a0;obtain⟨h,f,z,rfl,d,r,g3⟩:=L.text (by rw[v];rfl);have N:(toks.map bU).length<=1000:=by simpa using g2
 have P:f≠b:=oZ d q (by decide);unfold bY
 by_cases h1:x.d= []/\c=34
 .rw[if_pos h1];obtain⟨i,rfl⟩:=h1;rw[i]at d;refine(aFF w b f z x.c x.a _ _ _ _ _ _ _ _ _ m j x.f _ q d h.1 n.1 N (by omega) (by omega)).mono λe w' o=>?_
  obtain⟨p,a,s⟩:=aB6 (y:=x.E2) (tok:=.str x.a (x.c+1-x.a) x.f) C l n rfl rfl (λu=>rfl) o;exact .J9 p a s
 rw[if_neg h1]
 by_cases h2:x.d= []/\c=92
 .rw[if_pos h2];obtain⟨i,rfl⟩:=h2;have t:=d;rw[i]at t;refine(aAy w b f z _ _ _ _ _ _ _ _ _ _ _ _ _ q t).mono ?_;rintro e w' ⟨rfl,s,a⟩;have o:Keeps F w w':=a.mono (λk e=>e▸C);have p:=d.A2 a P;refine .J9 rfl o ⟨O C,aF l a.size,_,_,_,j,s,by rw[bc];exact n.A2 (G:=λk=>k=b) a (λk e a=>n.1.ne q (by decide) (e.trans (congrArg J a))),⟨λL=>?_,λ_=>⟨h.A2 (G:=λk=>k=b) a (λk e a=>h.1.ne q (by decide) (e.trans (congrArg J a))),f,z,rfl,p,O r,g3⟩⟩⟩;simp at L
 rw[if_neg h2]
 by_cases S:x.d= []/\c.toNat<32
 .rw[if_pos S];rw[S.1]at d;refine(zE w b f z _ _ _ _ _ _ _ _ _ _ _ _ _ c q d S.2).mono ?_;rintro e w' ⟨rfl,rfl⟩;exact .Q2 (by decide) rfl (ck _ _) (by rw[bc];exact h0.Q4.mono (λk a=>O a) (aF l (ae _)))
 rw[if_neg S]
 have g0:pS x.d c:=by
  unfold pS
  by_cases i:x.d= []
  .exact U ⟨λe=>h1 ⟨i,e⟩,λe=>h2 ⟨i,e⟩,Nat.le_of_not_lt (λe=>S ⟨i,e⟩)⟩
  .exact O i
 cases g1:aO x.d c with
 | none=>
  refine(aFG w b f z _ _ _ _ _ _ _ _ _ _ _ _ _ c _ q d (by omega) g0 g1).mono ?_;rintro e w' ⟨rfl,a⟩;have o:Keeps F w w':=a.mono (λk e=>e▸r);exact .Q2 (by decide) rfl o ⟨O C,aF l a.size,_,_,_,_,_,_,_,_,_,_,j,a.B7 q (λe=>P e.symm),by rw[bc];exact n.A2 (G:=λk=>k=f) a (λk e a=>uP d n.1 (by decide) (e.trans (congrArg J a)))⟩
 | some h'=>
  refine(aDL w b f z _ _ _ _ _ _ _ _ _ _ _ _ m c _ h' x.f q d h.1 D (by omega) g0 g1).mono ?_;rintro e w' ⟨rfl,g,off,cap,s,t,hg,p,a⟩
  have o:Keeps F w w':=a.mono (λk e=>by
   rcases e with rfl|rfl|e
   .exact C
   .exact r
   .exact h.2 k e)
  refine .J9 rfl o ⟨O C,aF l a.size,K,_,_,j,by rw[v]at s⊢;simpa using s,?_,⟨λL=>?_,λ_=>⟨?_,f,z+1,rfl,p,O r,?_⟩⟩⟩
  .rw[bc];refine⟨n.1.A2 a ?_,λk i=>O (n.2 k i)⟩;intro k i B;rcases B with rfl|rfl|B
   .exact n.1.ne q (by decide) i
   .exact uP d n.1 (by decide) i
   .exact tK h.1 n.1 (by decide) B i
  .simp[v]at L
  .refine⟨by simpa using t,?_⟩;intro k i;cases i;exact hg.elim (λe=>O (h.2 _ e)) (λB=>U ⟨B,t.lt rfl⟩)
  .simp;omega
def rG(c:UInt8)(w:ah)(l:Oo)(h:aH c=l):cg cj 140 #[af .u8 c.toNat] w λe w'=>e=dj (ei ⟨l.toArray⟩)/\w'=w:=by
 have:=lN c w;rw[h]at this;exact this
def aG1(w:ah)(b:Nat)(d a:ac)(toks:List ac)(t:ac)(c:ac->ac->Array ac)(e:Ending)(w':ah):Prop:=
 e=dj (af au 0)/\∃rawV' g off cap,w'.heap[b]?=J (aj (c rawV' (Z (J ⟨g,off,E⟩) (toks.length+1) cap)) 228 (0,0))/\
  Win 232 id w' (Z (J ⟨g,off,E⟩) (toks.length+1) cap) (toks++ [t])/\(a.ownBlock=J g\/w.heap.size<=g)/\Keeps (λk=>k=b\/d.ownBlock=J k\/a.ownBlock=J k) w w'
def uS{d y:UInt8}{s:ByteArray}{K:Nat}(e:(⟨(aH d).toArray⟩:ByteArray)=s)(a:(aH d)[K]?=J y):∃h:K<s.size,s[K]=y:=by
 subst e;obtain⟨c,b⟩:=List.getElem?_eq_some_iff.1 a;exact⟨by simpa[gq]using c,by simpa[gr]using b⟩
def aF5(w:ah)(b g off cap K:Nat)(l m n o p q r t u v x z B:ac)(d y f:UInt8)(F:w.heap[b]?=J (aj #[l,m,n,o,p,q,Z (g,off) K cap,r,t,u,v,x,z,B] 228 (0,0)))
 (C:w.cell? ⟨g,off,E⟩=J (bZ d))(G:0<K)(k:(aH d)[K]?=J y)(h:f≠y):
 cg cj 141 #[eh b,af .u8 f.toNat] w λe w'=>e=dj (af au 94)/\w'=w:=by
 obtain⟨L,c1,c2,N,P,S,c6,c7,c8,c9,ca,cb,cc,cd,cf⟩:=aN F;obtain⟨s,i⟩:∃s:ByteArray,(⟨(aH d).toArray⟩:ByteArray)=s:=⟨_,rfl⟩;obtain⟨D,j⟩:=uS i k;subst j;obtain⟨-,-,-⟩:=aD (c:=f) (d:=s[K]) h rfl;obtain⟨-,-,n6⟩:=aD (c:=s[K]) (d:=f) h.symm rfl;have a:=A (rG d w _ rfl);rw[i]at a;unfold bZ at C;clear F h i k;go_enter fi,fj;go_wp2_with fail;refine(a.o).mono ?_;rintro e w1 ⟨rfl,rfl⟩;go_wp2;go_ret;exact⟨rfl,rfl⟩
def aIv(w:ah)(b g off cap:Nat)(B C D G K L N P S va vb vc vd:ac)(d y:UInt8)(l:Oo)(o:w.heap[b]?=J (aj #[B,C,D,G,K,L,Z (g,off) l.length cap,N,P,S,va,vb,vc,vd] 228 (0,0)))
 (h0:w.cell? ⟨g,off,E⟩=J (bZ d))(f:Win 5 bZ w (Z (g,off) l.length cap) l)(hK:0<l.length)(m:(aH d)[l.length]?=J y)(h:l.length+1≠(aH d).length):
 cg cj 141 #[eh b,af .u8 y.toNat] w λe w'=>oX w b (Z (g,off) l.length cap) (l++ [y]) (λv=> #[B,C,D,G,K,L,v,N,P,S,va,vb,vc,vd]) e w':=by
 obtain⟨c0,c1,c2,c3,c4,c5,c6,c7,c8,c9,ca,cb,cc,cd,cf⟩:=aN o;obtain⟨s,a⟩:∃s:ByteArray,(⟨(aH d).toArray⟩:ByteArray)=s:=⟨_,rfl⟩;obtain⟨h3,h4⟩:=uS a m
 have h5:l.length<5:=by
  have:s.size<=5:=by rw[<-a];show(aH d).toArray.size<=5;rw[ej];unfold aH;repeat' (first|exact by decide|split)
  omega
 have i:=A (rG d w _ rfl);rw[a]at i;have q:=A (f.ne o (by decide));have a0:=A o;have r:=dl o;have c:Win 5 bZ (w.alloc (aj #[bZ y] 5)) (Z (g,off) l.length cap) l:=f.A2 (F:=λ_=>False) ((ck _ w).A6 _) (λ_ _=>id);have HR:=A c;have j:s.size=(aH d).length:=by rw[<-a];exact ej
 unfold bZ at h0;have t:¬(l.length:Int)+1=(s.size:Int):=by omega
 have h6:((l.length:Int)+1==(s.size:Int))=W:=by simpa using t
 clear o a f c m h j;go_enter fi,fj;go_wp2_with fail;refine(i.o).mono ?_;rintro e w1 ⟨rfl,rfl⟩
 go_wp2_with (at_builtin;refine dE nY rfl _ _ rfl rfl HR.o w1 1 y rfl ?_ rfl ?_ ?_ ?_)
 .exact fQ rfl
 .omega
 .unfold maxLen;omega
 intro u j m w' a f h;have c:=(h.block b (by simp;omega) (λe=>q.o e.symm)).trans ((fk _ _ _ r).trans a0.o);have x:=A (a.ne c (by decide));have z:=A (show(Z (g,off) l.length cap).ownBlock=J u\/w1.heap.size<=u from f.elim O (λo=>U (co (by simp) o.1)));have HK:=A (((ck (λk=>k=b\/(Z (g,off) l.length cap).ownBlock=J k) w1).A6 (aj #[bZ y] 5)).D7 h (λk e=>O (U e)));have n:=A a;obtain⟨-,-,-,-,-,-,d6,-,-,-,-,-,-,-,df⟩:=aN c;have HB:=A c;clear c a f h c0 c1 c2 c3 c4 c5 c6 c7 c8 c9 ca cb cc cd cf;go_wp2;go_ret;refine⟨rfl,u,j,m,?_,?_,z.o,HK.o.A3 (p:=⟨b,6,E⟩) (O (O rfl)) _⟩
 .rw[ar];exact aB HB.o _
 rw[ar];exact n.o.A2 ((ck (λk=>k=b) w').A3 (p:=⟨b,6,E⟩) (O rfl) _) (λk e a=>x.o (e.trans (congrArg J a)))
def aF6(w:ah)(b g off cap pl h:Nat)(v1 v2 v3 v4 v7 v8 v9 va vb vc a:ac)(d y:UInt8)(l:Oo)(toks:List ac)(t:w.heap[b]?=J (aj #[pl,v1,v2,v3,v4,h,Z (g,off) l.length cap,v7,v8,v9,va,vb,vc,a] 228 (0,0)))
 (h0:w.cell? ⟨g,off,E⟩=J (bZ d))(q:Win 5 bZ w (Z (g,off) l.length cap) l)(hK:0<l.length)(C:(aH d)[l.length]?=J y)(x:l.length+1=(aH d).length)(z:Win 232 id w a toks)(j:toks.length<=1000)(m:h<=pl+1)(f:pl<=1073741823):
 cg cj 141 #[eh b,af .u8 y.toNat] w λe w'=>aG1 w b (Z (g,off) l.length cap) a toks (bU (.term h (pl+1-h) (aH d))) (λr v=> #[pl,v1,v2,.func (.func 104) #[] #[],bh W,h,r,v7,v8,v9,va,vb,vc,v]) e w':=by
 obtain⟨c0,c1,c2,c3,c4,c5,c6,c7,c8,c9,ca,cb,cc,cd,cf⟩:=aN t;obtain⟨s,i⟩:∃s:ByteArray,(⟨(aH d).toArray⟩:ByteArray)=s:=⟨_,rfl⟩;obtain⟨i1,i2⟩:=uS i C
 have i3:l.length<5:=by
  have:s.size<=5:=by rw[<-i];show(aH d).toArray.size<=5;rw[ej];unfold aH;repeat' (first|exact by decide|split)
  omega
 have u:=A (rG d w _ rfl);rw[i]at u;have L:=A (q.ne t (by decide));have a0:=A t;have N:=dl t;have n:Win 5 bZ (w.alloc (aj #[bZ y] 5)) (Z (g,off) l.length cap) l:=q.A2 (F:=λ_=>False) ((ck _ w).A6 _) (λ_ _=>id);have HR:=A n;have B:s.size=(aH d).length:=by rw[<-i];exact ej
 unfold bZ at h0;have i4:(l.length:Int)+1=(s.size:Int):=by omega
 have HW:=A z;have P:=A j;have S:=A (λ(k:Nat)(e:(Z (g,off) l.length cap).ownBlock=J k)=>tK q z (by decide) e);have h7:=A (And.intro m f);obtain⟨sz,c⟩:∃sz,pl+1-h=sz:=⟨_,rfl⟩;have h8:=A c;have i5:pl<=1073741823:=f;rw[show bU (.term h (pl+1-h) (aH d))=fm 309 (.agg #[h,af au (pl+1-h:Nat),ei ⟨(aH d).toArray⟩])from rfl,i,c];clear t i q n z j m f c C x B;go_enter fi,fj;go_wp2_with fail;refine(u.o).mono ?_;rintro e w1 ⟨rfl,rfl⟩
 go_wp2_with (at_builtin;refine dE nY rfl _ _ rfl rfl HR.o w1 1 y rfl ?_ rfl ?_ ?_ ?_)
 .exact fQ rfl
 .omega
 .unfold maxLen;omega
 intro x c f w' z B j;have m:=(j.block b (by simp;omega) (λe=>L.o e.symm)).trans ((fk _ _ _ N).trans a0.o);have HK:=A (((ck (λk=>k=b\/(Z (g,off) l.length cap).ownBlock=J k) w1).A6 (aj #[bZ y] 5)).D7 j (λk e=>O (U e)));obtain⟨d0,-,-,-,-,-,d6,-,-,-,-,-,-,-,df⟩:=aN m;have i:=aB m (o:=6) (Z (x,c) (l.length+1) f);simp only[List.setIfInBounds_toArray,List.set_cons_zero,List.set_cons_succ]at i;have C:=A (rX _ b _ h (pl+1) i rfl (by have:=h7.o;omega) (by omega));rw[show((pl+1:Nat):Int)=(pl:Int)+1 by omega,h8.o]at C;have n:Keeps (λk=>k=b\/(Z (g,off) l.length cap).ownBlock=J k) w1 (w'.setCell ⟨b,6,E⟩ (Z (x,c) (l.length+1) f)):=HK.o.A3 (p:=⟨b,6,E⟩) (O (O rfl)) _;have D:Win 232 id (w'.setCell ⟨b,6,E⟩ (Z (x,c) (l.length+1) f)) a toks:=HW.o.A2 n (λk e hk=>hk.elim (λe2=>HW.o.ne a0.o (by decide) (e.trans (congrArg J e2))) (λe2=>S.o k e2 e));have q:=A (λK(hb:Below (w'.setCell ⟨b,6,E⟩ (Z (x,c) (l.length+1) f)).heap.size (w'.setCell ⟨b,6,E⟩ (Z (x,c) (l.length+1) f)) K)=>rY K b _ _ _ _ _ _ _ _ _ _ _ _ _ a 309 (.agg #[h,af au sz,s]) toks (keep i hb) (D.A2 (gl (λ_=>False) hb) (λ_ _=>id)) P.o);have G:=A n;clear m z B j i D n c0 c1 c2 c3 c4 c5 c6 c7 c8 c9 ca cb cc cd cf;go_wp2_with fail;refine(C.o).mono ?_;rintro e K ⟨rfl,i⟩;have HT:=A (q.o K i);have j:=A i;clear i;go_wp2_with fail;refine(HT.o).mono ?_;rintro e w3 ⟨rfl,g3,i,m,h3,n,z,B⟩;have H3:=A h3;have D:=A n;have h9:=A z;have i0:=A B;clear h3 n z B;go_wp2;go_ret;refine⟨rfl,_,g3,i,m,H3.o,D.o,h9.o.elim O (λt=>U (co G.o.size (co j.o.size t))),?_⟩;exact((G.o.mono (λk t=>t.imp id O)).same (gl _ j.o)).same (i0.o.mono (λk t=>t.imp id U))
def aGa(l:Oo):∀c∈l.takeWhile isD,isD c=I:=λc a=>by
 induction l with
 | nil=>cases a
 | cons x l b=>
  by_cases h:isD x=I
  .rw[List.takeWhile_cons_of_pos h]at a;rcases fw.1 a with rfl|a
   .exact h
   .exact b a
  .rw[List.takeWhile_cons_of_neg h]at a;cases a
def aGb(l:Oo):(l.takeWhile isD).length+(l.dropWhile isD).length=l.length:=by
 have:=congrArg List.length (List.takeWhile_append_dropWhile (p:=isD) (l:=l))
 rwa[ar]at this
def aG2(l:Lit)(n:Nat):Prop:=(∀c∈l.whole,isD c=I)/\(∀c∈l.b,isD c=I)/\(∀c∈l.c,isD c=I)/\l.whole.length+l.b.length+l.c.length<=n
def aGc{d be r:Oo}{l:Lit}(h:cZ neg d be r=J l)(g:∀c∈d,isD c=I)(f:∀c∈be,isD c=I):aG2 l (d.length+be.length+r.length):=by
 cases r with
 | nil=>simp only[cZ,gm]at h;subst h;exact⟨g,f,(λc i=>by cases i),by simp⟩
 | cons e t=>
  simp only[cZ]at h;split at h
  .split at h
   .cases h
   .simp only[gm]at h;subst h;refine⟨g,f,aGa _,?_⟩;have a:=aGb (cA t).2
    have b:(cA t).2.length<=t.length:=by
     cases t with
     | nil=>exact ae _
     | cons c j=>simp only[cA];split<;>simp
    simp only[Y];omega
  .cases h
def aD5{e r:Oo}{l:Lit}(h:bF neg e r=J l)(f:∀c∈e,isD c=I):aG2 l (e.length+r.length):=by
 cases r with
 | nil=>have:=aGc (be:= []) (r:= []) h f (λc g=>by cases g);simpa using this
 | cons c t=>
  simp only[bF]at h;split at h
  .split at h
   .cases h
   .obtain⟨a,b,i,d⟩:=aGc h f (aGa _);refine⟨a,b,i,co d ?_⟩;have:=aGb t;simp only[Y];omega
  .have:=aGc (be:= []) h f (λc g=>by cases g);simpa using this
def aD6{r:Oo}{l:Lit}(h:cR neg r=J l):aG2 l r.length:=by
 cases r with
 | nil=>cases h
 | cons c t=>
  simp only[cR]at h;split at h
  .rename_i g;split at h
   .have:=aD5 h (by intro x e;simp at e;subst e;rfl);simpa[Nat.add_comm]using this
   .obtain⟨a,b,f,d⟩:=aD5 h (aGa _);exact⟨a,b,f,co d (by rw[aGb];exact ae _)⟩
  .cases h
def aG3{s:Oo}{l:Lit}(h:bI s=J l):aG2 l s.length:=by
 cases s with
 | nil=>cases h
 | cons c t=>
  simp only[bI]at h;split at h
  .obtain⟨a,b,e,d⟩:=aD6 h;exact⟨a,b,e,co d (by simp)⟩
  .exact aD6 h
def aIx(o:Option Lit)(e:Ending):Prop:=match o with
 | some l=>e=dj (ek #[fV (dA l),gn])
 | none=>∃i:Nat,e=dj (ek #[fV ⟨W,[],0⟩,fm 151 (.agg #[af au 40,i])])
def aGd(s:ByteArray)(w:ah)(o:s.size<=1073741824):cg cj 194 #[s] w λe w'=>aIx (bI s.data.toList) e/\Below w w w':=by
 have r:s.data.toList.length=s.size:=Array.length_toList;cases f:bI s.data.toList with
 | none=>
  have g:=λw=>aCF s w o
  simp only[f]at g;clear f;go_enter func194,ntmps194;go_wp2_with fail;refine(g _).mono ?_;rintro e w1 ⟨⟨i,rfl⟩,h⟩;obtain⟨b,a,-⟩:=after1 h;have q:=dl b;have t:(0:Int)<=(i:Int):=by omega
  unfold aGC;obtain⟨u,x,y,z⟩:=cells3 b;have j:(((w1.setCell w (bh W)).setCell ⟨w.heap.size,1,E⟩ (ei ⟨#[]⟩)).setCell ⟨w.heap.size,2,E⟩ (af au 0)).heap[w.heap.size]?=J (aj #[bh W,"",af au 0] 339 (0,0)):=aB (aB (aB b _) _) _;have n:=(fk _ (aj #[bh W,"","",bh W,""] 354) _ (dl j)).trans j;obtain⟨m,c1,c2,-⟩:=cells3 n;have k:=A ((((a.setCell (p:=w) (ae _) (bh W)).setCell (p:=⟨w.heap.size,1,E⟩) (ae _) (ei ⟨#[]⟩)).setCell (p:=⟨w.heap.size,2,E⟩) (ae _) (af au 0)).alloc (Nat.le_of_lt (dl j)) (aj #[bh W,"","",bh W,""] 354));clear j n;clear b h a;go_wp2_with fail;exact go (v:=ek #[fV ⟨W,[],0⟩,fm 151 (.agg #[af au 40,i])]) (by simp[results,gp,go_sem,fV,m,c1,c2,u,x,y]) rfl ⟨⟨i,rfl⟩,k.o⟩
 | some l=>
  obtain⟨-,-,j,q⟩:=aG3 f;have g:=λw=>aCF s w o
  simp only[f]at g;have n:∀c∈l.c,48<=c.toNat/\c.toNat<=57:=λc t=>by have:=j c t;simpa[isD]using this
  have k:=λw=>aKe l.a l.d ⟨l.whole.toArray⟩ ⟨l.b.toArray⟩ ⟨l.c.toArray⟩ w (by show l.whole.toArray.size+l.b.toArray.size<=_;simp;omega) (by simpa using n) (by show l.c.toArray.size<=_;simp;omega)
  clear f j q n;obtain⟨neg,u,be,x,y⟩:=l;obtain⟨⟨z,B,C⟩,f⟩:∃d,dA ⟨neg,u,be,x,y⟩=d:=⟨_,rfl⟩;simp only[f]at k;have D:=A f;clear f;go_enter func194,ntmps194;go_wp2_with fail;refine(g _).mono ?_;rintro e w1 ⟨rfl,h⟩;unfold aJa;obtain⟨b,a,-⟩:=after1 h;go_wp2_with fail;refine(k _).mono ?_;rintro e w2 ⟨rfl,j⟩;have f:Below w1 w1 w2:=((Below.refl w1 w1).alloc (ae _) _).trans (j.mono (by simp));have q:=keep b f;obtain⟨m,c1,c2,F⟩:=cells3 q;have n:=A (chain a f);clear h j f b q a;unfold fV;go_wp2_with fail;exact go (v:=ek #[fV ⟨z,B,C⟩,gn]) (by simp[results,gp,go_sem,fV,m,c1,c2]) rfl ⟨by rw[<-D.o];rfl,((n.o.setCell (ae _) _).setCell (ae _) _).setCell (ae _) _⟩
