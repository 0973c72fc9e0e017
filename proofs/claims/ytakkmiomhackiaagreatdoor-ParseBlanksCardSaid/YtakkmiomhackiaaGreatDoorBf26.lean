/-
  The program, one part of its walk. Conditions: none.
-/
import Derived.Test.YtakkmiomhackiaaGreatDoorBf24
import Derived.Test.YtakkmiomhackiaaGreatDoorBf25
set_option linter.all false
set_option maxRecDepth 100000
set_option maxHeartbeats 16000000
open Go.Proofs.Tryz
open Bool renaming false->I,false_eq_true->em,true->Z
open Except renaming error->T,ok->Q,pure->fe
open False renaming elim->dy
open Go renaming Calls->aj,Ending->bm,Value->ac,World->Y,bodyPost_ret->di,cell_of_one->cw,heap_alloc_new->bp,info_parts->gj,lt_of_block->bx,results->dj
open Go.Ending renaming returned->D
open Go.IntKind renaming i64->ah,wrap_i64->gc
open Go.Obj renaming cells->H
open Go.Proofs.Tryz renaming func53->dv,func75->cg,ntmps53->dw,ntmps75->cj,prog->af,results12->fa
open Go.Proofs.YtakkmiomhackiaaGreatDoor.Fr renaming object->gr
open Go.Proofs.YtakkmiomhackiaaGreatDoor.Keeps renaming A0->ga,A8->ae
open Go.Proofs.YtakkmiomhackiaaGreatDoor.LS renaming at_->bj
open Go.Proofs.YtakkmiomhackiaaGreatDoor.Lx renaming B4->dm,B8->fz,D4->gn,take->fc
open Go.Proofs.YtakkmiomhackiaaGreatDoor.Ps renaming C0->eu,C5->dp,C8->bu,C9->fh,D3->cz,F3->fi,G5->ar,J0->gq,J5->go,J6->cv,K8->ct,take->gm
open Go.Proofs.YtakkmiomhackiaaGreatDoor.Ra renaming bad->cu,on->bw
open Go.Proofs.YtakkmiomhackiaaGreatDoor.Rr renaming B4->ev,C9->fm,I4->ai,J0->fj,J6->dl,K6->eo,K8->dt,L0->fg,M9->gp,N7->et,P4->fk,Q9->fq
open Go.Proofs.YtakkmiomhackiaaGreatDoor.St renaming outside->co,within->av
open Go.Proofs.YtakkmiomhackiaaGreatDoor.Sz renaming A9->ib
open Go.Proofs.YtakkmiomhackiaaGreatDoor.Tr renaming A5->cr,null->dh
open Go.RowKit renaming Below->ao
open Go.RowKit.Below renaming heap_alloc->ej
open Go.Value renaming agg->ba,bool->ak,iface->bk,int->B,nilIface->U,pointer->E,slice->au,tuple->aw
open Go.World renaming cell?_of_block->fw,cell?_setCell_same'->ez,drewN->ck,setCell->du,size_alloc->fu
open List renaming attach_map_val->ge,concat_eq_append->eh,drop_eq_nil_iff->gu,drop_succ_cons->gv,eq_nil_or_concat->ee,flatten_append->gh,foldlM_cons->gw,getElem?_append_left->gk,getElem?_append_right->gl,length_append->bh,length_cons->bc,length_drop->dq,length_singleton->gy,mem_append->ew,mem_append_left->ft,mem_cons_self->gx
open Nat renaming add_comm->gz,le_add_right->fv,le_of_lt->bz,le_refl->ag,le_trans->ek,lt_of_lt_of_eq->dx,lt_of_lt_of_le->ei,zero_le->ep
open Option renaming none->J,some->O
open Or renaming inl->h,inr->C
open UInt8 renaming le_iff_toNat_le->gd
open UInt8.toNat renaming inj->ie
namespace Go.Proofs.YtakkmiomhackiaaGreatDoor
open Go.RowKit
variable {x:Ps}{n no:Nat}{tok:Tok}{l t:Oo}{en:Bool}
def aGk{G:Nat->Prop}{w:Y}{p:Nat}{s:LS}{toks:List Tok}(t:aG G w p x s toks):aG G (w.setCell ⟨p,8,J⟩ U) p x s toks:=by
 obtain⟨f,g,r,n,o,l,a,b,d,j,m,i,q⟩:=t;have c:Keeps (λk=>k=p) w (w.setCell ⟨p,8,J⟩ U):=(ae (λk=>k=p) w).A3 (p:=⟨p,8,J⟩) (h rfl) _;exact⟨λk t=>ei (f k t) c.size,g,r,n,o,l,a,b,d,aB j _,m.D8 c (λk t e=>d.g.2.1 (e▸t)),i.D8 c (λk t e=>d.g.2.2.1 (e▸t)),q.A2 c (λk t e=>d.g.2.2.2 (e▸t))⟩
def aKI(F:Nat->Prop)(w:Y)(p:Nat)(o:Out)(e:bm)(w':Y):Prop:=
 Keeps F w w'/\match o with
 | .error (no,a)=>e=D (cU no a)
 | .ok y=>e=D U/\aG (Since F w w') w' p y (bj y.d I) []
def aEd(F:Nat->Prop)(w:Y)(p:Nat)(x:Ps)(l:Oo)(v:ac)(s:aG F w p x (bj x.d I) [])(g9:fF x)(hv:BytesIn F w v l)(hl:l.length<=4294967296):
 aj af 18 #[E p,v] w λe w'=>aKI F w p (x.E4 po l) e w':=by
 have i5:=hv;obtain⟨a,cap,h8,_⟩:=i5;have t:=s.lt;have d:=s.R4;have i8:=t p d;obtain⟨W,hW⟩:∃W,(w.alloc (H #[E p] 43)).alloc (H #[v] 22)=W:=⟨_,rfl⟩;have z:Keeps (λ_=>False) w W:=by rw[<-hW];exact((ae _ w).A6 _).A6 _
 have m:W.heap[w.heap.size]?=O (H #[E p] 43 (0,0)):=by rw[<-hW];exact(ej _ _ _ (by simp)).trans (bp w _)
 have G:W.heap[w.heap.size+1]?=O (H #[v] 22 (0,0)):=by rw[<-hW];have:=bp (w.alloc (H #[E p] 43)) (H #[v] 22);rwa[fu]at this
 have h9:W.heap.size=w.heap.size+2:=by rw[<-hW];simp
 have R:=s.D8 z (λ_ _=>id);obtain⟨c8,c9,cf,c5,c1⟩:=R.cells;have h0:=bp W.drew (H #[U] 26);have f:Keeps (λ_=>False) W (W.drew.alloc (H #[U] 26)):=((ae _ W).B0).A6 _;have n:∀k,w.heap.size<=k->¬F k:=λk hk hf=>absurd (t k hf) (Nat.not_lt.2 hk)
 have q:=aCm F (W.drew.alloc (H #[U] 26)) p (w.heap.size+1) w.heap.size x l v (R.D8 f (λ_ _=>id)) g9
  (by obtain⟨a,cap,X,r,N,P⟩:=hv;exact⟨a,cap,X,r,N,P.imp id (λ⟨g,off,e1,e2,c⟩=>⟨g,off,e1,e2,λi x hi=>(z.same f).B3 (c i x hi) id⟩)⟩) hl (f.B7 G id) (f.B7 m id) (n _ (by omega)) (n _ (ag _))
 have S:¬F W.heap.size:=n _ (by omega);have j:=aEc W.drew (w.heap.size+1) w.heap.size _ q (λe w' V=>V.1.B7 h0 S);have K:Keeps F w (W.drew.alloc (H #[U] 26)):=((z.same f).mono λ_ s=>s.elim);obtain⟨h5,L⟩:∃h5,x.E4 po l=h5:=⟨_,rfl⟩;rw[L]at j⊢;have i0:=A d;have i6:p≠W.heap.size:=by omega
 have i1:=A (show w.heap.size≠p by omega);cases h5 with
 | error er=>
  obtain⟨no,c⟩:=er
  have HC:=A (j.mono (R':=λe w2=>e=D (cU no c)/\Keeps F w w2/\(∃u,w2.cell? ⟨p,8,J⟩=O u)/\(∀o,w2.frozen? ⟨p,o,J⟩=I)/\w2.cell? w=O (E p)) λe w2 V=>by
   obtain⟨w1,V⟩:=V
   have h6:mO F (W.drew.alloc (H #[U] 26)) p (T (no,c)) (bT no c) w1/\e=D (cU no c)/\w2=w1.setCell ⟨W.heap.size,0,J⟩ (cU no c):=by
    rcases V with⟨X,_,_⟩|⟨i2,i3,X,r,N⟩
    .have:=X.2.1;unfold bT at this;cases this
    .have P:=X.2.1;unfold bT cU at P;injection P with P
     simp at P;obtain⟨e1,e2⟩:=P;obtain rfl:i2=no:=by omega
     obtain rfl:i3=c:=by omega
     exact⟨X,r,N⟩
   obtain⟨⟨hk,_,v0,v1,v2,v3,v4,v5,v6,v7,v8,v9,hb⟩,rfl,rfl⟩:=h6;have N:=(aE (w:=w1) (b:=W.heap.size) (o:=0) (k:=p) (cU no c) i6).trans hb;obtain⟨-,-,-,-,-,-,-,-,d8,-,df⟩:=b8 N;have r:(w1.setCell ⟨W.heap.size,0,J⟩ (cU no c)).heap[w.heap.size]?=_:=(aE (w:=w1) (b:=W.heap.size) (o:=0) (k:=w.heap.size) (cU no c) (by omega)).trans (hk.B7 (f.B7 m id) (n _ (ag _)));exact⟨rfl,(K.same hk).A3 (p:=⟨W.heap.size,0,J⟩) (C (by rw[h9];exact fv _ 2)) _,⟨_,d8⟩,df,cw r⟩)
  have k0:=cw G;have k1:=cw m;subst h8;clear R h0 f n q S j K L s g9 t d G m z hv;subst hW;go_enter func18,ntmps18;go_wp2
  go_region_with (go_at_call 52;refine(HC.o).mono ?_;rintro e w2 ⟨he,N,⟨u,hu⟩,i9,r⟩;unfold cU at he;subst he)
  all_goals
   have h7:=A N;have i7:(w2.setCell ⟨p,8,J⟩ (bk 151 (ba #[no,c]))).cell? ⟨p,8,J⟩=O (bk 151 (ba #[no,c])):=ez _ _ _ (by rw[hu];rfl)
   have i4:(w2.setCell ⟨p,8,J⟩ (bk 151 (ba #[no,c]))).cell? w=O (E p):=by
    rw[fw (aE _ i1.o)];exact r
   clear N;go_wp2;go_ret;exact⟨h7.o.A3 (p:=⟨p,8,J⟩) (h i0.o) _,rfl⟩
 | ok y=>
  have HC:=A (j.mono (R':=λe w2=>e=D U/\Keeps F w w2/\aG (Since F w w2) w2 p y (bj y.d I) []/\w2.cell? w=O (E p)) λe w2 V=>by
   obtain⟨w1,V⟩:=V
   have h6:mO F (W.drew.alloc (H #[U] 26)) p (Q y) (D (aw #[])) w1/\e=D U/\w2=w1.setCell ⟨W.heap.size,0,J⟩ U:=by
    rcases V with s|⟨i2,i3,X,-,-⟩
    .exact s
    .have P:=X.2.1;unfold bT at P;cases P
   obtain⟨⟨hk,_,P⟩,rfl,rfl⟩:=h6;have i3:(W.drew.alloc (H #[U] 26)).heap.size=W.heap.size+1:=by simp
   have X:Keeps (λk=>k=W.heap.size) w1 (w1.setCell ⟨W.heap.size,0,J⟩ U):=(ae (λk=>k=W.heap.size) w1).A3 (p:=⟨W.heap.size,0,J⟩) (h rfl) _;have c:=P.D8 X (λk s e=>s.elim (λs=>S (e▸s)) (λs=>by have:=s.1;omega));have i2:Keeps F w (w1.setCell ⟨W.heap.size,0,J⟩ U):=(K.same hk).A3 (p:=⟨W.heap.size,0,J⟩) (C (by rw[h9];exact fv _ 2)) _;have r:(w1.setCell ⟨W.heap.size,0,J⟩ U).heap[w.heap.size]?=_:=(aE (w:=w1) (b:=W.heap.size) (o:=0) (k:=w.heap.size) U (by omega)).trans (hk.B7 (f.B7 m id) (n _ (ag _)));exact⟨rfl,i2,c.mono (λk s=>s.elim h (λs=>C ⟨ek K.size s.1,ei s.2 X.size⟩)) (aF t i2.size),cw r⟩)
  have k0:=cw G;have k1:=cw m;subst h8;clear R h0 f n q S j K L s g9 t d G m z hv;subst hW;go_enter func18,ntmps18;go_wp2
  go_region_with (go_at_call 52;refine(HC.o).mono ?_;rintro e w2 ⟨rfl,N,c,r⟩;have d:=c.cells;have hu:=d.1)
  all_goals
   have h7:=A N;have f:=A c;have j:=A (aGk c);have i7:(w2.setCell ⟨p,8,J⟩ U).cell? ⟨p,8,J⟩=O U:=ez _ _ _ (by rw[hu];rfl)
   have i4:(w2.setCell ⟨p,8,J⟩ U).cell? w=O (E p):=by
    rw[fw (aE _ i1.o)];exact r
   clear N c d;go_wp2;go_ret;exact⟨h7.o.A3 (p:=⟨p,8,J⟩) (h i0.o) _,rfl,j.o.mono (λk s=>s.N6 (by simp[du])) (λk s=>ei (f.o.lt k (s.N6 (by simp[du]))) (by simp[du]))⟩
def aCn(F:Nat->Prop)(w:Y)(p:Nat)(o:Out)(e:bm)(w':Y):Prop:=
 Keeps F w w'/\match o with
 | .error (no,a)=>e=bT no a/\iA w' p
 | .ok y=>e=D (aw #[])/\∃s,aG (Since F w w') w' p y s []
def aLI(F:Nat->Prop)(w:Y)(p:Nat)(x:Ps)(R:aG F w p x (bj x.d I) [])(i:x.d.Fine):
 ∃g,w.cell? ⟨p,2,J⟩=O (E (O ⟨g,0,J⟩))/\aj af 78 #[E (O ⟨g,0,J⟩)] w λe w'=>Keeps F w w'/\
  (x.d.B8.2.2.1=0->e=D U/\∃s,aG (Since F w w') w' p x s x.d.B8.2.1)/\
  (x.d.B8.2.2.1≠0->e=D (cU x.d.B8.2.2.1 x.d.B8.2.2.2)/\∃s,aG (Since F w w') w' p x s x.d.B8.2.1):=by
 obtain⟨c,L,K,z,g,y,a,b,f,q,N,v,G⟩:=R;refine⟨g,by rw[aA q];rfl,(aGg L w g x.d [] N i.number i.numeral i.c i.a (vF i).2.2.2.2 (by simp)).mono ?_⟩;rintro e w' ⟨j,o,u⟩;have d:Keeps F w w':=j.mono f.d;have m:=v.D8 j (λk R e=>f.f k e R);have l:=G.A2 j (λk R e=>f.c k e R);have n:=f.S2 (w:=w) (w':=w') (c p f.g.1) v.2.1 G.lt;refine⟨d,λt=>?_,λt=>?_⟩
 .obtain⟨rfl,r⟩:=o t;exact⟨rfl,bj _ Z,aF c d.size,_,K,z,g,y,a,b,n,j.B7 q f.g.2.1,r,m,l⟩
 .obtain⟨rfl,pl,P,r⟩:=u t;exact⟨rfl,.dead pl P _,aF c d.size,_,K,z,g,y,a,b,n,j.B7 q f.g.2.1,r,m,l⟩
def aGl(x:Lx):x.B8.2.1.length<=1:=by
 unfold fz;split
 .simp
 .split
  .simp
  .cases x.C0 with
   | none=>simp
   | some p=>simp
def aGm(F:Nat->Prop)(w:Y)(p:Nat)(x:Ps)(W:aG F w p x (bj x.d I) [])(o:fF x):
 aj af 53 #[E p] w λe w'=>cI e/\aCn F w p (x.C0 po) e w':=by
 have K:=W.lt;have g7:=A K;obtain⟨lb,h0,u⟩:=aLI F w p x W o.a;have v:=qT (x:=x.d);have y:=o.N5;have L:=aGl x.d;obtain⟨r,X⟩:∃r,x.d.B8=r:=⟨_,rfl⟩;rw[X]at u v L y;obtain⟨d,hd⟩:∃d,cz po {x with d:=r.1} r.2.1=d:=⟨_,rfl⟩;have a:x.C0 po=qV r d:=by rw[<-hd,<-X];rfl
 have N:cH {x with d:=r.1} (bW x):=o.ps.P8 r.1;have P:=A (λ(G:Nat->Prop)(w1:Y)(s:LS)(h1:aG G w1 p x s r.2.1)=>aBf G w1 p {x with d:=r.1} s r.2.1 (bW x) h1 v N y (by omega));rw[hd]at P;have R:=A u
 by_cases m:r.2.2.1=0
 .have HG:=A (show ∀(e:bm)(w':Y),((r.2.2.1=0->e=D U/\∃s,aG (Since F w w') w' p x s r.2.1)/\(r.2.2.1≠0->e=D (cU r.2.2.1 r.2.2.2)/\∃s,aG (Since F w w') w' p x s r.2.1))->e=D U/\∃s,aG (Since F w w') w' p x s r.2.1 from λe w' W=>W.1 m);cases d with
  | error er=>
   obtain⟨no,g8⟩:=er;rw[a];clear a N v L y hd X W o K u m;go_enter dv,dw;go_wp2_with fail;refine(R.o).mono ?_;rintro e w1 ⟨b,c⟩;obtain⟨rfl,s,f⟩:=HG.o _ _ c;have n:=A (P.o _ w1 _ f);have j:=A b;clear c f b;go_wp2_with fail;refine(n.o).mono ?_;rintro e w2 ⟨-,g,t,i⟩;have l:=A g;have HD:=A i;clear g i;unfold bT at t;subst t;go_wp2_with fail;exact⟨rfl,C ⟨_,_,rfl⟩,j.o.O9 l.o,rfl,HD.o⟩
  | ok q=>
   simp only[qV]at a;rw[if_neg (λW=>W m)]at a
   have g5:(q.a≠6/\((q.a:Int)!=6)=Z)\/(q.a=6/\((q.a:Int)!=6)=I):=by
    by_cases z:q.a=6
    .exact C ⟨z,by simp;omega⟩
    .exact h ⟨z,by simp;omega⟩
   rcases g5 with⟨S,e6⟩|⟨S,e6⟩
   .rw[if_pos S]at a;rw[a];have g9:=A (λw=>gZ w 95 q.c);clear a N v L y hd X W o K u m S;go_enter dv,dw;go_wp2_with fail;refine(R.o).mono ?_;rintro e w1 ⟨b,c⟩;obtain⟨rfl,s,f⟩:=HG.o _ _ c;have n:=A (P.o _ w1 _ f);have j:=A b;clear c f b;go_wp2_with fail;refine(n.o).mono ?_;rintro e w2 ⟨V,g,t,z⟩;subst t;have l:=A g;obtain⟨c8,c9,cf,c5,c1⟩:=z.cells;clear V g;have g6:=A z.Q4;clear z;go_wp2_with fail;refine(mH _).mono ?_;rintro e w3 ⟨rfl,rfl⟩;go_wp2_with fail;refine(g9.o _).mono ?_;rintro e w3 ⟨t,rfl⟩;unfold bT at t;subst t;go_wp2_with fail;exact⟨rfl,C ⟨_,_,rfl⟩,j.o.O9 l.o,rfl,g6.o⟩
   .rw[if_neg (λW=>W S)]at a;rw[a];clear a N v L y hd X W o K u m S;go_enter dv,dw;go_wp2_with fail;refine(R.o).mono ?_;rintro e w1 ⟨b,c⟩;obtain⟨rfl,s,f⟩:=HG.o _ _ c;have n:=A (P.o _ w1 _ f);have j:=A b;clear c f b;go_wp2_with fail;refine(n.o).mono ?_;rintro e w2 ⟨V,g,t,z⟩;subst t;have l:=A g;obtain⟨c8,c9,cf,c5,c1⟩:=z.cells;clear V g;have S:=A z;clear z;go_wp2_with fail;refine(mH _).mono ?_;rintro e w3 ⟨rfl,rfl⟩;go_wp2
    go_end0
    have z:=j.o.O9 l.o;exact⟨h rfl,z,rfl,s,S.o.mono (λk W=>W.trans j.o.size l.o.size) (aF g7.o z.size)⟩
 .have HG:=A (show ∀(e:bm)(w':Y),((r.2.2.1=0->e=D U/\∃s,aG (Since F w w') w' p x s r.2.1)/\(r.2.2.1≠0->e=D (cU r.2.2.1 r.2.2.2)/\∃s,aG (Since F w w') w' p x s r.2.1))->e=D (cU r.2.2.1 r.2.2.2)/\∃s,aG (Since F w w') w' p x s r.2.1 from λe w' W=>W.2 m);have z:=A (λw=>zF w r.2.2.1 r.2.2.2);cases d with
  | error er=>
   obtain⟨no,g8⟩:=er;rw[a];clear a N v L y hd X W o K u m;go_enter dv,dw;go_wp2_with fail;refine(R.o).mono ?_;rintro e w1 ⟨b,c⟩;obtain⟨rfl,s,f⟩:=HG.o _ _ c;have n:=A (P.o _ w1 _ f);have j:=A b;clear c f b;go_wp2_with fail;refine(n.o).mono ?_;rintro e w2 ⟨-,g,t,i⟩;have l:=A g;have HD:=A i;clear g i;unfold bT at t;subst t;go_wp2_with fail;exact⟨rfl,C ⟨_,_,rfl⟩,j.o.O9 l.o,rfl,HD.o⟩
  | ok q=>
   simp only[qV]at a;rw[if_pos m]at a;rw[a];clear a N v L y hd X W o K u m;go_enter dv,dw;go_wp2_with fail;refine(R.o).mono ?_;rintro e w1 ⟨b,c⟩;obtain⟨rfl,s,f⟩:=HG.o _ _ c;have n:=A (P.o _ w1 _ f);have j:=A b;clear c f b;go_wp2_with fail;refine(n.o).mono ?_;rintro e w2 ⟨V,g,t,a⟩;subst t;have l:=A g;have HD:=A a.Q4;clear V g a;go_wp2_with fail;refine(z.o _).mono ?_;rintro e w3 ⟨t,a⟩;have b:=A a;clear a;unfold bT at t;subst t;go_wp2_with fail;exact⟨rfl,C ⟨_,_,rfl⟩,(j.o.O9 l.o).A4 b.o,rfl,HD.o.A2 (ga (λ_=>False) b.o) id⟩
def zO(F:Nat->Prop)(w:Y)(o:Except (Nat×Nat) Tr)(e:bm)(w':Y):Prop:=
 Keeps F w w'/\match o with
 | .error (no,a)=>e=D (aw #[E J,cU no a])
 | .ok t=>∃b v,e=D (aw #[E (O ⟨b,0,J⟩),U])/\w'.heap[b]?=O (H #[v] 176 (0,0))/\cS (Since F w w') w' v t/\w.heap.size<=b
def oneOf(o:Out):Except (Nat×Nat) Tr:=match o with
 | .error e=>T e
 | .ok y=>Q (y.b.headD dh)
def aAC(F:Nat->Prop)(w:Y)(p:Nat)(x:Ps)(g:aG F w p x (bj x.d I) [])(q:fF x):
 aj af 16 #[E p] w λe w'=>zO F w (oneOf (x.C0 po)) e w':=by
 have f:∀y,x.C0 po=Q y->∃t,y.b= [t]:=λy hy=>aE7 q hy
 have i:=g.lt;have c:=g.R4;have h0:=i p c;obtain⟨c8,c9,-,-,-⟩:=g.cells;have r:Keeps (λ_=>False) w (w.alloc (H #[U] 26)):=(ae _ w).A6 _;have P:=bp w (H #[U] 26);have z:¬F w.heap.size:=λhf=>absurd (i _ hf) (Nat.lt_irrefl _)
 have j:=aGm F _ p x (g.D8 r (λ_ _=>id)) q;have d:=aAB w p _ j (λe w' K=>K.1.B7 P z);have l:Keeps F w (w.alloc (H #[U] 26)):=r.mono λ_ g=>g.elim
 have g9:p≠w.heap.size:=by omega
 obtain⟨R,m⟩:∃R,x.C0 po=R:=⟨_,rfl⟩;rw[m]at d f⊢;have W:=A c;cases R with
 | error er=>
  obtain⟨no,a⟩:=er
  have HC:=A (d.mono (R':=λe w2=>e=D (cU no a)/\Keeps F w w2/\(∃u,w2.cell? ⟨p,8,J⟩=O u)/\(∀o,w2.frozen? ⟨p,o,J⟩=I)) λe w2 K=>by
   obtain⟨w1,K⟩:=K
   have S:aCn F (w.alloc (H #[U] 26)) p (T (no,a)) (bT no a) w1/\e=D (cU no a)/\w2=w1.setCell w (cU no a):=by
    rcases K with⟨V,_,_⟩|⟨X,g7,V,n,L⟩
    .have:=V.2.1;unfold bT at this;cases this
    .have N:=V.2.1;unfold bT cU at N;injection N with N
     simp at N;obtain⟨e1,e2⟩:=N;obtain rfl:X=no:=by omega
     obtain rfl:g7=a:=by omega
     exact⟨V,n,L⟩
   obtain⟨⟨hk,_,L,v1,v2,v3,v4,v5,v6,v7,v8,v9,hb⟩,rfl,rfl⟩:=S;have n:=(aE (w:=w1) (b:=w.heap.size) (o:=0) (k:=p) (cU no a) g9).trans hb;obtain⟨-,-,-,-,-,-,-,-,d8,-,df⟩:=b8 n;exact⟨rfl,(l.same hk).A3 (p:=w) (C (ag _)) _,⟨_,d8⟩,df⟩)
  clear r P z j d l m g q i c f;go_enter func16,ntmps16;go_wp2_with fail;refine(HC.o).mono ?_;rintro e w2 ⟨he,n,⟨u,hu⟩,g8⟩;unfold cU at he;subst he;have h5:(w2.setCell ⟨p,8,J⟩ (bk 151 (ba #[no,a]))).cell? ⟨p,8,J⟩=O (bk 151 (ba #[no,a])):=ez _ _ _ (by rw[hu];rfl);have L:=A n;clear n;go_wp2;go_region;go_wp2_with fail;exact di (v:=aw #[E J,bk 151 (ba #[no,a])]) (by simp[dj,results16,go_sem]) rfl ⟨(L.o.A3 (p:=⟨p,8,J⟩) (h W.o) _).B0,rfl⟩
 | ok y=>
  obtain⟨t,ht⟩:=f y rfl
  have g8:oneOf (Q y)=Q t:=by
   show Q (y.b.headD dh)=_
   rw[ht];rfl
  rw[g8]
  have HC:=A (d.mono (R':=λe w2=>e=D U/\Keeps F w w2/\∃s,aG (Since F w w2) w2 p y s []) λe w2 K=>by
   obtain⟨w1,K⟩:=K
   have S:aCn F (w.alloc (H #[U] 26)) p (Q y) (D (aw #[])) w1/\e=D U/\w2=w1.setCell w U:=by
    rcases K with g|⟨X,g7,V,-,-⟩
    .exact g
    .have N:=V.2.1;unfold bT at N;cases N
   obtain⟨⟨hk,_,s,N⟩,rfl,rfl⟩:=S;have V:Keeps (λk=>k=w.heap.size) w1 (w1.setCell w U):=(ae (λk=>k=w.heap.size) w1).A3 (p:=w) (h rfl) _;have a:=N.D8 V (λk g e=>g.elim (λg=>z (e▸g)) (λg=>by have:=g.1;simp at this;omega));have X:Keeps F w (w1.setCell w U):=(l.same hk).A3 (p:=w) (C (ag _)) _;exact⟨rfl,X,s,a.mono (λk g=>g.elim h (λg=>C ⟨ek l.size g.1,ei g.2 V.size⟩)) (aF i X.size)⟩)
  have N:=A ht;clear r P z j d l m g q i c f g8 ht;go_enter func16,ntmps16;go_wp2_with fail;refine(HC.o).mono ?_;rintro e w2 ⟨rfl,n,s,i⟩;have a:Keeps (λk=>k=p) w2 ((w2.setCell ⟨p,8,J⟩ U).setCell ⟨p,9,J⟩ (ak Z)):=((ae (λk=>k=p) w2).A3 (p:=⟨p,8,J⟩) (h rfl) _).A3 (p:=⟨p,9,J⟩) (h rfl) _;obtain⟨-,FL,V,FP,lb,z,j,P,l,hb,-,S,-⟩:=i;have c:=aB (o:=8) hb U;have f:=aB (o:=9) c (ak Z);have d:=S.D8 a (λk g e=>l.g.2.2.1 (e▸g));rw[N.o]at d;have m:=A (aJi V _ z t d);obtain⟨-,-,-,-,-,-,-,-,d8,d9,df⟩:=b8 hb;have X:(w2.setCell ⟨p,8,J⟩ U).cell? ⟨p,8,J⟩=O U:=by rw[aA c];rfl
  have g7:((w2.setCell ⟨p,8,J⟩ U).setCell ⟨p,9,J⟩ (ak Z)).cell? ⟨p,3,J⟩=O (E z):=by rw[aA f];rfl
  have L:=A n;have q:=A a;have r:=A l.a;clear n a l hb S c f d;go_wp2_with fail;refine(m.o).mono ?_;rintro e d ⟨rfl,v,rfl,a⟩;have c:=A a;clear a;go_wp2_with fail;have a:Keeps F w (((w2.setCell ⟨p,8,J⟩ U).setCell ⟨p,9,J⟩ (ak Z)).alloc (H #[v] 176)):=(L.o.same (q.o.mono λk e=>e▸W.o)).A6 _;refine di (v:=aw #[E (O ⟨((w2.setCell ⟨p,8,J⟩ U).setCell ⟨p,9,J⟩ (ak Z)).heap.size,0,J⟩),U]) (by simp[dj,results16,go_sem]) rfl ⟨a,_,v,rfl,bp _ _,?_,?_⟩
  .exact(c.o.A2 (G:=λ_=>False) ((ae _ _).A6 _) (λ_ _=>id)).mono (λk g=>(r.o k g).N6 (by simp[du]))
  .simp[du];exact L.o.size
def aGn(w:Y)(d:Nat)(s:1<=d)(r:d<=512):aj af 47 #[d] w λe w'=>∃p,e=D (aw #[E (O ⟨p,0,J⟩),U])/\Keeps (λ_=>False) w w'/\aG (Since (λ_=>False) w w') w' p (ar d) (bj Lx.G5 I) []:=by
 have u:¬(d:Int)<1:=by omega
 have x:¬(512:Int)<(d:Int):=by omega
 have o:=A (aBv w);obtain⟨n,b⟩:∃n,w.alloc (H #[B ah 0,U,ak I,.func (.func 104) #[] #[],ak I,B ah 0,(),B ah 0,E J,(),B ah 0,B .i32 0,B .i32 0,()] 228)=n:=⟨_,rfl⟩;rw[b]at o;have c:=A b;clear b;go_enter func47,ntmps47;go_wp2_with fail;refine(o.o).mono ?_;rintro e w1 ⟨rfl,rfl⟩;go_wp2_with fail;refine(aBx _).mono ?_;rintro e w2 ⟨rfl,rfl⟩;go_wp2_with fail;have j:w1.heap.size=w.heap.size+1:=by rw[<-c.o];simp
 have m:Keeps (λ_=>False) w ((w1.alloc (H #[()] 195)).alloc (H (dM (ar d) w.heap.size w1.heap.size (au J 0 0)) 136)):=by
  rw[<-c.o];exact(((ae _ w).A6 _).A6 _).A6 _
 have g:((w1.alloc (H #[()] 195)).alloc (H (dM (ar d) w.heap.size w1.heap.size (au J 0 0)) 136)).heap[w.heap.size]?=O (H #[B ah 0,U,ak I,.func (.func 104) #[] #[],ak I,B ah 0,(),B ah 0,E J,(),B ah 0,B .i32 0,B .i32 0,()] 228 (0,0)):=by
  refine(ej _ _ _ (by simp;omega)).trans ((ej _ _ _ (by omega)).trans ?_);rw[<-c.o];exact bp w _
 have f:((w1.alloc (H #[()] 195)).alloc (H (dM (ar d) w.heap.size w1.heap.size (au J 0 0)) 136)).heap[w1.heap.size]?=O (H #[()] 195 (0,0)):=
  (ej _ _ _ (by simp)).trans (bp w1 _)
 have l:((w1.alloc (H #[()] 195)).alloc (H (dM (ar d) w.heap.size w1.heap.size (au J 0 0)) 136)).heap[w1.heap.size+1]?=O (H (dM (ar d) w.heap.size w1.heap.size (au J 0 0)) 136 (0,0)):=by
  have:=bp (w1.alloc (H #[()] 195)) (H (dM (ar d) w.heap.size w1.heap.size (au J 0 0)) 136)
  rwa[fu]at this
 refine di (v:=aw #[E (O ⟨w1.heap.size+1,0,J⟩),U]) (by simp[dj,results47,go_sem]) rfl ⟨w1.heap.size+1,rfl,m,?_⟩;have a:((w1.alloc (H #[()] 195)).alloc (H (dM (ar d) w.heap.size w1.heap.size (au J 0 0)) 136)).heap.size=w.heap.size+3:=by simp[j]
 refine⟨aF (λ_ y=>y.elim) m.size,λk=>k=w.heap.size,λk=>k=w1.heap.size,λ_=>False,w.heap.size,w1.heap.size,au J 0 0,[],⟨?_,?_,λ_ y=>y.elim,⟨?_,?_,?_,id⟩,?_,λ_ _ y=>y,λ_ _ y=>y⟩,l,?_,?_,?_⟩
 .rintro k rfl;exact C ⟨ag _,dx (by omega) a.symm⟩
 .rintro k rfl;exact C ⟨by omega,dx (by omega) a.symm⟩
 .exact C ⟨by omega,dx (by omega) a.symm⟩
 .omega
 .omega
 .rintro k rfl y;omega
 .exact⟨rfl,(by rintro k rfl;exact dx (by omega) a.symm),_,_,_,_,g,.nil _ _ _ _,⟨λy=>(by rcases y with y|y<;>cases y),λy=>(by cases y)⟩⟩
 .exact⟨rfl,(by rintro k rfl;exact dx (by omega) a.symm),_,[],f,.nil _ _ _ _,⟨rfl,λi v t q=>by simp at q⟩⟩
 .exact eO.nil _
def aBj(o:Out):Out:=match o with
 | .error e=>T e
 | .ok p=>p.C0 po
def aGo(l:Oo)(d:Nat):ct po l d=aBj ((ar d).E4 po l):=rfl
def mP(l:List UInt8)(d:Nat):Except (Nat×Nat) Tr:=oneOf (ct po l d)
def aEe(w:Y)(l:Oo)(d:Nat)(v:ac)(L:1<=d)(u:d<=512)(hv:BytesIn (λk=>w.heap.size<=k) w v l)(N:l.length<=4294967296):
 aj af 12 #[v,d] w λe w'=>zO (λ_=>False) w (mP l d) e w':=by
 have HN:=A (aGn w d L u)
 have V:=A (λ(w1:Y)(p:Nat)(m:Keeps (λ_=>False) w w1)(n:aG (Since (λ_=>False) w w1) w1 p (ar d) (bj Lx.G5 I) [])=>
  aEd (Since (λ_=>False) w w1) w1 p (ar d) l v n (pN d u) (by
   obtain⟨a,cap,b,c,f,j⟩:=hv;exact⟨a,cap,b,c,f,j.imp id (λ⟨g,off,q,r,s⟩=>⟨g,off,q,λR=>R.elim id (λR=>r R.1),λi x hi=>m.B3 (s i x hi) id⟩)⟩) N)
 obtain⟨o,z⟩:∃o,(ar d).E4 po l=o:=⟨_,rfl⟩;rw[z]at V;have c:ct po l d=aBj o:=by rw[aGo,z]
 obtain⟨a,cap,W,_⟩:=hv;subst W;unfold mP;cases o with
 | error X=>
  obtain⟨no,f⟩:=X;rw[c]
  show aj af 12 _ w λe w'=>zO (λ_=>False) w (T (no,f)) e w'
  clear c z N L u;go_enter func12,ntmps12;go_wp2_with fail;refine(HN.o).mono ?_;rintro e w1 ⟨p,rfl,m,n⟩;have s:=A (V.o w1 p m n);have S:=A m;clear m n;go_wp2_with fail;refine(s.o).mono ?_;rintro e w2 ⟨b,r⟩;have q:=A b;clear b;unfold cU at r;have r:e=D (bk 151 (ba #[no,f])):=r;subst r;go_wp2_with fail;exact di (v:=aw #[E J,bk 151 (ba #[no,f])]) (by simp[dj,fa,go_sem]) rfl ⟨S.o.O9 q.o,rfl⟩
 | ok y=>
  have F:=(pN d u).E4 z;have c:ct po l d=y.C0 po:=c;rw[c];have K:=A (λ(G:Nat->Prop)(w2:Y)(p:Nat)(n:aG G w2 p y (bj y.d I) [])=>aAC G w2 p y n F);obtain⟨tr,j⟩:∃tr,oneOf (y.C0 po)=tr:=⟨_,rfl⟩;rw[j]at K⊢;clear c z N L u F j;go_enter func12,ntmps12;go_wp2_with fail;refine(HN.o).mono ?_;rintro e w1 ⟨p,rfl,m,n⟩;have s:=A (V.o w1 p m n);have S:=A m;clear m n;go_wp2_with fail;refine(s.o).mono ?_;rintro e w2 ⟨b,rfl,m⟩;have F:=A (K.o _ w2 p m);have q:=A b;clear b m;go_wp2_with fail;refine(F.o).mono ?_;have n:=S.o.O9 q.o;rintro e w3 ⟨u,b⟩;have m:∀k,Since (Since (λ_=>False) w w1) w1 w2 k->Since (λ_=>False) w w2 k:=λk R=>R.trans S.o.size q.o.size
  have L:Keeps (λ_=>False) w w3:=n.O9 (u.mono m);have N:=A L;have z:=A (And.intro n.size u.size);have P:=A m;clear u L n m;cases tr with
  | error X=>
   obtain⟨no,f⟩:=X;have r:e=D (aw #[E J,bk 151 (ba #[no,f])]):=b;clear b;subst r;go_wp2_with fail;exact di (v:=aw #[E J,bk 151 (ba #[no,f])]) (by simp[dj,fa,go_sem]) rfl ⟨N.o,rfl⟩
  | ok t=>
   obtain⟨X,v,r,m,j,n⟩:=b;have u:=A m;have f:=A j;have L:=A n;clear m j n;subst r;go_wp2_with fail;refine di (v:=aw #[E X,U]) (by simp[dj,fa,go_sem]) rfl ⟨N.o,X,v,rfl,u.o,f.o.mono (λk R=>Since.trans (w1:=w2) (R.elim (λR=>h (P.o k R)) C) z.o.1 z.o.2),ek z.o.1 L.o⟩
def Rr.T7(en:Bool)(r:Rr)(a:Nat)(c:UInt8)(t:List UInt8):Ra:=
 if aY c then r.J6 a c
 else if c=34 then r.J0 a t
 else if aH c≠ []then r.P4 a (aH c) (c::t)
 else if c=45\/isD c=Z then r.Q9 en a (c::t)
 else cu 120 0
def aKN{r:Rr}{d:Nat}{c:UInt8}{a:Rr}(e:r.J6 d c=bw n a):n=1:=by
 unfold dl ai at e
 repeat' (first|(injection e with b h2;exact b.symm)|(cases e;done)|split at e)
def aEk{r:Rr}{d:Nat}{c:UInt8}(a:r.J6 d c=.cut):False:=by
 unfold dl ai at a
 repeat' (first|(cases a;done)|split at a)
def zR(w:Y)(j:Nat)(no b:Int):Prop:=
 ∃s d i p P a bytes e k g o a1 n l a2 f c m,w.heap[j]?=O (H (rdC s d i p P a bytes e k g o (au a1 n l) (au a2 f c) no b m) 172 (0,0))
def lJ(w:Y)(c:Nat)(s:ByteArray)(d i:Nat)(R:Ra)(e:bm)(w':Y):Prop:=ao c w w'/\match R with
 | .on n r=>e=D (ak Z)/\∃b,aU w' c s d (i+n) r b
 | .cut=>e=D (ak I)/\∃r b,aU w' c s d i r b
 | .bad no a=>e=D (ak Z)/\zR w' c no ((i+a:Nat):Int)
def qB.T6{w:Y}{c:Nat}{no a:Int}(r:qB w c no a):zR w c no a:=by
 obtain⟨s,d,i,q,P,b,bytes,f,l,k,p,a1,o,m,a2,j,e,n,-,g⟩:=r;exact⟨s,d,i,q,P,b,bytes,f,l,k,p,a1,o,m,a2,j,e,n,g⟩
def qC.T6{w c w':Y}{b d i:Nat}{s:ByteArray}{R:Ra}{e:bm}(g:qC c b s d i R e w')(f:ao b w c):lJ w b s d i R e w':=by
 refine⟨f.trans g.1,?_⟩;cases R with
 | on n r=>exact g.2
 | cut=>exact g.2
 | bad no a=>exact⟨g.2.1,g.2.2.T6⟩
def aKO{r:Rr}{d a:Nat}{c:UInt8}(e:r.J6 d c=cu no a):a=0:=by
 unfold dl ai at e
 repeat' (first|(injection e with h1 b;exact b.symm)|(cases e;done)|split at e)
def qC.J5{w w':Y}{c d i:Nat}{s:ByteArray}{R:Ra}{e:bm}(f:qC w c s d i R e w'):∃b,e=D (ak b):=by
 obtain⟨_,f⟩:=f;cases R with
 | on n r=>exact⟨_,f.1⟩
 | cut=>exact⟨_,f.1⟩
 | bad no a=>exact⟨_,f.1⟩
def qB.B4{w:Y}{c:Nat}{no a:Int}(u:qB w c no a):∃i:Nat,i<=1073741824/\w.cell? ⟨c,2,J⟩=O (B ah i)/\(∀o,w.frozen? ⟨c,o,J⟩=I)/\c<w.heap.size/\∀z:Int,z=((i+1:Nat):Int)->zR (w.setCell ⟨c,2,J⟩ (B ah z)) c no a:=by
 obtain⟨s,d,i,t,P,b,bytes,g,m,l,r,a1,q,n,a2,j,f,p,hi,e⟩:=u;refine⟨i,hi,aA e,free_at e,bx e,λz k=>?_⟩;subst k;exact⟨s,d,i+1,t,P,b,bytes,g,m,l,r,a1,q,n,a2,j,f,p,aB (o:=2) e _⟩
structure ROk(r:Rr)(d:Nat):Prop where
 a:Bnd r d
 b:r.K6=Z->∃ini f,r.e=ini++ [f]/\f.a.length<=65537
 i:∀ini f,r.e=ini++ [f]->f.object=Z->(r.a=5\/r.a=2)->f.b.length=f.a.length/\bK f.a/\f.a.Nodup
def aGp(w:Y)(b:Nat)(s:ByteArray)(d i a:Nat)(r:Rr)(m:aU w b s d i r a)(j:Bnd r d)(hi:i<=1073741824)(c:UInt8)(k:aY c=Z)(g:∀l f,r.e=l++ [f]->f.object=Z->(r.a=5\/r.a=2)->f.b.length=f.a.length/\bK f.a/\f.a.Nodup):
 aj af 105 #[E b,B .u8 c.toNat] w λe w'=>rI w b s d i (r.J6 d c) e w':=by
 unfold aY at k;simp at k;rcases k with((((rfl|rfl)|rfl)|rfl)|rfl)|rfl
 .exact zQ w b s d i a r m j hi 123 (C rfl)
 .exact zP w b s d i a r m j hi g
 .exact zQ w b s d i a r m j hi 91 (h rfl)
 .exact aEh w b s d i a r m j hi g
 .exact aEf w b s d i a r m j hi
 .exact aEg w b s d i a r m j hi
def aGq(w:Y)(b:Nat)(s:ByteArray)(d i f:Nat)(r:Rr)(g:aU w b s d i r f)(t:ROk r d)(en:Bool)(hi:i<s.size)(hs:s.size<=16777216)(c:UInt8)(u:s[i]=c)(j:aY c=Z):
 aj af 75 #[E b,en] w λe w'=>lJ w b s d i (r.J6 d c) e w':=by
 have v:∀W,Keeps (λ_=>False) w W->aU W b s d i r f/\ao b w W:=λW y=>⟨g.C3 y,y.C6 (by obtain⟨P,F,so,fl,bi,tx,a1,n1,m1,a2,n2,m2,G,-⟩:=g;exact bz (bx G)) λ_=>dy⟩
 obtain⟨c0,c2,-⟩:=g.cells;have i1:(i:Int)<(s.size:Int):=by omega
 have i0:(0:Int)<=(i:Int):=by omega
 have K:=A v;have l:=A (λ(W:Y)(y:aU W b s d i r f)=>show aj af 105 #[E b,B .u8 c.toNat] W λe w'=>rI W b s d i (r.J6 d c) e w' from aGp W b s d i f r y t.a (by omega) c j t.i);obtain⟨x,m⟩:∃x:Int,(c.toNat:Int)=x:=⟨_,rfl⟩;have g4:((s[i].toNat:Nat):Int)=x:=by rw[u];exact m
 rw[m]at l
 have L:x=123\/x=125\/x=91\/x=93\/x=58\/x=44:=by
  unfold aY at j;simp at j;rcases j with((((g|g)|g)|g)|g)|g<;>subst g<;>simp at m<;>omega
 have o:=A (λn N(g:r.J6 d c=bw n N)=>aKN g);have p:=A (λno a(g:r.J6 d c=cu no a)=>aKO g);have q:=A (λ(g:r.J6 d c=.cut)=>aEk g);obtain⟨R,z⟩:∃R,r.J6 d c=R:=⟨_,rfl⟩;rw[z]at l o q p⊢;clear z j m u v g t;rcases L with rfl|rfl|rfl|rfl|rfl|rfl
 all_goals
  go_enter cg,cj;go_wp2
  go_quiet (fail)
  generalize g:ck w _=z;have X:=A (show aU z b s d i r f/\ao b w z from K.o z (by rw[<-g];exact(ae _ w).R2 _));clear g;go_wp2_with fail;refine(l.o z X.o.1).mono ?_;rintro e w2 ⟨rfl,g,t⟩;have u:=A (X.o.2.trans g);clear g;cases R with
  | cut=>exact absurd rfl q.o
  | on n N=>
   obtain⟨v,j⟩:=t;obtain⟨-,k2,kf⟩:=j.cells;have m:b<w2.heap.size:=by obtain⟨P,F,so,fl,bi,tx,a1,n1,m1,a2,n2,m2,G,-⟩:=j;exact bx G
   have g:=A (And.intro j m);have j1:ah.wrap ((i:Int)+1)=((i+1:Nat):Int):=by rw[gc];omega
   clear j;go_wp2;go_ret;obtain rfl:=o.o n N rfl;exact⟨u.o.trans (((ae (λk=>k=b) w2).own 2 _).C6 (bz g.o.2) λk e=>by omega),rfl,v,g.o.1.B4 (i+1) _ (by simp)⟩
  | bad no a=>
   obtain⟨i2,g5,k2,kf,m,j⟩:=qB.B4 t;have g:=A (And.intro j m);obtain⟨S,v⟩:∃S,i2+1=S:=⟨_,rfl⟩;have j1:ah.wrap ((i2:Int)+1)=(S:Int):=by rw[gc];omega
   have V:=A v;clear j v;go_wp2;go_ret;refine⟨u.o.trans (((ae (λk=>k=b) w2).own 2 _).C6 (bz g.o.2) λk e=>by omega),rfl,?_⟩;rw[show((i+a:Nat):Int)=(i:Int)from by rw[p.o no a rfl];simp];exact g.o.1 _ (by rw[V.o])
def aGr(w:Y)(c:Nat)(s:ByteArray)(d i a:Nat)(r:Rr)(q:aU w c s d i r a)(g:ROk r d)(en:Bool)(hi:i<s.size)(n:s.size<=16777216)(o:s[i]=34):
 aj af 75 #[E c,en] w λe w'=>lJ w c s d i (r.J0 d (s.data.toList.drop (i+1))) e w':=by
 have p:∀W,Keeps (λ_=>False) w W->aU W c s d i r a/\ao c w W:=λW j=>⟨q.C3 j,j.C6 (by obtain⟨P,t,z,F,G,K,a1,L,N,a2,R,S,u,-⟩:=q;exact bz (bx u)) λ_=>dy⟩
 obtain⟨V,c2,-⟩:=q.cells;have X:(i:Int)<(s.size:Int):=by omega
 have i0:(0:Int)<=(i:Int):=by omega
 have l:=A p
 have v:=A (λ(W:Y)(j:aU W c s d i r a)=>show aj af 106 #[E c] W λe w'=>qC W c s d i (r.J0 d (s.data.toList.drop (i+1))) e w' from by
  cases k:r.K6 with
  | false=>exact aHG W c s d i a r j g.a k hi n
  | true=>
   obtain⟨m,f,x,y⟩:=g.b k;exact aIK W c s d i a r m f j g.a k x y hi n)
 have x:((s[i].toNat:Nat):Int)=34:=by rw[o];rfl
 clear o p q g;go_enter cg,cj;go_wp2
 go_quiet (fail)
 generalize g:ck w _=k;have m:=A (show aU k c s d i r a/\ao c w k from l.o k (by rw[<-g];exact(ae _ w).R2 _));clear g;go_wp2_with fail;refine(v.o k m.o.1).mono ?_;rintro e w2 g;obtain⟨b,rfl⟩:=g.J5;have o:=A (g.T6 m.o.2);clear g;go_wp2;go_ret;exact o.o
def aGs(w:Y)(g:Nat)(s:ByteArray)(d i a:Nat)(r:Rr)(y:aU w g s d i r a)(o:ROk r d)(en:Bool)(hi:i<s.size)(x:s.size<=16777216)(c:UInt8)(p:s[i]=c)(q:aH c≠ []):
 aj af 75 #[E g,en] w λe w'=>lJ w g s d i (r.P4 d (aH c) (s.data.toList.drop i)) e w':=by
 have v:∀W,Keeps (λ_=>False) w W->aU W g s d i r a/\ao g w W:=λW l=>⟨y.C3 l,l.C6 (by obtain⟨P,F,L,N,R,S,a1,V,X,a2,n2,m2,G,-⟩:=y;exact bz (bx G)) λ_=>dy⟩
 obtain⟨c0,c2,-⟩:=y.cells;have i1:(i:Int)<(s.size:Int):=by omega
 have i0:(0:Int)<=(i:Int):=by omega
 have n:=A v
 have K:c=110\/c=116\/c=102:=by
  unfold aH at q
  by_cases f:c=110
  .exact h f
  .by_cases j:c=116
   .exact C (h j)
   .by_cases k:c=102
    .exact C (C k)
    .simp[f,j,k]at q
 rcases K with rfl|rfl|rfl
 .have t:=A (λ(W:Y)(l:aU W g s d i r a)=>tX W g s d i a r l o.a ⟨#[110,117,108,108]⟩ (h rfl) (by omega) x);have z:((s[i].toNat:Nat):Int)=110:=by rw[p];rfl
  clear p v y o q;go_enter cg,cj;go_wp2
  go_quiet (fail)
  generalize j:ck w _=k;have m:=A (show aU k g s d i r a/\ao g w k from n.o k (by rw[<-j];exact(ae _ w).R2 _));clear j;go_wp2_with fail;refine(t.o k m.o.1).mono ?_;rintro e w2 f;obtain⟨b,rfl⟩:=f.J5;have u:=A (f.T6 m.o.2);clear f;go_wp2;go_ret;exact u.o
 .have t:=A (λ(W:Y)(l:aU W g s d i r a)=>tX W g s d i a r l o.a ⟨#[116,114,117,101]⟩ (C (h rfl)) (by omega) x);have z:((s[i].toNat:Nat):Int)=116:=by rw[p];rfl
  clear p v y o q;go_enter cg,cj;go_wp2
  go_quiet (fail)
  generalize j:ck w _=k;have m:=A (show aU k g s d i r a/\ao g w k from n.o k (by rw[<-j];exact(ae _ w).R2 _));clear j;go_wp2_with fail;refine(t.o k m.o.1).mono ?_;rintro e w2 f;obtain⟨b,rfl⟩:=f.J5;have u:=A (f.T6 m.o.2);clear f;go_wp2;go_ret;exact u.o
 .have t:=A (λ(W:Y)(l:aU W g s d i r a)=>tX W g s d i a r l o.a ⟨#[102,97,108,115,101]⟩ (C (C rfl)) (by omega) x);have z:((s[i].toNat:Nat):Int)=102:=by rw[p];rfl
  clear p v y o q;go_enter cg,cj;go_wp2
  go_quiet (fail)
  generalize j:ck w _=k;have m:=A (show aU k g s d i r a/\ao g w k from n.o k (by rw[<-j];exact(ae _ w).R2 _));clear j;go_wp2_with fail;refine(t.o k m.o.1).mono ?_;rintro e w2 f;obtain⟨b,rfl⟩:=f.J5;have u:=A (f.T6 m.o.2);clear f;go_wp2;go_ret;exact u.o
def aCo(w:Y)(g:Nat)(s:ByteArray)(d i f:Nat)(r:Rr)(p:aU w g s d i r f)(j:ROk r d)(en:Bool)(hi:i<s.size)(u:s.size<=16777216)(c:UInt8)(k:s[i]=c)(a:c=45\/isD c=Z):
 aj af 75 #[E g,en] w λe w'=>lJ w g s d i (r.Q9 en d (s.data.toList.drop i)) e w':=by
 have m:∀W,Keeps (λ_=>False) w W->aU W g s d i r f/\ao g w W:=λW n=>⟨p.C3 n,n.C6 (by obtain⟨P,v,z,F,G,K,a1,L,N,a2,R,S,y,-⟩:=p;exact bz (bx y)) λ_=>dy⟩
 obtain⟨V,c2,-⟩:=p.cells;have X:(i:Int)<(s.size:Int):=by omega
 have i0:(0:Int)<=(i:Int):=by omega
 have l:=A m;have q:=A (λ(W:Y)(n:aU W g s d i r f)=>aLz W g s d i f r n j.a en hi u);obtain⟨x,t⟩:∃x:Int,((s[i].toNat:Nat):Int)=x:=⟨_,rfl⟩
 have o:x=45\/((48:Int)<=x/\x<=57):=by
  rw[k]at t;rcases a with rfl|a
  .exact h (by rw[<-t];rfl)
  .unfold isD at a;simp[gd]at a;omega
 clear k m p j a;rcases o with rfl|⟨x1,x2⟩
 .skip;go_enter cg,cj;go_wp2
  go_quiet (fail)
  generalize j:ck w _=k;have m:=A (show aU k g s d i r f/\ao g w k from l.o k (by rw[<-j];exact(ae _ w).R2 _));clear j;go_wp2_with fail;refine(q.o k m.o.1).mono ?_;rintro e w2 a;obtain⟨b,rfl⟩:=a.J5;have p:=A (a.T6 m.o.2);clear a;go_wp2;go_ret;exact p.o
 .have y1:(x==123)=I:=by simp;omega
  have y2:(x==125)=I:=by simp;omega
  have y3:(x==91)=I:=by simp;omega
  have y4:(x==93)=I:=by simp;omega
  have y5:(x==58)=I:=by simp;omega
  have y6:(x==44)=I:=by simp;omega
  have y7:(x==34)=I:=by simp;omega
  have y8:(x==110)=I:=by simp;omega
  have y9:(x==116)=I:=by simp;omega
  have ya:(x==102)=I:=by simp;omega
  have yb:(x==45)=I:=by simp;omega
  go_enter cg,cj;go_wp2
  go_quiet (fail)
  generalize j:ck w _=k;have m:=A (show aU k g s d i r f/\ao g w k from l.o k (by rw[<-j];exact(ae _ w).R2 _));clear j;go_wp2_with fail;refine(q.o k m.o.1).mono ?_;rintro e w2 a;obtain⟨b,rfl⟩:=a.J5;have p:=A (a.T6 m.o.2);clear a;go_wp2;go_ret;exact p.o
def aEl(w:Y)(b:Nat)(s:ByteArray)(d i f:Nat)(r:Rr)(y:aU w b s d i r f)(R:ROk r d)(en:Bool)(hi:i<s.size)(hs:s.size<=16777216)(c:UInt8)(n:s[i]=c)(o:aY c=I)(z:c≠34)(g:aH c= [])(p:¬(c=45\/isD c=Z)):
 aj af 75 #[E b,en] w λe w'=>lJ w b s d i (cu 120 0) e w':=by
 have F:∀W,Keeps (λ_=>False) w W->aU W b s d i r f/\ao b w W:=λW l=>⟨y.C3 l,l.C6 (by obtain⟨P,q,S,V,X,tx,a1,n1,m1,a2,n2,m2,t,-⟩:=y;exact bz (bx t)) λ_=>dy⟩
 obtain⟨c0,c2,cf⟩:=y.cells;have i1:(i:Int)<(s.size:Int):=by omega
 have i0:(0:Int)<=(i:Int):=by omega
 have u:=A F;have HT:=A (λ(W:Y)(l:aU W b s d i r f)=>eP W b s d i f r l (by omega) 120 i i);have j:b<w.heap.size:=by obtain⟨P,q,S,V,X,tx,a1,n1,m1,a2,n2,m2,t,-⟩:=y;exact bx t
 have v:=A j;obtain⟨x,G⟩:∃x:Int,((s[i].toNat:Nat):Int)=x:=⟨_,rfl⟩
 have a:∀k:UInt8,c≠k->(x==((k.toNat:Nat):Int))=I:=λk m=>by
  rw[n]at G;have:c.toNat≠k.toNat:=λe=>m (ie e)
  simp;omega
 unfold aY at o;simp at o;obtain⟨⟨⟨⟨⟨a1,a2⟩,a3⟩,a4⟩,K⟩,L⟩:=o;have b1:c≠110:=λe=>by rw[e]at g;cases g
 have b2:c≠116:=λe=>by rw[e]at g;cases g
 have b3:c≠102:=λe=>by rw[e]at g;cases g
 have y1:(x==123)=I:=a 123 a1;have y2:(x==125)=I:=a 125 a2;have y3:(x==91)=I:=a 91 a3;have y4:(x==93)=I:=a 93 a4;have y5:(x==58)=I:=a 58 K;have y6:(x==44)=I:=a 44 L;have y7:(x==34)=I:=a 34 z;have y8:(x==110)=I:=a 110 b1;have y9:(x==116)=I:=a 116 b2;have ya:(x==102)=I:=a 102 b3;have yb:(x==45)=I:=a 45 (λe=>p (h e))
 have yc:¬(48:Int)<=x\/((48:Int)<=x/\¬x<=57):=by
  rw[n]at G;have N:¬isD c=Z:=λe=>p (C e)
  unfold isD at N;simp[gd]at N;omega
 clear n F y R z g p a a1 a2 a3 a4 K L b1 b2 b3 j;rcases yc with p|⟨p,y⟩
 all_goals
  go_enter cg,cj;go_wp2
  go_quiet (fail)
  generalize a:ck w _=g;have j:=A (show aU g b s d i r f/\ao b w g from u.o g (by rw[<-a];exact(ae _ w).R2 _));clear a;go_wp2_with fail;have z:=j.o.1.cells.2.1
  go_still_tail 9,(by kernel_rfl)
  go_wp2_with fail;refine(HT.o _ (j.o.1.C3 (ae _ g).B0)).mono ?_;rintro e w2 ⟨rfl,m,a⟩;have n:=A (And.intro m a);clear m a;go_wp2;go_ret;exact⟨j.o.2.trans (((ae (λk=>k=b) g).B0.same n.o.1).C6 (ek (bz v.o) j.o.2.size) λk e=>by omega),rfl,by simpa using n.o.2.T6⟩
def aGt(w:Y)(b:Nat)(s:ByteArray)(d i a:Nat)(r:Rr)(n:aU w b s d i r a)(c:ROk r d)(en:Bool)(hi:i<s.size)(f:s.size<=16777216):
 aj af 75 #[E b,en] w λe w'=>lJ w b s d i (r.T7 en d s[i] (s.data.toList.drop (i+1))) e w':=by
 have m:s.data.toList.drop i=s[i]::s.data.toList.drop (i+1):=bA hi;unfold Rr.T7;rw[<-m]
 by_cases k:aY s[i]=Z
 .rw[if_pos k];exact aGq w b s d i a r n c en hi f _ rfl k
 .rw[if_neg k]
  by_cases g:s[i]=34
  .rw[if_pos g];exact aGr w b s d i a r n c en hi f g
  .rw[if_neg g]
   by_cases l:aH s[i]≠ []
   .rw[if_pos l];exact aGs w b s d i a r n c en hi f _ rfl l
   .rw[if_neg l]
    by_cases j:s[i]=45\/isD s[i]=Z
    .rw[if_pos j];exact aCo w b s d i a r n c en hi f _ rfl j
    .rw[if_neg j];exact aEl w b s d i a r n c en hi f _ rfl (by simpa using k) g (by simpa using l) j
section
section
variable (po:List Tr->List (List UInt8)->List Tr)
end
end

structure Stp where
 b:Nat
 c:Bool
 d:Nat
 a:List UInt8
 f:Nat
 e:List (List UInt8)
def Tr.T8:Tr->List Stp
 | .null=> [⟨1,I,0,[],0,[]⟩]
 | .flag b=> [⟨2,b,0,[],0,[]⟩]
 | .num x=> [⟨3,I,x,[],0,[]⟩]
 | .text s=> [⟨4,I,0,s,0,[]⟩]
 | .list l=>(l.attach.map λx=>Tr.T8 x.1).flatten++ [⟨5,I,0,[],l.length,[]⟩]
 | .object keys l=>(l.attach.map λx=>Tr.T8 x.1).flatten++ [⟨6,I,0,[],0,keys⟩]
termination_by t=>t
decreasing_by all_goals(simp_wf;have:=List.sizeOf_lt_of_mem x.2;omega)
def dX(l:List Tr):List Stp:=(l.map Tr.T8).flatten
def tD(l:List Tr):(Tr.list l).T8=dX l++ [⟨5,I,0,[],l.length,[]⟩]:=by
 rw[Tr.T8];unfold dX;rw[ge]
def nE(keys:List Oo)(l:List Tr):(Tr.object keys l).T8=dX l++ [⟨6,I,0,[],0,keys⟩]:=by
 rw[Tr.T8];unfold dX;rw[ge]
def uN{l:List Tr}{i:Nat}{t:Tr}(a:l[i]?=O t):dX (l.take (i+1))=dX (l.take i)++t.T8:=by
 unfold dX;rw[List.take_succ,a];simp
def aIc{l:List Tr}(i:Nat):(dX (l.take i)).length<=(dX l).length:=by
 have e:dX l=dX (l.take i)++dX (l.drop i):=by
  unfold dX;rw[<-gh,<-List.map_append,List.take_append_drop]
 rw[e,bh];omega
def aBV(t:Tr):1<=t.T8.length:=by
 cases t with
 | null=>simp[Tr.T8]
 | flag b=>simp[Tr.T8]
 | num b=>simp[Tr.T8]
 | text s=>simp[Tr.T8]
 | list l=>rw[tD];simp
 | object k l=>rw[nE];simp
def tE:∀l:List Tr,l.length<=(dX l).length
 | []=>ag _
 | x::l=>by
  have a:dX (x::l)=x.T8++dX l:=by unfold dX;simp
  have:=aBV x;have:=tE l;rw[a,bh,bc];omega
def aA7{l:List Tr}{i:Nat}{t:Tr}(b:l[i]?=O t):(dX (l.take i)).length+t.T8.length<=(dX l).length:=by
 have e:=uN b;have a:=aIc (l:=l) (i+1);rw[e,bh]at a;exact a
section
def aId(s:Stp)(K:ac):List ac:= [B ah s.b,ak s.c,B .u64 s.d,.string ⟨s.a.toArray⟩,B ah s.f,K]
def nK(w:Y)(c:List ac)(s:Stp):Prop:=∃(a:Option Addr)(m:Nat),c=aId s (au a s.e.length m)/\Win 9 encS w (au a s.e.length m) s.e
def cK(e:Nat)(w:Y)(V:ac)(L:List Stp):Prop:=∃a:List (List ac),a.length=L.length/\aQ 6 e w V L.length a.flatten/\∀(i:Nat)(c:List ac)(s:Stp),a[i]?=O c->L[i]?=O s->nK w c s
def aBW:lB 141 147 6 72:=⟨underlying141,by decide,by
 have e:(af.info? 147).map (λi=>(i.zero,i.size,i.bytes))=O (O (ba #[B ah 0,ak I,B .u64 0,"",B ah 0,()]),6,72):=by kernel_rfl
 obtain⟨i,c,a,d,b⟩:=gj e;exact⟨i,_,c,a,d,b,rfl⟩⟩
def zA:lB 143 149 6 72:=⟨underlying143,by decide,by
 have e:(af.info? 149).map (λi=>(i.zero,i.size,i.bytes))=O (O (ba #[B ah 0,ak I,B .u64 0,"",B ah 0,()]),6,72):=by kernel_rfl
 obtain⟨i,c,a,d,b⟩:=gj e;exact⟨i,_,c,a,d,b,rfl⟩⟩
section
variable {e:Nat} {w w':Y} {V V':ac} {L L2:List Stp} {G:Nat->Prop} {c:List ac} {s:Stp}
def cK.nil(e:Nat)(w:Y):cK e w (au J 0 0) []:=⟨[],rfl,.nil _ _ _,λi c s a=>by simp at a⟩
def cK.A7(b:cK e w V L):∃a c,V=au a L.length c:=b.elim λ_ b=>b.2.1.A7
def cK.lt(b:cK e w V L){k:Nat}(a:V.ownBlock=O k):k<w.heap.size:=b.elim λ_ b=>b.2.1.lt a
def nK.A2(i:nK w c s)(d:Keeps G w w')(f:∀(k:Nat)(c:Array ac),w.heap[k]?=O (H c 9 (0,0))->¬G k):nK w' c s:=by
 obtain⟨a,m,rfl,b⟩:=i;exact⟨a,m,rfl,b.A2 d λk e=>(b.E0 e).elim λc g=>f k c g⟩
def cK.A2(o:cK e w V L)(b:Keeps G w w')(m:∀k,V.ownBlock=O k->¬G k)(l:∀(k:Nat)(c:Array ac),w.heap[k]?=O (H c 9 (0,0))->¬G k):cK e w' V L:=by
 obtain⟨a,f,d,g⟩:=o;exact⟨a,f,d.A2 b m,λi c s n j=>(g i c s n j).A2 b l⟩
def cK.A4(b:cK e w V L)(a:ao w w w'):cK e w' V L:=b.A2 (ga (λ_=>False) a) (λ_ _=>id) λ_ _ _=>id
def cK.S8{a css2:List (List ac)}(t:e≠9)(m:a.length=L.length)(q:aQ 6 e w V L.length a.flatten)(r:∀(i:Nat)(c:List ac)(s:Stp),a[i]?=O c->L[i]?=O s->nK w c s)
 (o:css2.length=L2.length)(j:∀(i:Nat)(c:List ac)(s:Stp),css2[i]?=O c->L2[i]?=O s->nK w c s)(l:Keeps (λk=>V.ownBlock=O k) w w')
 (g:aQ 6 e w' V' (L.length+L2.length) (a.flatten++css2.flatten)):cK e w' V' (L++L2):=by
 have n:∀(k:Nat)(c:Array ac),w.heap[k]?=O (H c 9 (0,0))->¬V.ownBlock=O k:=λk c d p=>by
  obtain⟨u,b⟩:=q.E0 p;rw[d]at b;injection b with b
  injection b with _ b _
  exact t b.symm
 refine⟨a++css2,by rw[bh,bh,m,o],by rw[bh,gh];exact g,λi c s d f=>?_⟩
 by_cases hi:i<a.length
 .rw[gk hi]at d;rw[gk (by omega)]at f;exact(r i c s d f).A2 l n
 .rw[gl (by omega)]at d;rw[gl (by omega)]at f;rw[<-m]at f;exact(j _ c s d f).A2 l n
def cK.J8{a:List (List ac)}(n:e≠9)(j:a.length=L.length)(l:aQ 6 e w V L.length a.flatten)(m:∀(i:Nat)(c:List ac)(s:Stp),a[i]?=O c->L[i]?=O s->nK w c s)
 (o:nK w c s)(g:Keeps (λk=>V.ownBlock=O k) w w')(b:aQ 6 e w' V' (L.length+1) (a.flatten++c)):cK e w' V' (L++ [s]):=
 cK.S8 (css2:= [c]) (L2:= [s]) n j l m rfl (λi q p d f=>by
  cases i with
  | zero=>simp at d f;subst d;subst f;exact o
  | succ i=>simp at d) g (by simpa using b)
end
def lU(w:Y)(d c b a e f:ac)(i:TypeId):∀(j:Nat)(u:ac),[d,c,b,a,e,f][j]?=O u->(w.alloc (H #[d,c,b,a,e,f] i)).cell? ((⟨w.heap.size,0,J⟩:Addr).add j)=O u:=λj u g=>by
 rw[Addr.add_lit,Nat.zero_add];exact(aA (bp w _)).trans (by simpa using g)
def aA8(w:Y)(V:ac)(L:List Stp)(e:bm)(w':Y):Prop:=∃a,e=D a/\cK 147 w' a L/\Keeps (λk=>V.ownBlock=O k) w w'/\∀k,a.ownBlock=O k->V.ownBlock=O k\/w.heap.size<=k
def tF(t:Tr):Prop:=∀(F:Nat->Prop)(w:Y)(v V:ac)(L:List Stp),cS F w v t->cK 147 w V L->(∀k,F k->V.ownBlock≠O k)->L.length+t.T8.length<=1048576->aj af 122 #[V,v] w λe w'=>aA8 w V (L++t.T8) e w'
end
section
section
variable {p:Ps} {r:Rr} {d i:Nat}
def zS(f:List Tr->List Oo->List Tr)(p:Ps)(b:p.d.j=co)(d:p.d.e=I)(i:p.d.c<16777216)(c:UInt8)(g:aI c=Z):p.take f c=Q {p with d:={p.d with c:=p.d.c+1},c:=p.c+1}:=by
 have a:p.d.B4 c=⟨p.d,[],0⟩:=by unfold dm;rw[b];simp[aP,g]
 have e:¬p.d.c=16777216:=by omega
 simp[gm,fc,e,a,cz,gn,d,pure,fe]
def aBk{L:Lx}{c:UInt8}(a:x.d.take c=(L,[tok],0,0))(hi:L.e=I):x.take po c=match dp po {x with d:=L} tok with
 | .error e=>T e
 | .ok q=>Q {q with c:=q.c+1}:=by
 unfold gm;simp only[a];rw[eT];cases dp po {x with d:=L} tok with
 | error e=>rfl
 | ok q=>
  simp[Except.bind,cz,gn,hi,pure,fe]
def aIL{q:Ps}(a:dp po x tok=Q q):q.d=x.d/\q.c=x.c:=
 oK (toks:= [tok]) (by rw[eT,a];rfl)
def zT{q:Ps}{L:Lx}{c:UInt8}(i:fF x)(j:x.d.take c=(L,[tok],0,0))(hi:L.e=I)(g:L.j=co)(f:dp po {x with d:=L} tok=Q q)(a:Al q r d):
 x.take po c=Q {q with c:=q.c+1}/\Alike {q with c:=q.c+1} r d L.c:=by
 have e:=aBk j hi;rw[f]at e;have b:=aIL f;exact⟨e,⟨a.h,a.a,a.g,a.bytes,a.e,a.b,a.low,a.c⟩,by show q.d.c=_;rw[b.1],by show q.d.j=_;rw[b.1];exact g,by show q.d.e=_;rw[b.1];exact hi,i.take e⟩
def aEm{L:Lx}{c:UInt8}{e:Nat×Nat}(b:x.d.take c=(L,[tok],0,0))(hi:L.e=I)(a:dp po {x with d:=L} tok=T e):x.take po c=T e:=by
 rw[aBk b hi,a]
def Steps(p:Ps)(d i:Nat)(l:List UInt8):Ra->Prop
 | .cut=>fin p l=T (95,i+l.length)
 | .bad no a=>fin p l=T (no,i+a)
 | .on n b=>1<=n/\n<=l.length/\∃p',Alike p' b d (i+n)/\fin p l=fin p' (l.drop n)
def aGu(l:Alike p r d i){c:UInt8}(t:Oo)(hb:aI c=I)(hc:aY c=Z)(hm:i<16777216):Steps p d i (c::t) (r.J6 d c):=by
 obtain⟨L,K⟩:∃L:Lx,({p.d with e:=I,a:=i,g:= [],number:=0,j:=co,c:=i+1}:Lx)=L:=⟨_,rfl⟩;have S:¬p.d.c=16777216:=by rw[l.c];omega
 have j:p.d.take c=(L,[.mark i c],0,0):=by
  have a:p.d.B4 c=⟨{p.d with e:=I,a:=i,g:= [],number:=0,j:=co},[.mark i c],0⟩:=by
   unfold dm;rw[l.j];simp only[aP,hb,hc,if_true,Lx.E2,l.c];rfl
  unfold fc;rw[if_neg S,a,<-K,l.c];rfl
 have w:L.e=I:=by rw[<-K]
 have V:L.j=co:=by rw[<-K]
 have W:L.c=i+1:=by rw[<-K]
 have m:Al {p with d:=L} r d:=⟨l.a.h,l.a.a,l.a.g,l.a.bytes,l.a.e,l.a.b,l.a.low,l.a.c⟩;have N:cH {p with d:=L} 0:=l.ps.P8 L
 have g:∀{q:Ps}{P:Rr},cv po {p with d:=L} i c=Q q->Al q P d->Steps p d i (c::t) (bw 1 P):=by
  intro q P a b;obtain⟨s,u⟩:=zT l.ok j w V a b;rw[W]at u;exact⟨ag _,by simp,_,u,fT s⟩
 have x:∀{no:Nat},cv po {p with d:=L} i c=T (no,i)->Steps p d i (c::t) (cu no 0):=by
  intro no a;exact eU (aEm j w a)
 have b:=m.D0 N i;have y:=m.T5 N.b;unfold dl
 by_cases s:c=91\/c=123
 .rw[if_pos s];unfold ai;cases a:r.B9 d with
  | error no=>
   rw[a]at b;simp only at b⊢;refine x ?_;unfold cv;rcases s with rfl|rfl
   .rw[if_pos rfl,b];rfl
   .rw[if_neg (by decide),if_pos rfl,b];rfl
  | ok P=>
   rw[a]at b;simp only at b⊢;obtain⟨v,rfl,z,_⟩:=b;have k:=λo=>m.S6.O1 z (y z) o
   rcases s with rfl|rfl
   .exact g (by unfold cv;rw[if_pos rfl,v];rfl) (k I)
   .exact g (by unfold cv;rw[if_neg (by decide),if_pos rfl,v];rfl) (k Z)
 .rw[if_neg s];have R:p.a=r.a:=l.a.a
  have a:cv po {p with d:=L} i c=(if c=58/\p.a=4 then Q {p with d:=L,a:=0}else if c=44/\p.a=5 then Q {p with d:=L,a:=if jB p.e then 3 else 0}else if go {p with d:=L} c then Q (Ps.C4 po {p with d:=L})else T (120,i)):=by
   unfold cv;rw[if_neg (λe=>s (h e)),if_neg (λe=>s (C e))]
  by_cases u:c=58/\r.a=4
  .rw[if_pos u];exact g (a.trans (if_pos (by rw[R];exact u))) (m.N9 (n:=0) (by decide) (by omega) (h (by rw[u.2];rfl)))
  .rw[if_neg u];rw[if_neg (by rw[R];exact u)]at a;have z:r.M9=jB p.e:=l.a.M9
   by_cases k:c=44/\r.a=5
   .rw[if_pos (by rw[R];exact k)]at a;cases v:r.M9 with
    | true=>
     rw[if_pos ⟨k.1,k.2,rfl⟩];rw[<-z,v,if_pos rfl]at a;exact g a (m.N9 (n:=3) (by decide) (by omega) (h (by rw[k.2];rfl)))
    | false=>
     rw[if_neg (λe=>by cases e.2.2)];have F:p.e≠ []:=(l.ps.b.Q0).2.1 (by omega)
     have X:r.L0=Z:=by
      unfold gp at v;unfold fg;have G:=l.a.e;rcases ee r.e with e|⟨g0,f,e⟩
      .rw[e]at G;exact absurd G F
      .rw[eh]at e;rw[e,cE]at v⊢;simp only at v⊢;rw[v];rfl
     rw[if_pos ⟨k.1,k.2,X⟩];rw[<-z,v,if_neg (by decide)]at a;exact g a (m.N9 (n:=0) (by decide) (by omega) (C v))
   .rw[if_neg (λe=>k ⟨e.1,e.2.1⟩),if_neg (λe=>k ⟨e.1,e.2.1⟩)];rw[if_neg (by rw[R];exact k)]at a;have F:=m.J5 N.b c
    by_cases v:go {p with d:=L} c=Z
    .rw[if_pos (F.1 v)];rw[if_pos v]at a;exact g a (m.E9 N v)
    .rw[if_neg (λe=>v (F.2 e))];rw[if_neg v]at a;exact x a
def aCp(m:Al x r d)(hp:fF (x.C8 (aK av (i+1) i [] [] 0 0 0)))(t:Oo)(hl:i+1+t.length<=16777216)(hk:r.K6=I->r.a=0\/r.a=1):
 match r.L3 t with
  | .cut=>fin (x.C8 (aK av (i+1) i [] [] 0 0 0)) t=T (95,i+1+t.length)
  | .bad no a=>fin (x.C8 (aK av (i+1) i [] [] 0 0 0)) t=T (no,i+a)
  | .on n R=>1<=n/\n<=t.length+1/\∃p',Alike p' R d (i+n)/\fin (x.C8 (aK av (i+1) i [] [] 0 0 0)) t=fin p' (t.drop (n-1)):=by
 have P:=aAX x i i (ag _) t.length t [] 1 0 0 (ag _) (ag _) hl;unfold Rr.L3;cases w:cM [] 1 t with
 | cut=>rw[w]at P;exact aBT P
 | bad no a=>rw[w]at P;exact aGW P
 | ok y=>
  rw[w]at P;obtain⟨S,n⟩:=y;obtain⟨g1,g2,dg,cd,g3⟩:=P;simp only at g1 g2 g3⊢;obtain⟨k,rfl⟩:∃k,n=k+2:=⟨n-2,by omega⟩;have e0:i+(k+2)-1=i+k+1:=by omega
  rw[e0]at g3;have z:fF (x.C8 (aK av (i+k+1) i [] S dg cd 0)):=g3.2 hp
  have o:aV S=Z:=by
   have:=(z.a.text rfl).2.2;unfold aV
   show(aX [] S==O [])=Z
   have e:aX [] S=O []:=this;rw[e];rfl
  rw[aFy g3];obtain⟨L,hL⟩:∃L:Lx,(⟨i+k+2,co,I,i,[],0,[],S,dg,cd,0⟩:Lx)=L:=⟨_,rfl⟩
  have l:(x.C8 (aK av (i+k+1) i [] S dg cd 0)).d.take 34=(L,[.str i (i+k+1+1-i) S],0,0):=by
   rw[<-hL];unfold fc;rw[if_neg (by show ¬i+k+1=16777216;omega)];rfl
  have V:L.e=I:=by rw[<-hL]
  have g5:L.j=co:=by rw[<-hL]
  have g6:L.c=i+(k+2):=by rw[<-hL];rfl
  obtain⟨X,hX⟩:∃X:Ps,({x.C8 (aK av (i+k+1) i [] S dg cd 0)with d:=L}:Ps)=X:=⟨_,rfl⟩;have c:Al X r d:=by rw[<-hX];exact⟨m.h,m.a,m.g,m.bytes,m.e,m.b,m.low,m.c⟩
  have g7:∀q,cH (x.C8 (aK av (i+k+1) i [] S dg cd 0)) q->cH X q:=λq a0=>by rw[<-hX];exact a0.P8 L
  have F:=g7 _ z.ps;have g9:X.a=r.a:=c.a;have W:X.bytes=r.bytes:=c.bytes;have s:dp po {x.C8 (aK av (i+k+1) i [] S dg cd 0)with d:=L} (.str i (i+k+1+1-i) S)=X.J0 i S:=by rw[hX];rfl
  have u:∀{q:Ps}{R:Rr},X.J0 i S=Q q->Al q R d->1<=k+2/\k+2<=t.length+1/\∃p',Alike p' R d (i+(k+2))/\fin (x.C8 (aK av (i+k+1) i [] S dg cd 0)) (34::t.drop (k+2-1))=fin p' (t.drop (k+2-1)):=by
   intro q R f g;obtain⟨j,v⟩:=zT z l V g5 (s.trans f) g;rw[g6]at v;exact⟨by omega,by omega,_,v,fT j⟩
  have G:∀{no:Nat},X.J0 i S=T (no,i)->fin (x.C8 (aK av (i+k+1) i [] S dg cd 0)) (34::t.drop (k+2-1))=T (no,i+0):=by
   intro no f;exact eU (aEm l V (s.trans f))
  cases K:r.K6 with
  | false=>
   have hw:=hk K;rw[if_neg (by simp)]
   have g:cH X 1:=by
    have:bW (x.C8 (aK av (i+k+1) i [] S dg cd 0))=1:=by unfold bW;rw[if_pos ⟨rfl,by show x.a=0\/x.a=1;rw[m.a];exact hw⟩]
    rw[this]at F;exact F
   have f:X.J0 i S=(X.F3 S i).map λp=>fh {p with b:=gE p.b S}:=by unfold gq;rw[if_pos (by omega)]
   unfold fi at f
   by_cases j:2097152<r.bytes+S.length
   .rw[if_pos j];rw[if_pos (by omega)]at f;exact G f
   .rw[if_neg j];rw[if_neg (by omega)]at f;simp only[em,if_false];refine u f ?_;have v:cH {X with bytes:=X.bytes+S.length} 1:=⟨g.h,g.c,g.g,by show X.bytes+S.length<=2097152;omega,g.f,by have:=g.d;show jK X.b+fW X.e<=X.bytes+S.length;omega,g.b,g.a,g.e⟩;have N:Al {X with bytes:=X.bytes+S.length} {r with bytes:=r.bytes+S.length} d:=⟨c.h,c.a,c.g,by show X.bytes+S.length=_;rw[W],c.e,c.b,c.low,c.c⟩;have g4:=c.T5 g.b hw;have:=N.F7 v (t:=.text S) (b:=S.length) (by simp[cr]) (by have:=g.d;show jK X.b+S.length+fW X.e<=X.bytes+S.length;omega) g4;have g8:gE X.b S=bB X.b (.text S):=by unfold gE;rw[if_pos o]
    show Al (fh {X with bytes:=X.bytes+S.length,b:=gE X.b S}) _ d
    rw[g8];exact this
  | true=>
   have hw:r.a=2\/r.a=3:=by unfold eo at K;simpa using K
   have v:r.M9=Z:=by rw[c.M9];exact(F.b.Q0).1 (by omega)
   have g4:=c.L9 v;have f:X.J0 i S=(if S∈fP X.e then T (101,i)else(fi {X with e:=X.e.dropLast++ [gr (fP X.e++ [S])]} S i).map λp=>{p with a:=4}):=by unfold gq;rw[if_neg (by omega)]
   by_cases g:S∈r.L9
   .rw[if_pos ⟨rfl,g⟩];rw[if_pos (g4▸g)]at f;exact G f
   .rw[if_neg (λe=>g e.2)];rw[if_neg (λe=>g (g4.symm▸e))]at f;unfold fi at f;simp only at f
    by_cases j:2097152<r.bytes+S.length
    .rw[if_pos j];rw[if_pos (by omega)]at f;exact G f
    .rw[if_neg j];rw[if_neg (by omega)]at f;simp only[if_true];refine u f ?_;have N:Al {X with bytes:=X.bytes+S.length} {r with bytes:=r.bytes+S.length} d:=⟨c.h,c.a,c.g,by show X.bytes+S.length=_;rw[W],c.e,c.b,c.low,c.c⟩;exact N.O3 hw v S
def aCq{x:Lx}(a:x.j=co)(b:x.c=i):x.B4 34=⟨aK av i i [] [] 0 0 0,[],0⟩:=by
 unfold dm;rw[a,<-b];rfl
def aGv(K:Alike p r d i)(t:Oo)(z:i+1+t.length<=16777216):Steps p d i (34::t) (r.J0 d t):=by
 have o:=aCq K.j K.c;unfold fj
 have b:∀{l:Rr}{x:Ps},Al x l d->(l.K6=I->l.a=0\/l.a=1)->p.take po 34=Q (x.C8 (aK av (i+1) i [] [] 0 0 0))->Steps p d i (34::t) (l.L3 t):=by
  intro l x F s f;have:=aCp F (K.ok.take f) t z s;revert this;cases l.L3 t with
  | cut=>intro g;show fin p _=_;rw[fT f,g,bc];congr 2;omega
  | bad no a=>intro g;show fin p _=_;rw[fT f,g]
  | on n q=>
   rintro⟨g1,u,p',G,y⟩;refine⟨g1,by rw[bc];exact u,p',G,?_⟩;rw[fT f,y];obtain⟨k,rfl⟩:∃k,n=k+1:=⟨n-1,by omega⟩;rfl
 cases c:r.K6 with
 | true=>
  rw[if_pos rfl];have w:r.a=2\/r.a=3:=by unfold eo at c;simpa using c
  refine b K.a (λe=>by rw[c]at e;cases e) ?_;have v:=yY K o (by omega) rfl rfl;rw[v];unfold Ps.F9;rw[if_pos ⟨rfl,by show p.a=2\/p.a=3;rw[K.a.a];exact w⟩]
  show Q _=Q _
  congr 1
  show(⟨_,p.c+1,_,_,_,_,_,_⟩:Ps)=_
  rw[K.R8];rfl
 | false=>
  rw[if_neg (by simp)];have m:=K.F9 o (by omega) rfl rfl (λe=>by unfold eo at c;simp at c;omega);unfold ai;cases j:r.B9 d with
  | error no=>rw[j]at m;exact eU m
  | ok q=>
   rw[j]at m;obtain⟨b1,rfl,b3⟩:=m;exact b K.a.S6 (λ_=>b3) b1
def aEn:∀a b:Oo,alike a b<=a.length
 | [],[]=>ag _
 | [],_::_=>ag _
 | _::_,[]=>ep _
 | x::a,y::b=>by
  unfold alike;split
  .have:=aEn a b;simp only[bc];omega
  .exact ep _
def aBl:∀a b:Oo,alike a b<=b.length
 | [],[]=>ag _
 | [],_::_=>ep _
 | _::_,[]=>ag _
 | x::a,y::b=>by
  unfold alike;split
  .have:=aBl a b;simp only[bc];omega
  .exact ep _
def aEo{c:UInt8}(b:aH c≠ []):∃a,aH c=c::a/\a≠ []/\aI c=I/\aY c=I/\c≠34/\c≠45/\isD c=I:=by
 unfold aH at b;split at b
 .rename_i e;subst e;exact⟨[117,108,108],rfl,by simp,by decide,by decide,by decide,by decide,by decide⟩
 .split at b
  .rename_i e;subst e;exact⟨[114,117,101],rfl,by simp,by decide,by decide,by decide,by decide,by decide⟩
  .split at b
   .rename_i e;subst e;exact⟨[97,108,115,101],rfl,by simp,by decide,by decide,by decide,by decide,by decide⟩
   .exact absurd rfl b
def aGw(V:Alike p r d i){c:UInt8}(t:Oo)(v:aH c≠ [])(G:i+1+t.length<=16777216):Steps p d i (c::t) (r.P4 d (aH c) (c::t)):=by
 obtain⟨a,u,n,y,s,o,q,w⟩:=aEo v
 have K:p.d.B4 c=⟨jN i i [c] p.d,[],0⟩:=by
  unfold dm;rw[V.j];simp only[aP,y,s,o,q,w,em,or_self,if_false,v,ne_eq,not_false_eq_true,if_true];rw[<-V.c]
 have g:=V.F9 K (by omega) rfl rfl (λe=>o e.1);unfold fk ai;cases k:r.B9 d with
 | error no=>rw[k]at g;exact eU g
 | ok P=>
  rw[k]at g;obtain⟨b1,rfl,b3⟩:=g;have b1:p.take po c=Q (bu {p with g:=p.g+1} (jN (i+1) i [c] p.d)):=b1;have j:=V.ok.take b1;have l:=aA5 {p with g:=p.g+1} i p.d (aH c) a [c] t (i+1) n (by simp) rfl u (by omega) G;rw[u]at l⊢;have N:alike (c::a) (c::t)=alike a t+1:=by show(if c=c then _ else _)=_;rw[if_pos rfl]
  rw[N];simp only[bc];split at l
  .rename_i z;rw[if_pos (by omega)]
   show fin p _=_
   rw[fT b1,aGW l,show i+1+alike a t=i+(alike a t+1) by omega]
  .rename_i z;rw[if_neg (by omega)];split at l
   .rename_i x;rw[if_pos (by omega)]
    show fin p _=_
    rw[fT b1,aBT l];congr 2
    show i+1+t.length=i+(t.length+1)
    omega
   .rename_i x;rw[if_neg (by omega)];have S:=aEn a t;have R:=aBl a t;have L:alike a t=a.length:=by omega
    rw[L];have m:=l.2 j;refine⟨by omega,by simp;omega,_,⟨?_,?_,rfl,rfl,m⟩,?_⟩
    .have f:cH (bu {p with g:=p.g+1} (jN (i+1) i [c] p.d)) 1:=by
      have:=j.ps;have e:bW (bu {p with g:=p.g+1} (jN (i+1) i [c] p.d))=1:=by unfold bW;rw[if_pos ⟨rfl,by show p.a=0\/p.a=1;rw[V.a.a];exact b3⟩]
      rwa[e]at this
     have F:=(V.a.S6).C8 (s9 (i+1+a.length) i (c::a) p.d);exact F.F7 (b:=0) ⟨f.h,f.c,f.g,f.bytes,f.f,f.d,f.b,f.a,f.e⟩ (sQ _) (by have:=f.d;exact this) (V.a.T5 V.ps.b b3)
    .show i+1+a.length=i+(a.length+1);omega
    .rw[fT b1,aFy l];rfl
def aCr(a0:Alike p r d i){c:UInt8}(t:List UInt8)(m:c=45\/isD c=Z)(hl:i+1+t.length<=16777216):Steps p d i (c::t) (r.N7 d (c::t)):=by
 have w:aI c=I/\aY c=I/\c≠34:=by
  rcases m with rfl|m
  .decide
  .have a:∀c:UInt8,isD c=Z->aI c=I/\aY c=I/\c≠34:=by
    intro c m;refine⟨?_,?_,?_⟩
    .cases y:aI c with
     | false=>rfl
     | true=>
      unfold aI at y;simp at y;rcases y with((rfl|rfl)|rfl)|rfl<;>cases m
    .cases y:aY c with
     | false=>rfl
     | true=>
      unfold aY at y;simp at y;rcases y with((((rfl|rfl)|rfl)|rfl)|rfl)|rfl<;>cases m
    .rintro rfl;cases m
   exact a c m
 obtain⟨y,g6,W⟩:=w
 obtain⟨v,X⟩:∃v,aR 0 c=O v:=by
  rw[aJQ];rcases m with rfl|m
  .exact⟨1,rfl⟩
  .split
   .exact⟨_,rfl⟩
   .split
    .exact⟨_,rfl⟩
    .first|exact⟨_,rfl⟩|(rw[if_pos m];exact⟨_,rfl⟩)
 have hs:p.d.B4 c=⟨gY i i [c] v p.d,[],0⟩:=by
  unfold dm;rw[a0.j];simp only[aP,y,g6,W,em,if_false,m,if_true,kX,X];rw[<-a0.c]
 have z:=a0.F9 hs (by omega) rfl rfl (λe=>W e.1);unfold et ai;cases G:r.B9 d with
 | error no=>rw[G]at z;exact eU z
 | ok r'=>
  rw[G]at z;obtain⟨b1,rfl,b3⟩:=z;have b1:p.take po c=Q (bu {p with g:=p.g+1} (gY (i+1) i [c] v p.d)):=b1;have K:=a0.ok.take b1;have hg:=aDB {p with g:=p.g+1} i p.d t (i+1) v [c] (by omega) hl;simp only;rw[xX,cQ X];obtain⟨k,hk⟩:∃k,(bV v t).1=k:=⟨_,rfl⟩;obtain⟨n,L⟩:∃n,(bV v t).2=n:=⟨_,rfl⟩;have a:= @vL v t;have g7:=pR v t;rw[hk]at g7 a;rw[L]at a;rw[hk,L]at hg;rw[hk,L];simp only[bc];have g4: [c]++t.take k=(c::t).take (k+1):=rfl;have N:=hg.2 K;have l:fin p (c::t)=fin (bu {p with g:=p.g+1} (gY (i+1+k) i ([c]++t.take k) n p.d)) (t.drop k):=by rw[fT b1,aFy hg]
  cases o:bL n with
  | false=>
   by_cases j:k+1<t.length+1
   .rw[if_pos ⟨rfl,j⟩]
    show fin p _=_
    rw[l];cases f:t.drop k with
    | nil=>rw[gu]at f;omega
    | cons e u=>
     have F:=a f
     have g:(gY (i+1+k) i ([c]++t.take k) n p.d).B4 e=⟨gY (i+1+k) i ([c]++t.take k) n p.d,[],94⟩:=by
      show bX _ e=_
      unfold bX;rw[F];simp only;rw[o,if_neg (by decide)]
     rw[eU (eZ _ g (show i+1+k<16777216 by omega) (by decide) (by decide))]
     show T (120,i+1+k)=T (120,i+(k+1))
     rw[show i+1+k=i+(k+1) by omega]
   .rw[if_neg (λe=>j e.2),if_pos rfl]
    show fin p _=_
    rw[l,gu.2 (by omega)];rw[aBT (kB _ rfl o)]
    show T (95,i+1+k+0)=T (95,i+(t.length+1))
    rw[show i+1+k+0=i+(t.length+1) by omega]
  | true=>
   rw[if_neg (λe=>by cases e.1),if_neg (by decide),<-g4];cases g:bitsOf ([c]++t.take k)with
   | none=>
    show fin p _=_
    rw[l];obtain⟨g1,j⟩:=aIb {p with g:=p.g+1} (P:=i+1+k) (s:=i) (x:=p.d) o g;cases f:t.drop k with
    | nil=>unfold fin;exact g1
    | cons e u=>exact eU (j e (a f) (by have:(t.drop k).length=t.length-k:=dq;rw[f,bc]at this;omega))
   | some b=>
    obtain⟨q,V⟩:∃q,fh {(bu {p with g:=p.g+1} (fO (i+1+k) i ([c]++t.take k) n p.d))with b:=iR p.b b}=q:=⟨_,rfl⟩
    have F:cH (bu {p with g:=p.g+1} (fO (i+1+k) i ([c]++t.take k) n p.d)) 1:=by
     have:=K.ps;have e:bW (bu {p with g:=p.g+1} (gY (i+1) i [c] v p.d))=1:=by unfold bW;rw[if_pos ⟨rfl,by show p.a=0\/p.a=1;rw[a0.a.a];exact b3⟩]
     rw[e]at this;exact⟨this.h,this.c,this.g,this.bytes,this.f,this.d,this.b,this.a,this.e⟩
    have g5:=F.F7 (t:=.num (dW b)) (b:=0) (by simp[cr]) (by have:=F.d;omega)
    have g8:Al q (fm {r with g:=r.g+1} (.num (dW b))) d:=by
     rw[<-V];exact((a0.a.S6).C8 (fO (i+1+k) i ([c]++t.take k) n p.d)).F7 F (b:=0) (by simp[cr]) (by have:=F.d;exact this) (a0.a.T5 a0.ps.b b3)
    have g9:cH q 0:=by
     rw[<-V];have e:iR p.b b=p.b++ [.num (dW b)]:=g5.1;rw[e];exact g5.2
    have j:q.d=fO (i+1+k) i ([c]++t.take k) n p.d:=by rw[<-V];rfl
    have h0:q.c=i+1+k:=by rw[<-V];rfl
    have R:fF q:=by
     have S:bW q=0:=by unfold bW;rw[j,if_neg (λe=>by cases e.1)]
     refine⟨by rw[S];exact g9,?_,λe=>(by rw[j]at e;cases e),by rw[j,h0]⟩;rw[j];exact gH rfl rfl (show i+1+k<=16777216 by omega) (show i<=i+1+k by omega) N.a.number
    refine⟨by omega,by simp;omega,q,⟨g8,by rw[j];show i+1+k=i+(k+1);omega,by rw[j],by rw[j],R⟩,?_⟩;rw[l,gv];cases f:t.drop k with
    | nil=>unfold fin;show eu po _=eu po q;rw[aLy _ o g,V]
    | cons e u=>
     have:=aKl {p with g:=p.g+1} (P:=i+1+k) (s:=i) (x:=p.d) o g (by have:(t.drop k).length=t.length-k:=dq;rw[f,bc]at this;omega) (a f);have S:(bu {p with g:=p.g+1} (gY (i+1+k) i ([c]++t.take k) n p.d)).take po e=q.take po e:=by rw[<-V];exact this
     unfold fin Ps.E4;rw[gw,gw,S]
def aBm(k:Alike p r d i)(c:UInt8)(t:Oo)(j:aI c=I)(f:i+1+t.length<=16777216):Steps p d i (c::t) (r.B4 d c t):=by
 unfold ev
 by_cases a:aY c=Z
 .rw[if_pos a];exact aGu k t j a (by omega)
 .rw[if_neg a]
  by_cases g:c=34
  .subst g;rw[if_pos rfl];exact aGv k t f
  .rw[if_neg g]
   by_cases e:aH c≠ []
   .rw[if_pos e];exact aGw k t e f
   .rw[if_neg e]
    by_cases b:c=45\/isD c=Z
    .rw[if_pos b];exact aCr k t b f
    .rw[if_neg b];refine eU (k.T4 ?_ (by omega));unfold dm;rw[k.j];have a:aY c=I:=by simpa using a
     simp only[aP,j,a,g,b,e,em,if_false,ne_eq];refine⟨?_,?_⟩<;>first|rfl|trivial
def rJ(d:Nat):∀(N:Nat)(l:Oo)(p:Ps)(r:Rr)(i:Nat),l.length<=N->Alike p r d i->i+l.length<=16777216->oneOf (fin p l)=dt d r i l
 | _,[],p,r,i,_,K,_=>by
  rw[dt]
  have v:fin p []=if p.a≠6 then T (95,p.c)else Q p:=by
   unfold fin
   show eu po p=_
   unfold eu;have y:p.d.B8=(p.d,[],0,0):=by unfold fz;rw[if_pos K.e]
   simp[y,cz,pure,fe]
  rw[v];have G:=K.a.a
  by_cases m:r.a=6
  .rw[if_neg (by omega),if_pos m];obtain⟨j,_⟩:=(K.ps.b.Q0).2.2.2 (by omega);have hi:=K.a.b;have e:=K.a.e;rw[if_pos m]at hi;have:r.e= []:=by rw[j]at e;exact List.map_eq_nil_iff.1 e.symm
   rw[this]at hi
   show Q (p.b.headD dh)=_
   rw[hi];rfl
  .rw[if_pos (by omega),if_neg m,K.R8];rfl
 | 0,_::_,_,_,_,K,_,_=>by simp at K
 | N+1,c::t,p,r,i,z,K,w=>by
  rw[bc]at z w;rw[dt]
  by_cases g:aI c=Z
  .rw[if_pos g];have f:=zS po p K.j K.e (by rw[K.c];omega) c g
   have o:Alike {p with d:={p.d with c:=p.d.c+1},c:=p.c+1} r d (i+1):=
    ⟨⟨K.a.h,K.a.a,K.a.g,K.a.bytes,K.a.e,K.a.b,K.a.low,K.a.c⟩,by show p.d.c+1=_;rw[K.c],K.j,K.e,K.ok.take f⟩
   rw[fT f];exact rJ d N t _ r (i+1) (by omega) o (by omega)
  .rw[if_neg g];have b:=aBm K c t (by simpa using g) (by omega);revert b;cases r.B4 d c t with
   | cut=>intro b;have b:fin p (c::t)=T (95,i+(t.length+1)):=b;rw[b];rfl
   | bad no a=>intro b;have b:fin p (c::t)=T (no,i+a):=b;rw[b];rfl
   | on n q=>
    rintro⟨F,s,p',x,u⟩;rw[u];obtain⟨k,rfl⟩:∃k,n=k+1:=⟨n-1,by omega⟩;rw[bc]at s;rw[gv];exact rJ d N (t.drop k) p' q (i+(k+1)) (by rw[dq];omega) x (by rw[dq];omega)
def uW(b:d<=512):Alike (ar d) ⟨0,[],0,0,dh⟩ d 0:=
 ⟨⟨rfl,rfl,rfl,rfl,rfl,rfl,λf a=>by simp at a,λf a=>by simp at a⟩,rfl,rfl,rfl,pN d b⟩
def aEp(a:d<=512)(b:l.length<=16777216):mP l d=jR l d:=by
 have:=rJ d l.length l (ar d) ⟨0,[],0,0,dh⟩ 0 (ag _) (uW a) (by omega);exact this
end
end
def aEq{f:RFr}:∀{l:List RFr},f∈l->f.b.length<=(l.flatMap λf=>f.b).length
 | g::l,a=>by
  rw[List.flatMap_cons,bh];rcases List.mem_cons.1 a with rfl|a
  .omega
  .have:=aEq a;omega
def aBn{p:Ps}{r:Rr}{d i:Nat}(G:Alike p r d i)(z:d<=512):ROk r d:=by
 have k:=G.ps;have g:=G.a;have v:p.e.length=r.e.length:=g.O4;have n:=k.c;have y:p.h=d:=g.h
 have l:∀f∈r.e,f.b.length<=65536:=λf s=>by
  have o:=k.O5;rw[g.b,bh]at o;have t:f.b.length<=(r.e.flatMap λf=>f.b).length:=aEq s;omega
 have c:∀b f,r.e=b++ [f]->r.e.getLast?=O f:=λb f e=>by rw[e];simp
 refine⟨⟨z,by omega,by rw[<-g.g];exact k.g,by rw[<-g.bytes];exact k.bytes,l⟩,λu=>?_,λb f j x w=>?_⟩
 .have w:p.a=2\/p.a=3\/p.a=4:=by
   rw[g.a];unfold eo at u;simp at u;omega
  have a:=(k.b.Q0).1 w;rcases ee r.e with F|⟨b,f,j⟩
  .exfalso;rw[g.e,F]at a;cases a
  .rw[eh]at j;refine⟨b,f,j,?_⟩
   have q:f.object=Z:=by
    rw[g.e,j]at a;unfold jB jM at a;simp at a;cases s:f.object with
    | true=>rfl
    | false=>simp[s]at a
   have:=g.c f (c b f j) q;have:=l f (by rw[j];simp);split at* <;>omega
 .have m:gr f.a∈p.e:=by
   rw[g.e,j];simp[jM,x]
  obtain⟨o,t,_⟩:=k.Q1 m;have:=g.c f (c b f j) x;rw[if_neg (by omega)]at this;exact⟨by omega,o,t⟩
def vU{p:Ps}{r:Rr}{d i:Nat}{c:UInt8}(e:Alike p r d i)(b:aI c=Z)(hi:i<16777216):∃p',Alike p' r d (i+1):=by
 have a:=zS po p e.j e.e (by rw[e.c];omega) c b;exact⟨{p with d:={p.d with c:=p.d.c+1},c:=p.c+1},⟨e.a.h,e.a.a,e.a.g,e.a.bytes,e.a.e,e.a.b,e.a.low,e.a.c⟩,by show p.d.c+1=_;rw[e.c],e.j,e.e,e.ok.take a⟩
def aEr{r f:Rr}{d:Nat}{c:UInt8}(k:r.T7 en d c t=bw n f):r.B4 d c t=bw n f:=by
 unfold Rr.T7 at k;unfold ev;split at k
 .rename_i b;rw[if_pos b];exact k
 .rename_i b;rw[if_neg b];split at k
  .rename_i a;rw[if_pos a];exact k
  .rename_i a;rw[if_neg a];split at k
   .rename_i e;rw[if_pos e];exact k
   .rename_i e;rw[if_neg e];split at k
    .rename_i i;rw[if_pos i];unfold fq ai at k;unfold et ai;split at k
     .cases k
     .split at k
      .cases k
      .split at k
       .cases k
       .rename_i j g;simp only[not_or]at g;dsimp only;rw[if_neg j,if_neg g.1];exact k
    .cases k
def aCs{r:Rr}{d:Nat}:r.Q9 Z d l=r.N7 d l:=by
 unfold fq et ai;cases r.B9 d with
 | error no=>rfl
 | ok c=>
  dsimp only
  by_cases b:(dB l).2=I/\(dB l).1<l.length
  .rw[if_pos b,if_pos b]
  .rw[if_neg b,if_neg b]
   by_cases a:(dB l).2=I
   .rw[if_pos (h a),if_pos a]
   .rw[if_neg (by simp[a]),if_neg a];rfl
def rK{r:Rr}{d:Nat}{c:UInt8}:r.T7 Z d c t=r.B4 d c t:=by
 unfold Rr.T7 ev;rw[aCs]
def aCt{r:Rr}{d:Nat}(b:r.B9 d=T no):no≠0:=by
 unfold Rr.B9 at b
 repeat' (first|(injection b with a;rw[<-a];decide)|(cases b;done)|split at b)
def zU{r:Rr}{a:Nat}(e:jS r (cM [] 1 l)=cu no a):no≠0:=by
 cases b:cM [] 1 l with
 | cut=>rw[b]at e;cases e
 | bad d a2=>
  rw[b]at e;injection e with c h2
  rw[<-c];exact oN _ (ag _) b
 | ok x=>
  rw[b]at e;obtain⟨s,n⟩:=x;unfold jS at e;simp only at e
  repeat' (first|(injection e with c h2;rw[<-c];decide)|(cases e;done)|split at e)
def aKP{r:Rr}{d a:Nat}{c:UInt8}(f:r.T7 en d c t=cu no a):no≠0:=by
 unfold Rr.T7 at f;split at f
 .unfold dl ai at f
  repeat' (first|(injection f with b h2;rw[<-b];first|decide|exact aCt (by assumption))|(cases f;done)|split at f)
 .split at f
  .unfold fj ai at f;split at f
   .exact zU f
   .split at f
    .rename_i e;injection f with b h2;rw[<-b];exact aCt e
    .exact zU f
  .split at f
   .unfold fk ai at f
    repeat' (first|(injection f with b h2;rw[<-b];first|decide|exact aCt (by assumption))|(cases f;done)|split at f)
   .split at f
    .unfold fq ai at f
     repeat' (first|(injection f with b h2;rw[<-b];first|decide|exact aCt (by assumption))|(cases f;done)|split at f)
    .injection f with b h2;rw[<-b];decide
def zV{p:Ps}{r a:Rr}{d i:Nat}{c:UInt8}(l:Alike p r d i)(e:aI c=I)(g:i+1+t.length<=16777216)(k:r.T7 en d c t=bw n a):1<=n/\n<=t.length+1/\∃p',Alike p' a d (i+n):=by
 have:=aBm l c t e g;rw[aEr k]at this;obtain⟨f,b,p',j,_⟩:=this;exact⟨f,by simpa using b,p',j⟩
def jD(r:Rr):Prop:=(∀f∈r.e,∀t∈f.b,Small t)/\Small r.done
def jD.C9{r:Rr}{t:Tr}(k:jD r)(j:Small t):jD (r.C9 t):=by
 rcases ee r.e with c|⟨i,f,c⟩
 .unfold fm;rw[c];exact⟨λf d=>(by simp at d),j⟩
 .rw[eh]at c;have d:=k.1;rw[c]at d;have e:r.C9 t={r with e:=i++ [{f with b:=f.b++ [t]}],a:=5}:=by unfold fm;rw[c];simp
  rw[e];refine⟨λg b u a=>?_,k.2⟩;rcases ew.1 b with b|b
  .exact d g (ft _ b) u a
  .simp at b;subst b;rcases ew.1 a with a|a
   .exact d f (by simp) u a
   .simp at a;subst a;exact j
def jD.B9{r b:Rr}{d:Nat}(c:jD r)(a:r.B9 d=Q b):jD b:=by
 unfold Rr.B9 at a
 repeat' (first|(injection a with a;subst a;exact c)|(cases a;done)|split at a)
def jD.P3{r:Rr}{d:Nat}{a:List RFr}{f:RFr}(s:jD r)(m:ROk r d)(c:r.e=a++ [f])(p:f.object=Z->r.a=5\/r.a=2):jD r.P3:=by
 rw[aKJ c];have j:=s.1;rw[c]at j;refine jD.C9 (r:={r with e:=a}) ⟨λg e=>j g (ft _ e),s.2⟩ ?_;have i:=m.a.b f (by rw[c];simp);have b:=j f (by simp);unfold madeOf;cases n:f.object with
 | false=>exact .list _ i b
 | true=>
  obtain⟨q,-,-⟩:=m.i a f c n (p n);have o:(dC f.a).length=f.a.length:=(fL f.a).length_eq;refine .object _ _ (by unfold besides;simp) (by unfold besides;simp;omega) λt l=>?_
  unfold besides at l;obtain⟨k,_,rfl⟩:=List.mem_map.1 l;rw[List.getD_eq_getElem?_getD];cases e:f.b[f.a.idxOf k]? with
  | none=>exact .null
  | some u=>exact b u (List.mem_of_getElem? e)
def jD.T9{r j:Rr}{p:Pc (Oo×Nat)}(l:jD r)(b:jS r p=bw n j):jD j:=by
 cases p with
 | cut=>cases b
 | bad no a=>cases b
 | ok x=>
  obtain⟨s,m⟩:=x;unfold jS at b;simp only at b;split at b
  .cases b
  .split at b
   .cases b
   .split at b
    .injection b with _ b
     subst b;rcases ee r.e with d|⟨k,f,d⟩
     .unfold Rr.O3;rw[d];exact⟨λf e=>(by simp at e),l.2⟩
     .rw[eh]at d;have e:=l.1;rw[d]at e;rw[aKM d];refine⟨λg c u i=>?_,l.2⟩;rcases ew.1 c with c|c
      .exact e g (ft _ c) u i
      .simp at c;subst c;exact e f (by simp) u i
    .injection b with _ b
     subst b;exact jD.C9 (r:={r with bytes:=r.bytes+s.length}) l (.text s)
def jD.B4{r p:Rr}{d:Nat}{c:UInt8}(x:jD r)(s:ROk r d)(a:r.B4 d c t=bw n p):jD p:=by
 unfold ev at a;split at a
 .unfold dl at a;split at a
  .unfold ai at a;split at a
   .cases a
   .rename_i k b;injection a with _ a
    subst a;have o:=x.B9 b;refine⟨λg e u m=>?_,o.2⟩;rcases ew.1 e with e|e
    .exact o.1 g e u m
    .simp at e;subst e;simp at m
  .split at a
   .injection a with _ a;subst a;exact x
   .split at a
    .injection a with _ a;subst a;exact x
    .split at a
     .injection a with _ a;subst a;exact x
     .split at a
      .rename_i j;injection a with _ a
       subst a;rcases ee r.e with i|⟨q,f,i⟩
       .unfold fg gp at j;rw[i]at j;simp at j
       .rw[eh]at i;refine x.P3 s i λw=>?_
        rcases j with⟨_,l,_⟩|⟨_,_,v⟩
        .unfold fg at l;rw[i]at l;simp[w]at l
        .exact v
      .cases a
 .split at a
  .unfold fj at a;split at a
   .exact x.T9 a
   .unfold ai at a;split at a
    .cases a
    .rename_i k b;exact(x.B9 b).T9 a
  .split at a
   .unfold fk ai at a;split at a
    .cases a
    .rename_i k b
     repeat' (first|(injection a with _ a;subst a;refine(x.B9 b).C9 ?_;unfold jE;(repeat' split)<;>constructor;done)|(cases a;done)|split at a)
   .split at a
    .unfold et ai at a;split at a
     .cases a
     .rename_i k b
      repeat' (first|(injection a with _ a;subst a;exact(x.B9 b).C9 (.num _))|(cases a;done)|split at a)
    .cases a
def rL{d:Nat}(j:d<=512):∀(N:Nat){l:Oo}{p:Ps}{r:Rr}{i:Nat}{t:Tr},l.length<=N->Alike p r d i->i+l.length<=16777216->jD r->dt d r i l=Q t->Small t
 | _,[],p,r,i,t,_,_,_,v,b=>by
  rw[dt]at b;split at b
  .injection b with b;rw[<-b];exact v.2
  .cases b
 | 0,_::_,_,_,_,_,m,_,_,_,_=>by simp at m
 | N+1,c::l,p,r,i,t,m,k,o,v,b=>by
  rw[dt]at b;simp only[bc]at m o
  by_cases g:aI c=Z
  .rw[if_pos g]at b;obtain⟨p',e⟩:=vU k g (by omega);exact rL j N (by omega) e (by omega) v b
  .rw[if_neg g]at b;cases f:r.B4 d c l with
   | cut=>rw[f]at b;cases b
   | bad no a=>rw[f]at b;cases b
   | on n u=>
    rw[f]at b;obtain⟨s,q,p',e⟩:=zV (en:=Z) (t:=l) (c:=c) k (by simpa using g) (by omega) (by rw[rK];exact f);exact rL j N (by rw[dq];omega) e (by rw[dq];omega) (v.B4 (aBn k j) f) b
def aAD{d:Nat}{t:Tr}(a:d<=512)(c:l.length<=16777216)(e:jR l d=Q t):Small t:=
 rL a l.length (ag _) (uW a) (by omega) ⟨λf b=>by simp at b,.null⟩ e
def aEs{l:List Tr}(f:∀t∈l,t.T8.length=t.A5.g):(dX l).length=jJ l:=by
 induction l with
 | nil=>rfl
 | cons a l c=>
  have b:jJ (a::l)=a.A5.g+jJ l:=rfl;have e:dX (a::l)=a.T8++dX l:=by unfold dX;simp
  rw[b,e,bh,f a (gx ..),c λt d=>f t (List.mem_cons_of_mem _ d)]
def aLK{t:Tr}(e:Small t):t.T8.length=t.A5.g:=by
 induction e with
 | null=>simp[Tr.T8,cr]
 | flag b=>simp[Tr.T8,cr]
 | num x=>simp[Tr.T8,cr]
 | text s=>simp[Tr.T8,cr]
 | list l c e a=>rw[tD,gU,(iM 0 l).1,bh,aEs a,gy,gz]
 | object keys l d c e a=>rw[nE,hZ,(iM _ l).1,bh,aEs a,gy,gz]
def aAE{y:Ps}(f:fF x)(a:x.C0 po=Q y):∀t∈y.b,t.A5.A9=Z:=by
 have b:x.C0 po=qV x.d.B8 (cz po {x with d:=x.d.B8.1} x.d.B8.2.1):=rfl;rw[b]at a;cases c:cz po {x with d:=x.d.B8.1} x.d.B8.2.1 with
 | error e=>rw[c]at a;cases a
 | ok z=>
  rw[c]at a;simp only[qV]at a;split at a
  .cases a
  .split at a
   .cases a
   .cases a;exact(pM (f.ps.P8 x.d.B8.1) (λt d=>qT t d) f.N5 c).1.P9
def aEt{d:Nat}{t:Tr}(f:d<=512)(j:mP l d=Q t):t.A5.A9=Z:=by
 have g:mP l d=oneOf (ct po l d):=rfl;rw[g]at j;cases a:ct po l d with
 | error e=>rw[a]at j;cases j
 | ok y=>
  rw[a]at j;have e:y.b.headD dh=t:=by injection j
  unfold ct at a;cases b:(ar d).E4 po l with
  | error e=>rw[b]at a;cases a
  | ok z=>
   rw[b]at a;have c:=aAE ((pN d f).E4 b) a;subst e;cases hi:y.b with
   | nil=>simp[cr,ib]
   | cons u i=>exact c u (by rw[hi];exact gx ..)
def aLL{d:Nat}{t:Tr}(a:d<=512)(c:l.length<=16777216)(f:jR l d=Q t):Small t/\t.T8.length<=65536:=by
 have e:=aAD a c f;refine⟨e,?_⟩;have b:=aEt a ((aEp a c).trans f);rw[aLK e];unfold ib at b;simp only[Bool.and_eq_true,decide_eq_true_eq]at b;exact b.1.1
