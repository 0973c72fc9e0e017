/-
  The program, one part of its walk. Conditions: none.
-/
import Derived.Test.YtakkmiomhackiaaGreatDoorBf08
set_option linter.all false
set_option maxRecDepth 100000
set_option maxHeartbeats 16000000
open Go.Proofs.Tryz
open Bool renaming false->Z,true->ac
open Go renaming Value->H,World->Q,heap_alloc_new->R,lt_of_block->ak
open Go.Addr renaming add_lit->av
open Go.Ending renaming returned->aj
open Go.IntKind renaming i64->X,u64->V,wrap_i64->ba
open Go.Obj renaming cells->U
open Go.Proofs.YtakkmiomhackiaaGreatDoor.Keeps renaming A8->E
open Go.RowKit.Below renaming heap_alloc->ar
open Go.Value renaming bool->Y,int->S,ownBlock->ag,slice->I,string->af
open Go.World renaming block_lt_of_cell?->au
open List renaming getElem?_append_right->ao
open Nat renaming add_assoc->ah,le_trans->ai,zero_add->aw
open Option renaming none->J,some->O
open Option.some renaming inj->ae
open Or renaming inl->D
namespace Go.Proofs.YtakkmiomhackiaaGreatDoor
open Go.RowKit
variable {w:Q}
def aGH:lB 31 34 6 88:=⟨underlying31,by decide,by
 have h:(prog.info? 34).map (λi=>(i.zero,i.size,i.bytes))=O (O (.agg #[S X 0,Y Z,S V 0,"",(),()]),6,88):=by kernel_rfl
 obtain⟨i,c,a,d,b⟩:=info_parts h;exact⟨i,_,c,a,d,b,rfl⟩⟩
def dY.own{m:Nat}{r:List Oo}(h:dY w m r){s e n:Nat}{v:H}{d:List H}(a:aQ s e w v n d):v.ownBlock≠O m:=by
 intro b;obtain⟨c,f⟩:=a.E0 b;exact h.ne f rfl
def aLc{w2:Q}{h d i L g7 mm x F v y g off cap:Nat}{s:ByteArray}{r:Rr}{u:List RFr}{f:RFr}{so:Int}{fl o:Bool}{bi:Nat}{tx:ByteArray}{K a0 DV DK:H}{pc P:List (List H)}{c dc:List H}{t:Tr}
 (T:w.heap[h]?=O (U (rdC s d i r.a (I (F,v) (x+1) y) r.g r.bytes so fl bi tx DV DK 0 0 0) 172 (0,0)))(h7:∃a n m,DV=I a n m)(h8:∃a n m,DK=I a n m)(z:oF w h (I (F,v) (x+1) y) (pc++ [frC o K mm a0]) dc r L)
 (hp:r.e=u++ [f])(hx:u.length=x)(N:eR w h pc u g7)(b:jZ g7 L w o K mm a0 P f)(hv:ValAt (λk=>L<=k) w c t)
 (hk:Keeps (λk=>a0.ownBlock=O k\/k=F) w w2)(g6:aQ 6 34 w2 (I (g,off) (f.b.length+1) cap) (f.b.length+1) (P.flatten++c))(hg:a0.ownBlock=O g\/w.heap.size<=g)
 (g8:aQ 4 265 w2 (I (F,v) (x+1) y) (x+1) (pc++ [frC o K mm (I (g,off) (f.b.length+1) cap)]).flatten):
 ∀W,Keeps (λ_=>False) (w2.setCell ⟨h,3,J⟩ (S X 5)) W->xM w h s d i (r.C9 t) (aj (.tuple #[])) W:=by
 intro W hW;obtain⟨a1,n1,m1,rfl⟩:=h7;obtain⟨a2,n2,m2,rfl⟩:=h8;have i0:=ak T;have j:fC w F:=by obtain⟨cc,hc⟩:=z.a.E0 (k:=F) rfl;exact .of hc (by decide) (by decide)
 have i3:h<=F:=z.b F rfl;have i4:=N.le;have i5:=z.le;have i1:=b.g
 have i2:h≠F:=by
  intro e;have:=z.a.ne T (by decide);simp[ag]at this;exact this e.symm
 have g9:a0.ownBlock≠O h:=b.b.ne T (by decide);have B:w2.heap[h]?=_:=hk.B7 T (λe=>e.elim g9 i2);have l:Keeps (λk=>(a0.ownBlock=O k\/k=F)\/k=h) w (w2.setCell ⟨h,3,J⟩ (S X 5)):=(hk.mono λ_=>.inl).A3 (p:=⟨h,3,J⟩) (D (.inr rfl)) _;have h0:Keeps (λk=>k=h) w2 (w2.setCell ⟨h,3,J⟩ (S X 5)):=(E (λk=>k=h) w2).own 3 _;have C:fC w h:=.of T (by decide) (by decide);have i6:w.heap.size<=(w2.setCell ⟨h,3,J⟩ (S X 5)).heap.size:=l.size;have h3:g<w2.heap.size:=g6.lt rfl;have h4:(w2.setCell ⟨h,3,J⟩ (S X 5)).heap.size=w2.heap.size:=by simp[World.setCell]
 have h5:r.C9 t={r with e:=u++ [{f with b:=f.b++ [t]}],a:=5}:=by unfold Rr.C9;rw[hp];simp
 rw[h5];refine⟨rfl,(l.trans hW λ_ a3=>a3.elim).C6 (Nat.le_of_lt i0) ?_,w2.heap.size,aU.C3 ⟨_,pc++ [frC o K mm (I (g,off) (f.b.length+1) cap)],so,fl,bi,tx,a1,n1,m1,a2,n2,m2,aB (o:=3) B _,?_⟩ hW⟩
 .rintro k ((e|e)|e)
  .have:=b.e k e;omega
  .omega
  .omega
 .refine⟨Nat.le_of_eq h4.symm,?_,z.b,?_,λe=>by simp at e⟩
  .have hl:(u++ [{f with b:=f.b++ [t]}]).length=x+1:=by simp[hx]
   show aQ 4 265 _ _ (u++ [{f with b:=f.b++ [t]}]).length _
   rw[hl]
   exact g8.A2 h0 λk e e2=>by
    subst e2;exact g8.ne B (by decide) e
  .refine .snoc (N.A2 l ?_) o K mm _ (P++ [c]) _ ⟨b.i,?_,λk e=>⟨(b.h k e).1,by have:=(b.h k e).2;omega⟩,?_,⟨i1.1,by omega⟩,?_,?_,?_⟩
   .rintro k-h2 ((e|e)|e)
    .have:=b.e k e;omega
    .exact e▸j
    .exact e▸C
   .refine b.a.A2 l ?_;intro k e g2;obtain⟨cc,hc⟩:=b.a.E0 e;rcases g2 with(g2|g2)|g2
    .obtain⟨c2,q⟩:=b.b.E0 g2;rw[hc]at q;cases q
    .obtain⟨c2,a4,q,_,h9⟩:=j;rw[<-g2,hc]at q;cases q;exact h9 rfl
    .rw[g2,T]at hc;cases hc
   .refine b.d.A2 l ?_;rintro((e|e)|e)
    .exact b.d.own b.b e
    .obtain⟨c2,a4,q,_,-⟩:=j;exact b.d.ne q e
    .exact b.d.ne T e
   .rw[dV];have hl:(f.b++ [t]).length=f.b.length+1:=by simp
    show aQ 6 34 _ _ (f.b++ [t]).length _
    rw[hl]
    exact g6.A2 h0 λk e e2=>by
     subst e2;exact g6.ne B (by decide) e
   .intro k e;obtain rfl:g=k:=by simpa[ag]using e
    refine⟨?_,h3⟩;rcases hg with e|e
    .exact(b.e _ e).1
    .omega
   .have h6:∀k,k<w.heap.size->a0.ownBlock≠O k->(I (g,off) (f.b.length+1) cap).ownBlock≠O k:=by
     intro k q h2 e;obtain rfl:g=k:=by simpa[ag]using e
     rcases hg with e|e
     .exact h2 e
     .omega
    refine l5.J8 ((b.c.A2 l ?_).mono ?_) (((hv.mono (G:=λk=>L<=k/\k<w.heap.size) λk e1 e2=>⟨e1,e2⟩).A2 l ?_).mono ?_)
    .rintro k q _ ((e|e)|e)
     .exact absurd e q.2.2.1
     .exact e▸j
     .exact e▸C
    .intro k q _;exact⟨q.1,by omega,h6 k (by omega) q.2.2.1,q.2.2.2⟩
    .rintro k q _ ((e|e)|e)
     .have:=b.e k e;omega
     .exact e▸j
     .exact e▸C
    .intro k q _;exact⟨by omega,by omega,h6 k q.2 (λe=>by have:=b.e k e;omega),λe=>by have:=b.h k e;omega,by omega⟩
def aQ.P7{g off n cap:Nat}{b:List H}{r o l q m k:H}(h:aQ 6 34 w (I (O ⟨g,off,J⟩) (n+1) cap) (n+1) (b++ [r,o,l,q,m,k]))(s:b.length=n*6)(c j a i d f:H):
 aQ 6 34 ((((((w.setCell ⟨g,off+n*6,J⟩ c).setCell ⟨g,off+n*6+1,J⟩ j).setCell ⟨g,off+n*6+2,J⟩ a).setCell ⟨g,off+n*6+3,J⟩ i).setCell ⟨g,off+n*6+4,J⟩ d).setCell ⟨g,off+n*6+5,J⟩ f) (I (O ⟨g,off,J⟩) (n+1) cap) (n+1) (b++ [c,j,a,i,d,f]):=by
 have p:=(((((h.B5 (n*6) c).B5 (n*6+1) j).B5 (n*6+2) a).B5 (n*6+3) i).B5 (n*6+4) d).B5 (n*6+5) f
 have e:((((((b++ [r,o,l,q,m,k]).set (n*6) c).set (n*6+1) j).set (n*6+2) a).set (n*6+3) i).set (n*6+4) d).set (n*6+5) f=b++ [c,j,a,i,d,f]:=by
  rw[<-s];simp[List.set_append]
 rw[e]at p;exact p
def later{d G:Q->Nat->Nat->Nat->Prop}{p:Prop}(b:M (∀w g o c,d w g o c->G w g o c)->p)(a:∀w g o c,d w g o c->G w g o c):p:=b a
def aHr(w:Q)(rb:Nat)(s:ByteArray)(d i k1:Nat)(r:Rr)(i8:List RFr)(f:RFr)(a0:aU w rb s d i r k1)(so:Int)(fl:Bool)(bi:Nat)(tx:ByteArray)(a:Option Addr)(n m:Nat)(b:Option Addr)(p q:Nat)(t:Tr)(hv:ValAt (λk=>k1<=k) w (eQ so fl bi tx (I a n m) (I b p q)) t)
 (hp:r.e=i8++ [f])(h6:i8.length<=512)(j8:f.b.length<=65536):
 Calls prog 144 #[.pointer rb,aJt so fl bi tx (I a n m) (I b p q)] w λe w'=>xM w rb s d i (r.C9 t) e w':=by
 obtain⟨P,l5,l6,l7,l8,l9,a1,n1,m1,a2,n2,m2,B,F⟩:=a0;obtain⟨pc,m0,o,K,mm,a5,k5,rfl,z,T⟩:=F.e.P6 hp;obtain⟨N,hN⟩:∃N,r.e.length=N:=⟨_,rfl⟩;have v:N=i8.length+1:=by rw[<-hN,hp];simp
 obtain⟨x,hx⟩:∃x,i8.length=x:=⟨_,rfl⟩;rw[hx]at v h6;have h:=F.a;rw[hN,v]at h;obtain⟨C,y,h5,rfl⟩:=h.some;obtain⟨ka,kc,rfl⟩:=T.a.A7;obtain⟨va,vc,rfl⟩:=T.b.A7;rw[<-v]at h B;obtain⟨h7,h8⟩:=z.O4;have h0:pc.flatten.length=x*4:=by rw[oE h8,h7,hx]
 have l:∀(j:Nat)(u:H),(frC o (I ka f.a.length kc) mm (I va f.b.length vc))[j]?=O u->w.cell? ⟨C,y+x*4+j,J⟩=O u:=by
  intro j u hj;have:=h.B3 (j:=x*4+j) (u:=u) (by rw[dV,ao (by omega),h0,show x*4+j-x*4=j by omega];exact hj);rw[ah];exact this
 have y0:=l 0 _ rfl;have y1:=l 1 _ rfl;have y2:=l 2 _ rfl;have y3:=l 3 _ rfl;have yf:=h.F0;have k2:=ak B;have j4:=h.lt rfl;obtain⟨⟨q0,q1,q2,q3,q4,q5,q6,q7⟩,⟨q8,q9,qa,qb,qc,qd,qe,qf⟩,qz⟩:=dF B;obtain⟨x0,x1,x2,x3,x4,x5,xf⟩:=bJ (R w (U #[so,fl,S V bi,tx,I a n m,I b p q] 34));have e0:((N:Int)==0)=Z:=by simp;omega
 have e1:X.wrap ((N:Int)-1)=(x:Int):=by rw[ba];omega
 have e2:(x:Int)<(N:Int):=by omega
 have i7:∀k,(I va f.b.length vc).ownBlock=O k->k≠C:=by
  intro k e e2;obtain⟨c,G⟩:=T.b.E0 e;rw[e2]at G;exact h.ne G (by decide) rfl
 have j1:(I va f.b.length vc).ownBlock≠O rb:=T.b.ne B (by decide)
 have j5:rb≠C:=by
  intro e;have:=h.ne B (by decide);simp[ag]at this;exact this e.symm
 have G:∀(w':Q)(u:H),aQ 4 265 w' (I (C,y) N h5) N (pc++ [frC o (I ka f.a.length kc) mm (I va f.b.length vc)]).flatten->aQ 4 265 (w'.setCell ⟨C,y+x*4+3,J⟩ u) (I (C,y) N h5) N (pc++ [frC o (I ka f.a.length kc) mm u]).flatten:=by
  intro w' u a0;have:=a0.B5 (x*4+3) u;rw[dV,List.set_append_right _ _ (by omega),h0,show x*4+3-x*4=3 by omega,<-ah]at this;rw[dV];exact this
 have L:∀(w2:Q)(g off cap:Nat),Keeps (λk=>(I va f.b.length vc).ownBlock=O k\/k=C) w w2->aQ 6 34 w2 (I (g,off) (f.b.length+1) cap) (f.b.length+1) (k5.flatten++eQ so fl bi tx (I a n m) (I b p q))->
  ((I va f.b.length vc).ownBlock=O g\/w.heap.size<=g)->aQ 4 265 w2 (I (C,y) N h5) N (pc++ [frC o (I ka f.a.length kc) mm (I (g,off) (f.b.length+1) cap)]).flatten->
  ∀W,Keeps (λ_=>False) (w2.setCell ⟨rb,3,J⟩ (S X 5)) W->xM w rb s d i (r.C9 t) (aj (.tuple #[])) W:=by
  intro w2 g off cap h1 h2 h3 h4;rw[v]at h4;rw[v]at B;exact aLc B ⟨_,_,_,rfl⟩ ⟨_,_,_,rfl⟩ F hp hx z T hv h1 h2 h3 h4
 have j6:(f.b.length+1)*88<=140737488355328:=by omega
 have j7:f.b.length+1<=maxLen:=by unfold maxLen;omega
 have j2:=A G;have j3:=A L;have h9:=A T.b;have i9:=A h;have j0:=A (And.intro j6 j7);have HV:=A (And.intro i7 (And.intro j1 j5))
 have HQ:=A (show ∀W,Keeps (λ_=>False) w W->(W.cell? ⟨rb,3,J⟩=O (S X r.a)/\W.cell? ⟨rb,4,J⟩=O (I (C,y) N h5)/\∀o,W.frozen? ⟨rb,o,J⟩=Z)/\W.cell? ⟨C,y+x*4+3,J⟩=O (I va f.b.length vc)/\∀o,W.frozen? ⟨C,o,J⟩=Z from λW a0=>by
  obtain⟨⟨_,_,_,u3,u4,_,_,_⟩,_,uz⟩:=dF (a0.B7 B id);exact⟨⟨u3,u4,uz⟩,a0.B3 y3 id,(h.A2 a0 λ_ _=>id).F0⟩)
 have HY:=A y3;have k6:=A j4;have i6:=A B;clear B F T z h l hN v hv h0 h7 h8 hp G L j6 j7 i7 j1 j5 hx h6 j8;unfold aJt;go_enter func144,ntmps144;go_wp2;go_region
 .have h6:=((E (λ_=>False) w).A6 (U #[so,fl,S V bi,tx,I a n m,I b p q] 34)).A6 (U #[Y Z] 4);have h6:=h6.B0;have F:=(ar (w.alloc (U #[so,fl,S V bi,tx,I a n m,I b p q] 34)) (U #[Y Z] 4) w.heap.size (by simp)).trans (R w (U #[so,fl,S V bi,tx,I a n m,I b p q] 34));go_wp2_with fail;generalize hW:((w.alloc (U #[so,fl,S V bi,tx,I a n m,I b p q] 34)).alloc (U #[Y Z] 4)).drew=W at*;have F:W.heap[w.heap.size]?=O (U #[so,fl,S V bi,tx,I a n m,I b p q] 34 (0,0)):=by rw[<-hW];exact F
  clear hW x0 x1 x2 x3 x4 x5 xf q0 q1 q2 q3 q4 q5 q6 q7 q8 q9 qa qb qc qd qe qf qz y0 y1 y2 y3 yf k2 j4;obtain⟨⟨q3,q4,-⟩,y3,yf⟩:=HQ.o W h6;obtain⟨x0,x1,x2,x3,x4,x5,-⟩:=bJ F;have k7:C<W.heap.size:=au _ _ y3;clear F;have h8:=h6.B0.A6 (U #[so,fl,S V bi,tx,I a n m,I b p q] 34);have j5:=A (h9.o.A2 h8 λ_ _=>id)
  have j6:=A (show ∀(j:Nat)(u:H),(eQ so fl bi tx (I a n m) (I b p q))[j]?=O u->(W.drew.alloc (U #[so,fl,S V bi,tx,I a n m,I b p q] 34)).cell? ((⟨W.heap.size,0,J⟩:Addr).add j)=O u from λj u hj=>by
   rw[av,aw];exact(aA (R W.drew _)).trans (by simpa[eQ]using hj))
  have j7:=A (show ∀u∈eQ so fl bi tx (I a n m) (I b p q),u.oneCell'=ac by intro u hu;simp[eQ]at hu;rcases hu with rfl|rfl|rfl|rfl|rfl|rfl<;>rfl);have z:=A h8;have i7:=A (show w.cell? ⟨C,y+x*4+3,J⟩=O (I va f.b.length vc)from HY.o);clear h8 h6;have j8:¬rb=C:=HV.o.2.2;have k8:¬C=rb:=λe=>j8 e.symm
  apply later
  .intro HT;have h0:=(E (λ_=>False) W).A6 (U #[so,fl,S V bi,tx,I a n m,I b p q] 34);have a4:=h0.B3 q4 id;have a3:=h0.B3 y3 id;clear h0
   go_region_law (refine bP aGH rfl _ _ rfl rfl j5.o ⟨W.heap.size,0,J⟩ 1 1 (eQ so fl bi tx (I a n m) (I b p q)) (by rfl) (by rfl) j6.o j7.o (by decide) j0.o.1 j0.o.2 ?_;intro g' l G w' h L v;have B:=(i9.o.A2 z.o λ_ _=>id).A2 v λk e e2=>HV.o.1 k e2 (ae e).symm;have j9:=B.F0;have T:=v.B7 (z.o.B7 i6.o id) HV.o.2.1;have k3:w'.cell? ⟨rb,4,J⟩=O (I (C,y) N h5):=aA T;have k0:w'.cell? ⟨C,y+x*4+3,J⟩=O (I va f.b.length vc):=v.B3 (z.o.B3 i7.o id) (λe=>HV.o.1 _ e rfl);clear T)
   all_goals
    exact HT.o w' g' l G (And.intro h (And.intro L v))
  rintro w' g' l G ⟨h,L,v⟩;have B:=(i9.o.A2 z.o λ_ _=>id).A2 v λk e e2=>HV.o.1 k e2 (ae e).symm
  have j9:=B.F0;have T:=v.B7 (z.o.B7 i6.o id) HV.o.2.1;have k3:w'.cell? ⟨rb,4,J⟩=O (I (C,y) N h5):=aA T;have k0:w'.cell? ⟨C,y+x*4+3,J⟩=O (I va f.b.length vc):=v.B3 (z.o.B3 i7.o id) (λe=>HV.o.1 _ e rfl);have k9:w'.cell? ⟨rb,3,J⟩=O (S X r.a):=aA T;have l0:=free_at T;clear T;have j1:=A (And.intro h (And.intro L (And.intro v B)));clear h L v B;go_wp2
  go_end0
  obtain⟨h,L,v,B⟩:=j1.o;obtain⟨k4,h7⟩:=B.block;refine j3.o _ g' l G (((z.o.mono λ_ a0=>a0.elim).trans v λ_ a0=>.inl (.inl a0)).A3 (p:=⟨C,y+x*4+3,J⟩) (.inl (.inr rfl)) _) (h.A2 ((E (λk=>k=C) w').own _ _) λk e e2=>?_) (L.imp id λa0=>ai z.o.size a0.1) (j2.o w' _ B) _ (E _ _);subst e2;exact h.ne h7 (by decide) e
 .have h6:=((E (λ_=>False) w).A6 (U #[so,fl,S V bi,tx,I a n m,I b p q] 34)).A6 (U #[Y ac] 4);have h6:=h6.B0;have F:=(ar (w.alloc (U #[so,fl,S V bi,tx,I a n m,I b p q] 34)) (U #[Y ac] 4) w.heap.size (by simp)).trans (R w (U #[so,fl,S V bi,tx,I a n m,I b p q] 34));go_wp2_with fail;generalize hW:((w.alloc (U #[so,fl,S V bi,tx,I a n m,I b p q] 34)).alloc (U #[Y ac] 4)).drew=W at*;have F:W.heap[w.heap.size]?=O (U #[so,fl,S V bi,tx,I a n m,I b p q] 34 (0,0)):=by rw[<-hW];exact F
  clear hW x0 x1 x2 x3 x4 x5 xf q0 q1 q2 q3 q4 q5 q6 q7 q8 q9 qa qb qc qd qe qf qz y0 y1 y2 y3 yf k2 j4;obtain⟨⟨q3,q4,-⟩,y3,yf⟩:=HQ.o W h6;obtain⟨x0,x1,x2,x3,x4,x5,-⟩:=bJ F;have j4:=A F;have k7:C<W.heap.size:=au _ _ y3;clear F;have h8:=h6.B0.A6 (U #[S X 0,Y Z,S V 0,"",(),()] 34);have j5:=A (h9.o.A2 h8 λ_ _=>id)
  have j6:=A (show ∀(j:Nat)(u:H),(eQ 0 Z 0 ⟨#[]⟩ gQ gQ)[j]?=O u->(W.drew.alloc (U #[S X 0,Y Z,S V 0,"",(),()] 34)).cell? ((⟨W.heap.size,0,J⟩:Addr).add j)=O u from λj u hj=>by
   rw[av,aw];exact(aA (R W.drew _)).trans (by simpa[eQ,gQ]using hj))
  have j7:=A (show ∀u∈eQ 0 Z 0 ⟨#[]⟩ gQ gQ,u.oneCell'=ac by intro u hu;simp[eQ,gQ]at hu;rcases hu with rfl|rfl|rfl|rfl|rfl<;>rfl);have z:=A h8
  have k2:=A (show ∀w',Keeps (λq=>(I va f.b.length vc).ownBlock=O q) (W.drew.alloc (U #[S X 0,Y Z,S V 0,"",(),()] 34)) w'->w'.cell? w=O (S X so)/\w'.cell? ⟨w.heap.size,1,J⟩=O (Y fl)/\w'.cell? ⟨w.heap.size,2,J⟩=O (S V bi)/\w'.cell? ⟨w.heap.size,3,J⟩=O (af tx)/\w'.cell? ⟨w.heap.size,4,J⟩=O (I a n m)/\w'.cell? ⟨w.heap.size,5,J⟩=O (I b p q)from λw' v=>by
   obtain⟨F,z1,z2,z3,z4,z5,_⟩:=bJ (v.B7 (((E (λ_=>False) W).B0.A6 (U #[S X 0,Y Z,S V 0,"",(),()] 34)).B7 j4.o id) (λe=>by have:=h9.o.lt e;omega));exact⟨F,z1,z2,z3,z4,z5⟩)
  have i7:=A (show w.cell? ⟨C,y+x*4+3,J⟩=O (I va f.b.length vc)from HY.o);clear h8 h6;have j8:¬rb=C:=HV.o.2.2;have k8:¬C=rb:=λe=>j8 e.symm
  have h6:¬w.heap.size=C:=λe=>by have:=k6.o;omega
  have m3:¬C=w.heap.size:=λe=>h6 e.symm
  apply later
  .intro HT;have h0:=(E (λ_=>False) W).A6 (U #[S X 0,Y Z,S V 0,"",(),()] 34);have a4:=h0.B3 q4 id;have a3:=h0.B3 y3 id;have e0:=h0.B3 x0 id;have e1:=h0.B3 x1 id;have e2:=h0.B3 x2 id;have F:=h0.B3 x3 id;have e4:=h0.B3 x4 id;have e5:=h0.B3 x5 id;clear h0
   go_region_law (refine bP aGH rfl _ _ rfl rfl j5.o ⟨W.heap.size,0,J⟩ 1 1 (eQ 0 Z 0 ⟨#[]⟩ gQ gQ) (by rfl) (by rfl) j6.o j7.o (by decide) j0.o.1 j0.o.2 ?_;intro g' l G w' h L v;have B:=(i9.o.A2 z.o λ_ _=>id).A2 v λk e e2=>HV.o.1 k e2 (ae e).symm;have j9:=B.F0;have T:=v.B7 (z.o.B7 i6.o id) HV.o.2.1;have k0:w'.cell? ⟨C,y+x*4+3,J⟩=O (I va f.b.length vc):=v.B3 (z.o.B3 i7.o id) (λe=>HV.o.1 _ e rfl);clear T;have h0:w'.cell? w=O (S X so)/\w'.cell? ⟨w.heap.size,1,J⟩=O (Y fl)/\w'.cell? ⟨w.heap.size,2,J⟩=O (S V bi)/\w'.cell? ⟨w.heap.size,3,J⟩=O (af tx)/\w'.cell? ⟨w.heap.size,4,J⟩=O (I a n m)/\w'.cell? ⟨w.heap.size,5,J⟩=O (I b p q):=k2.o w' v;obtain⟨-,-,-,-,-,-⟩:=h0)
   all_goals
    exact HT.o w' g' l G (And.intro h (And.intro L v))
  rintro w' g' l G ⟨h,L,v⟩;have B:=(i9.o.A2 z.o λ_ _=>id).A2 v λk e e2=>HV.o.1 k e2 (ae e).symm
  have j9:=B.F0;have T:=v.B7 (z.o.B7 i6.o id) HV.o.2.1;have k3:w'.cell? ⟨rb,4,J⟩=O (I (C,y) N h5):=aA T;have k0:w'.cell? ⟨C,y+x*4+3,J⟩=O (I va f.b.length vc):=v.B3 (z.o.B3 i7.o id) (λe=>HV.o.1 _ e rfl);have k9:w'.cell? ⟨rb,3,J⟩=O (S X r.a):=aA T;have l0:=free_at T;clear T;have h0:w'.cell? w=O (S X so)/\w'.cell? ⟨w.heap.size,1,J⟩=O (Y fl)/\w'.cell? ⟨w.heap.size,2,J⟩=O (S V bi)/\w'.cell? ⟨w.heap.size,3,J⟩=O (af tx)/\w'.cell? ⟨w.heap.size,4,J⟩=O (I a n m)/\w'.cell? ⟨w.heap.size,5,J⟩=O (I b p q):=k2.o w' v;obtain⟨-,-,-,-,-,-⟩:=h0;have j1:=A (And.intro h (And.intro L (And.intro v B)));clear h L v B
  have F:(∀o,w'.frozen? ⟨g',o,J⟩=Z)/\¬g'=C/\¬rb=g'/\∀(j:Nat)(u:H),(eQ 0 Z 0 ⟨#[]⟩ gQ gQ)[j]?=O u->w'.cell? ⟨g',l+f.b.length*6+j,J⟩=O u:=by
   obtain⟨h,_,v,B⟩:=j1.o;obtain⟨k4,h7⟩:=B.block;refine⟨h.F0,λe=>h.ne h7 (by decide) (by rw[e];rfl),λe=>h.ne (v.B7 (z.o.B7 i6.o id) HV.o.2.1) (by decide) (by rw[e];rfl),λj u hj=>?_⟩;have:=h.B3 (j:=f.b.length*6+j) (u:=u) (by rw[ao (by rw[h9.o.1];omega),h9.o.1,show f.b.length*6+j-f.b.length*6=j by omega];exact hj);rw[ah];exact this
  obtain⟨m4,T,h8,F⟩:=F;have l1:¬C=g':=λe=>T e.symm
  have m5:¬g'=rb:=λe=>h8 e.symm
  have i0:w'.cell? ⟨g',l+f.b.length*6,J⟩=O (S X 0):=F 0 _ rfl;have i1:=F 1 _ rfl;have i2:=F 2 _ rfl;have i3:=F 3 _ rfl;have i4:=F 4 _ rfl;have i5:=F 5 _ rfl;clear F;go_wp2
  go_end0
  obtain⟨h,L,v,B⟩:=j1.o;obtain⟨k4,h7⟩:=B.block;have F:((I va f.b.length vc).ownBlock=O g'\/g'=C)\/w.heap.size<=g':=L.elim (λe=>D (D e)) λe=>.inr (ai z.o.size e.1)
  have l2:=((z.o.mono λ_ a0=>a0.elim).trans v λ_ a0=>D (D a0):Keeps (λk=>(I va f.b.length vc).ownBlock=O k\/k=C) w w').A3 (p:=⟨C,y+x*4+3,J⟩) (D (.inr rfl)) (I (g',l) (f.b.length+1) G);have l3:=((((((l2.A3 (p:=⟨g',l+f.b.length*6,J⟩) F (S X so)).A3 (p:=⟨g',l+f.b.length*6+1,J⟩) F (Y fl)).A3 (p:=⟨g',l+f.b.length*6+2,J⟩) F (S V bi)).A3 (p:=⟨g',l+f.b.length*6+3,J⟩) F (af tx)).A3 (p:=⟨g',l+f.b.length*6+4,J⟩) F (I a n m)).A3 (p:=⟨g',l+f.b.length*6+5,J⟩) F (I b p q));have l4:Keeps (λk=>k=g') (w'.setCell ⟨C,y+x*4+3,J⟩ (I (g',l) (f.b.length+1) G)) _:=((((((E (λk=>k=g') _).own (l+f.b.length*6) (S X so)).own (l+f.b.length*6+1) (Y fl)).own (l+f.b.length*6+2) (S V bi)).own (l+f.b.length*6+3) (af tx)).own (l+f.b.length*6+4) (I a n m)).own (l+f.b.length*6+5) (I b p q);refine j3.o _ g' l G l3 (aQ.P7 (h.A2 ((E (λk=>k=C) w').own _ _) λk e e2=>?_) h9.o.1 _ _ _ _ _ _) (L.imp id λa0=>ai z.o.size a0.1) ((j2.o w' _ B).A2 l4 λk e e2=>?_) _ (E _ _)
  .subst e2;exact h.ne h7 (by decide) e
  .subst e2;exact l1 (ae e)
