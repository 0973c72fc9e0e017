/-
  The program, one part of its walk. Conditions: none.
-/
import Derived.Test.YtakkmiomhackiaaGreatDoorAj12
set_option linter.all false
set_option maxRecDepth 100000
set_option maxHeartbeats 16000000
open Go.Proofs.Tryz
open Bool renaming false->H,true->C
open Go renaming Addr->ac,Value->D,World->E,lt_of_block->ao
open Option renaming none->J,some->O
open Or renaming inl->L
namespace Go.Proofs.YtakkmiomhackiaaGreatDoor
open Go.RowKit
open Ending renaming returned->af
open IntKind renaming i64->Y,u64->X
open Obj renaming cells->U
open Keeps renaming A4->Q
open Value renaming bool->Z,int->S,ownBlock->ai,slice->I,string->ae
variable {w:E}{r:Rr}{d i:Nat}{s:ByteArray}
def aGH:lB 31 34 6 88:=⟨underlying31,by decide,by
 have h:(prog.info? 34).map (λi=>(i.zero,i.size,i.bytes))=O (O (.agg #[S Y 0,Z H,S X 0,"",(),()]),6,88):=by kernel_rfl
 obtain⟨i,c,a,d,b⟩:=info_parts h;exact⟨i,_,c,a,d,b,rfl⟩⟩
def dY.own{m:Nat}{r:List Oo}(h:dY w m r){s e n:Nat}{v:D}{d:List D}(a:aQ s e w v n d):v.ownBlock≠O m:=by
 intro b;obtain⟨c,f⟩:=a.D5 b;exact h.ne f rfl
def aLc{w2:E}{h P g8 mm x N v y g off cap:Nat}{u:List RFr}{f:RFr}{so:Int}{fl o:Bool}{bi:Nat}{tx:ByteArray}{K V DV DK:D}{pc g6:List (List D)}{c dc:List D}{t:Tr}
 (hb:w.heap[h]?=O (U (rdC s d i r.b (I (N,v) (x+1) y) r.g r.bytes so fl bi tx DV DK 0 0 0) 172 (0,0)))(h8:∃a n m,DV=I a n m)(i0:∃a n m,DK=I a n m)(z:oF w h (I (N,v) (x+1) y) (pc++ [frC o K mm V]) dc r P)
 (hp:r.e=u++ [f])(hx:u.length=x)(R:eR w h pc u g8)(b:jZ g8 P w o K mm V g6 f)(hv:ValAt (λk=>P<=k) w c t)
 (hk:Keeps (λk=>V.ownBlock=O k\/k=N) w w2)(g7:aQ 6 34 w2 (I (g,off) (f.c.length+1) cap) (f.c.length+1) (g6.flatten++c))(hg:V.ownBlock=O g\/w.heap.size<=g)
 (g9:aQ 4 265 w2 (I (N,v) (x+1) y) (x+1) (pc++ [frC o K mm (I (g,off) (f.c.length+1) cap)]).flatten):
 ∀W,Keeps (λ_=>False) (w2.setCell ⟨h,3,J⟩ (S Y 5)) W->xM w h s d i (r.C5 t) (af (.tuple #[])) W:=by
 intro W hW;obtain⟨a1,n1,m1,rfl⟩:=h8;obtain⟨a2,n2,m2,rfl⟩:=i0;have i1:=ao hb;have j:fC w N:=by obtain⟨cc,hc⟩:=z.a.D5 (k:=N) rfl;exact .of hc (by decide) (by decide)
 have i4:h<=N:=z.b N rfl;have i5:=R.le;have i6:=z.le;have i2:=b.h
 have i3:h≠N:=by
  intro e;have:=z.a.ne hb (by decide);simp[ai]at this;exact this e.symm
 have h0:V.ownBlock≠O h:=b.c.ne hb (by decide);have B:w2.heap[h]?=_:=hk.B4 hb (λe=>e.elim h0 i3);have l:Keeps (λk=>(V.ownBlock=O k\/k=N)\/k=h) w (w2.setCell ⟨h,3,J⟩ (S Y 5)):=(hk.mono λ_=>.inl).A3 (p:=⟨h,3,J⟩) (L (.inr rfl)) _;have h3:Keeps (λk=>k=h) w2 (w2.setCell ⟨h,3,J⟩ (S Y 5)):=(Q (λk=>k=h) w2).own 3 _;have F:fC w h:=.of hb (by decide) (by decide);have i7:w.heap.size<=(w2.setCell ⟨h,3,J⟩ (S Y 5)).heap.size:=l.size;have h4:g<w2.heap.size:=g7.lt rfl;have h5:(w2.setCell ⟨h,3,J⟩ (S Y 5)).heap.size=w2.heap.size:=by simp[World.setCell]
 have h6:r.C5 t={r with e:=u++ [{f with c:=f.c++ [t]}],b:=5}:=by unfold Rr.C5;rw[hp];simp
 rw[h6];refine⟨rfl,(l.trans hW λ_ a0=>a0.elim).A6 (Nat.le_of_lt i1) ?_,w2.heap.size,aU.C8 ⟨_,pc++ [frC o K mm (I (g,off) (f.c.length+1) cap)],so,fl,bi,tx,a1,n1,m1,a2,n2,m2,aB (o:=3) B _,?_⟩ hW⟩
 .rintro k ((e|e)|e)
  .have:=b.g k e;omega
  .omega
  .omega
 .refine⟨Nat.le_of_eq h5.symm,?_,z.b,?_,λe=>by simp at e⟩
  .have hl:(u++ [{f with c:=f.c++ [t]}]).length=x+1:=(by simp[hx]);show aQ 4 265 _ _ (u++ [{f with c:=f.c++ [t]}]).length _;rw[hl]
   exact g9.A0 h3 λk e e2=>by
    subst e2;exact g9.ne B (by decide) e
  .refine .snoc (R.A0 l ?_) o K mm _ (g6++ [c]) _ ⟨b.e,?_,λk e=>⟨(b.i k e).1,by have:=(b.i k e).2;omega⟩,?_,⟨i2.1,by omega⟩,?_,?_,?_⟩
   .rintro k-h2 ((e|e)|e)
    .have:=b.g k e;omega
    .exact e▸j
    .exact e▸F
   .refine b.a.A0 l ?_;intro k e g2;obtain⟨cc,hc⟩:=b.a.D5 e;rcases g2 with(g2|g2)|g2
    .obtain⟨c2,q⟩:=b.c.D5 g2;rw[hc]at q;cases q
    .obtain⟨c2,T,q,_,h9⟩:=j;rw[<-g2,hc]at q;cases q;exact h9 rfl
    .rw[g2,hb]at hc;cases hc
   .refine b.d.A0 l ?_;rintro((e|e)|e)
    .exact b.d.own b.c e
    .obtain⟨c2,T,q,_,-⟩:=j;exact b.d.ne q e
    .exact b.d.ne hb e
   .rw[dV];have hl:(f.c++ [t]).length=f.c.length+1:=(by simp);show aQ 6 34 _ _ (f.c++ [t]).length _;rw[hl]
    exact g7.A0 h3 λk e e2=>by
     subst e2;exact g7.ne B (by decide) e
   .intro k e;obtain rfl:g=k:=(by simpa[ai]using e);refine⟨?_,h4⟩;rcases hg with e|e
    .exact(b.g _ e).1
    .omega
   .have h7:∀k,k<w.heap.size->V.ownBlock≠O k->(I (g,off) (f.c.length+1) cap).ownBlock≠O k:=by
     intro k q h2 e;obtain rfl:g=k:=(by simpa[ai]using e);rcases hg with e|e
     .exact h2 e
     .omega
    refine l5.L7 ((b.b.A0 l ?_).mono ?_) (((hv.mono (G:=λk=>P<=k/\k<w.heap.size) λk e1 e2=>⟨e1,e2⟩).A0 l ?_).mono ?_)
    .rintro k q _ ((e|e)|e)
     .exact absurd e q.2.2.1
     .exact e▸j
     .exact e▸F
    .intro k q _;exact⟨q.1,by omega,h7 k (by omega) q.2.2.1,q.2.2.2⟩
    .rintro k q _ ((e|e)|e)
     .have:=b.g k e;omega
     .exact e▸j
     .exact e▸F
    .intro k q _;exact⟨by omega,by omega,h7 k q.2 (λe=>by have:=b.g k e;omega),λe=>by have:=b.i k e;omega,by omega⟩
def aQ.X7{g off n cap:Nat}{b:List D}{r o l q m k:D}(h:aQ 6 34 w (I (O ⟨g,off,J⟩) (n+1) cap) (n+1) (b++ [r,o,l,q,m,k]))(s:b.length=n*6)(c j a i d f:D):
 aQ 6 34 ((((((w.setCell ⟨g,off+n*6,J⟩ c).setCell ⟨g,off+n*6+1,J⟩ j).setCell ⟨g,off+n*6+2,J⟩ a).setCell ⟨g,off+n*6+3,J⟩ i).setCell ⟨g,off+n*6+4,J⟩ d).setCell ⟨g,off+n*6+5,J⟩ f) (I (O ⟨g,off,J⟩) (n+1) cap) (n+1) (b++ [c,j,a,i,d,f]):=by
 have p:=(((((h.E0 (n*6) c).E0 (n*6+1) j).E0 (n*6+2) a).E0 (n*6+3) i).E0 (n*6+4) d).E0 (n*6+5) f
 have e:((((((b++ [r,o,l,q,m,k]).set (n*6) c).set (n*6+1) j).set (n*6+2) a).set (n*6+3) i).set (n*6+4) d).set (n*6+5) f=b++ [c,j,a,i,d,f]:=by
  rw[<-s];simp[List.set_append]
 rw[e]at p;exact p
def later{d G:E->Nat->Nat->Nat->Prop}{p:Prop}(b:M (∀w g o c,d w g o c->G w g o c)->p)(a:∀w g o c,d w g o c->G w g o c):p:=b a
def aHr(w:E)(rb:Nat)(s:ByteArray)(d i k2:Nat)(r:Rr)(i9:List RFr)(f:RFr)(a0:aU w rb s d i r k2)(so:Int)(fl:Bool)(bi:Nat)(tx:ByteArray)(a:Option ac)(n m:Nat)(b:Option ac)(p q:Nat)(t:Tr)(hv:ValAt (λk=>k2<=k) w (eQ so fl bi tx (I a n m) (I b p q)) t)
 (hp:r.e=i9++ [f])(h5:i9.length<=512)(j8:f.c.length<=65536):
 Calls prog 144 #[.pointer rb,aJt so fl bi tx (I a n m) (I b p q)] w λe w'=>xM w rb s d i (r.C5 t) e w':=by
 obtain⟨P,l6,l7,l8,l9,m0,a1,n1,m1,a2,n2,m2,B,G⟩:=a0;obtain⟨pc,m3,o,K,mm,V,k6,rfl,z,hf⟩:=G.e.M3 hp;obtain⟨N,hN⟩:∃N,r.e.length=N:=⟨_,rfl⟩;have v:N=i9.length+1:=by rw[<-hN,hp];simp
 obtain⟨x,hx⟩:∃x,i9.length=x:=⟨_,rfl⟩;rw[hx]at v h5;have h:=G.a;rw[hN,v]at h;obtain⟨F,y,h6,rfl⟩:=h.some;obtain⟨ka,kc,rfl⟩:=hf.a.A8;obtain⟨va,vc,rfl⟩:=hf.c.A8;rw[<-v]at h B;obtain⟨h7,h8⟩:=z.O9;have h0:pc.flatten.length=x*4:=by rw[oE h8,h7,hx]
 have l:∀(j:Nat)(u:D),(frC o (I ka f.a.length kc) mm (I va f.c.length vc))[j]?=O u->w.cell? ⟨F,y+x*4+j,J⟩=O u:=by
  intro j u hj;have:=h.B6 (j:=x*4+j) (u:=u) (by rw[dV,cL (by omega),h0,show x*4+j-x*4=j by omega];exact hj);rw[fo];exact this
 have y0:=l 0 _ rfl;have y1:=l 1 _ rfl;have y2:=l 2 _ rfl;have y3:=l 3 _ rfl;have yf:=h.K6;have k3:=ao B;have j5:=h.lt rfl;obtain⟨⟨q0,q1,q2,q3,q4,q5,q6,q7⟩,⟨q8,q9,qa,qb,qc,qd,qe,qf⟩,qz⟩:=dF B;obtain⟨x0,x1,x2,x3,x4,x5,xf⟩:=bJ (aL w (U #[so,fl,S X bi,tx,I a n m,I b p q] 34));have e0:((N:Int)==0)=H:=by simp;omega
 have e1:Y.wrap ((N:Int)-1)=(x:Int):=by rw[b9];omega
 have e2:(x:Int)<(N:Int):=by omega
 have h9:∀k,(I va f.c.length vc).ownBlock=O k->k≠F:=by
  intro k e e2;obtain⟨c,R⟩:=hf.c.D5 e;rw[e2]at R;exact h.ne R (by decide) rfl
 have i8:(I va f.c.length vc).ownBlock≠O rb:=hf.c.ne B (by decide)
 have j2:rb≠F:=by
  intro e;have:=h.ne B (by decide);simp[ai]at this;exact this e.symm
 have R:∀(w':E)(u:D),aQ 4 265 w' (I (F,y) N h6) N (pc++ [frC o (I ka f.a.length kc) mm (I va f.c.length vc)]).flatten->aQ 4 265 (w'.setCell ⟨F,y+x*4+3,J⟩ u) (I (F,y) N h6) N (pc++ [frC o (I ka f.a.length kc) mm u]).flatten:=by
  intro w' u a0;have:=a0.E0 (x*4+3) u;rw[dV,List.set_append_right _ _ (by omega),h0,show x*4+3-x*4=3 by omega,<-fo]at this;rw[dV];exact this
 have T:∀(w2:E)(g off cap:Nat),Keeps (λk=>(I va f.c.length vc).ownBlock=O k\/k=F) w w2->aQ 6 34 w2 (I (g,off) (f.c.length+1) cap) (f.c.length+1) (k6.flatten++eQ so fl bi tx (I a n m) (I b p q))->
  ((I va f.c.length vc).ownBlock=O g\/w.heap.size<=g)->aQ 4 265 w2 (I (F,y) N h6) N (pc++ [frC o (I ka f.a.length kc) mm (I (g,off) (f.c.length+1) cap)]).flatten->
  ∀W,Keeps (λ_=>False) (w2.setCell ⟨rb,3,J⟩ (S Y 5)) W->xM w rb s d i (r.C5 t) (af (.tuple #[])) W:=by
  intro w2 g off cap h1 h2 h3 h4;rw[v]at h4;rw[v]at B;exact aLc B ⟨_,_,_,rfl⟩ ⟨_,_,_,rfl⟩ G hp hx z hf hv h1 h2 h3 h4
 have j6:(f.c.length+1)*88<=140737488355328:=by omega
 have j7:f.c.length+1<=maxLen:=by unfold maxLen;omega
 have j3:=A R;have j4:=A T;have i6:=A hf.c;have j0:=A h;have j1:=A (And.intro j6 j7);have HV:=A (And.intro h9 (And.intro i8 j2))
 have HQ:=A (show ∀W,Keeps (λ_=>False) w W->(W.cell? ⟨rb,3,J⟩=O (S Y r.b)/\W.cell? ⟨rb,4,J⟩=O (I (F,y) N h6)/\∀o,W.frozen? ⟨rb,o,J⟩=H)/\W.cell? ⟨F,y+x*4+3,J⟩=O (I va f.c.length vc)/\∀o,W.frozen? ⟨F,o,J⟩=H from λW a0=>by
  obtain⟨⟨_,_,_,u3,u4,_,_,_⟩,_,uz⟩:=dF (a0.B4 B id);exact⟨⟨u3,u4,uz⟩,a0.B6 y3 id,(h.A0 a0 λ_ _=>id).K6⟩)
 have HY:=A y3;have k7:=A j5;have i7:=A B;clear B G hf z h l hN v hv h0 h7 h8 hp R T j6 j7 h9 i8 j2 hx h5 j8;unfold aJt;go_enter func144,ntmps144;go_wp2;go_region
 .have h7:=((Q (λ_=>False) w).A5 (U #[so,fl,S X bi,tx,I a n m,I b p q] 34)).A5 (U #[Z H] 4);have h7:=h7.B0;have G:=(de (w.alloc (U #[so,fl,S X bi,tx,I a n m,I b p q] 34)) (U #[Z H] 4) w.heap.size (by simp)).trans (aL w (U #[so,fl,S X bi,tx,I a n m,I b p q] 34));go_wp2_with fail;generalize hW:((w.alloc (U #[so,fl,S X bi,tx,I a n m,I b p q] 34)).alloc (U #[Z H] 4)).drew=W at*;have G:W.heap[w.heap.size]?=O (U #[so,fl,S X bi,tx,I a n m,I b p q] 34 (0,0)):=by rw[<-hW];exact G
  clear hW x0 x1 x2 x3 x4 x5 xf q0 q1 q2 q3 q4 q5 q6 q7 q8 q9 qa qb qc qd qe qf qz y0 y1 y2 y3 yf k3 j5;obtain⟨⟨q3,q4,-⟩,y3,yf⟩:=HQ.o W h7;obtain⟨x0,x1,x2,x3,x4,x5,-⟩:=bJ G;have k8:F<W.heap.size:=kj _ _ y3;clear G;have h9:=h7.B0.A5 (U #[so,fl,S X bi,tx,I a n m,I b p q] 34);have j6:=A (i6.o.A0 h9 λ_ _=>id)
  have j7:=A (show ∀(j:Nat)(u:D),(eQ so fl bi tx (I a n m) (I b p q))[j]?=O u->(W.drew.alloc (U #[so,fl,S X bi,tx,I a n m,I b p q] 34)).cell? ((⟨W.heap.size,0,J⟩:ac).add j)=O u from λj u hj=>by
   rw[mi,jw];exact(aA (aL W.drew _)).trans (by simpa[eQ]using hj))
  have j8:=A (show ∀u∈eQ so fl bi tx (I a n m) (I b p q),u.oneCell'=C by intro u hu;simp[eQ]at hu;rcases hu with rfl|rfl|rfl|rfl|rfl|rfl<;>rfl);have z:=A h9;have i8:=A (show w.cell? ⟨F,y+x*4+3,J⟩=O (I va f.c.length vc)from HY.o);clear h9 h7;have j9:¬rb=F:=HV.o.2.2;have k9:¬F=rb:=λe=>j9 e.symm;apply later
  .intro HT;have h5:=(Q (λ_=>False) W).A5 (U #[so,fl,S X bi,tx,I a n m,I b p q] 34);have a4:=h5.B6 q4 id;have a3:=h5.B6 y3 id;clear h5
   go_region_law (refine bP aGH rfl _ _ rfl rfl j6.o ⟨W.heap.size,0,J⟩ 1 1 (eQ so fl bi tx (I a n m) (I b p q)) (by rfl) (by rfl) j7.o j8.o (by decide) j1.o.1 j1.o.2 ?_;intro g' l R w' h T v;have B:=(j0.o.A0 z.o λ_ _=>id).A0 v λk e e2=>HV.o.1 k e2 (mz e).symm;have k0:=B.K6;have h0:=v.B4 (z.o.B4 i7.o id) HV.o.2.1;have k4:w'.cell? ⟨rb,4,J⟩=O (I (F,y) N h6):=aA h0;have k1:w'.cell? ⟨F,y+x*4+3,J⟩=O (I va f.c.length vc):=v.B6 (z.o.B6 i8.o id) (λe=>HV.o.1 _ e rfl);clear h0)
   all_goals
    exact HT.o w' g' l R (And.intro h (And.intro T v))
  rintro w' g' l R ⟨h,T,v⟩;have B:=(j0.o.A0 z.o λ_ _=>id).A0 v λk e e2=>HV.o.1 k e2 (mz e).symm;have k0:=B.K6;have h0:=v.B4 (z.o.B4 i7.o id) HV.o.2.1;have k4:w'.cell? ⟨rb,4,J⟩=O (I (F,y) N h6):=aA h0;have k1:w'.cell? ⟨F,y+x*4+3,J⟩=O (I va f.c.length vc):=v.B6 (z.o.B6 i8.o id) (λe=>HV.o.1 _ e rfl);have l0:w'.cell? ⟨rb,3,J⟩=O (S Y r.b):=aA h0;have l1:=free_at h0;clear h0;have j2:=A (And.intro h (And.intro T (And.intro v B)));clear h T v B;go_wp2;go_end0;obtain⟨h,T,v,B⟩:=j2.o;obtain⟨k5,h8⟩:=B.block;refine j4.o _ g' l R (((z.o.mono λ_ a0=>a0.elim).trans v λ_ a0=>.inl (.inl a0)).A3 (p:=⟨F,y+x*4+3,J⟩) (.inl (.inr rfl)) _) (h.A0 ((Q (λk=>k=F) w').own _ _) λk e e2=>?_) (T.imp id λa0=>bo z.o.size a0.1) (j3.o w' _ B) _ (Q _ _);subst e2;exact h.ne h8 (by decide) e
 .have h7:=((Q (λ_=>False) w).A5 (U #[so,fl,S X bi,tx,I a n m,I b p q] 34)).A5 (U #[Z C] 4);have h7:=h7.B0;have G:=(de (w.alloc (U #[so,fl,S X bi,tx,I a n m,I b p q] 34)) (U #[Z C] 4) w.heap.size (by simp)).trans (aL w (U #[so,fl,S X bi,tx,I a n m,I b p q] 34));go_wp2_with fail;generalize hW:((w.alloc (U #[so,fl,S X bi,tx,I a n m,I b p q] 34)).alloc (U #[Z C] 4)).drew=W at*;have G:W.heap[w.heap.size]?=O (U #[so,fl,S X bi,tx,I a n m,I b p q] 34 (0,0)):=by rw[<-hW];exact G
  clear hW x0 x1 x2 x3 x4 x5 xf q0 q1 q2 q3 q4 q5 q6 q7 q8 q9 qa qb qc qd qe qf qz y0 y1 y2 y3 yf k3 j5;obtain⟨⟨q3,q4,-⟩,y3,yf⟩:=HQ.o W h7;obtain⟨x0,x1,x2,x3,x4,x5,-⟩:=bJ G;have j5:=A G;have k8:F<W.heap.size:=kj _ _ y3;clear G;have h9:=h7.B0.A5 (U #[S Y 0,Z H,S X 0,"",(),()] 34);have j6:=A (i6.o.A0 h9 λ_ _=>id)
  have j7:=A (show ∀(j:Nat)(u:D),(eQ 0 H 0 ⟨#[]⟩ gQ gQ)[j]?=O u->(W.drew.alloc (U #[S Y 0,Z H,S X 0,"",(),()] 34)).cell? ((⟨W.heap.size,0,J⟩:ac).add j)=O u from λj u hj=>by
   rw[mi,jw];exact(aA (aL W.drew _)).trans (by simpa[eQ,gQ]using hj))
  have j8:=A (show ∀u∈eQ 0 H 0 ⟨#[]⟩ gQ gQ,u.oneCell'=C by intro u hu;simp[eQ,gQ]at hu;rcases hu with rfl|rfl|rfl|rfl|rfl<;>rfl);have z:=A h9
  have k3:=A (show ∀w',Keeps (λq=>(I va f.c.length vc).ownBlock=O q) (W.drew.alloc (U #[S Y 0,Z H,S X 0,"",(),()] 34)) w'->w'.cell? w=O (S Y so)/\w'.cell? ⟨w.heap.size,1,J⟩=O (Z fl)/\w'.cell? ⟨w.heap.size,2,J⟩=O (S X bi)/\w'.cell? ⟨w.heap.size,3,J⟩=O (ae tx)/\w'.cell? ⟨w.heap.size,4,J⟩=O (I a n m)/\w'.cell? ⟨w.heap.size,5,J⟩=O (I b p q)from λw' v=>by
   obtain⟨G,z1,z2,z3,z4,z5,_⟩:=bJ (v.B4 (((Q (λ_=>False) W).B0.A5 (U #[S Y 0,Z H,S X 0,"",(),()] 34)).B4 j5.o id) (λe=>by have:=i6.o.lt e;omega));exact⟨G,z1,z2,z3,z4,z5⟩)
  have i8:=A (show w.cell? ⟨F,y+x*4+3,J⟩=O (I va f.c.length vc)from HY.o);clear h9 h7;have j9:¬rb=F:=HV.o.2.2;have k9:¬F=rb:=λe=>j9 e.symm;have h7:¬w.heap.size=F:=λe=>by have:=k7.o;omega
  have m4:¬F=w.heap.size:=λe=>h7 e.symm;apply later
  .intro HT;have h5:=(Q (λ_=>False) W).A5 (U #[S Y 0,Z H,S X 0,"",(),()] 34);have a4:=h5.B6 q4 id;have a3:=h5.B6 y3 id;have e0:=h5.B6 x0 id;have e1:=h5.B6 x1 id;have e2:=h5.B6 x2 id;have G:=h5.B6 x3 id;have e4:=h5.B6 x4 id;have e5:=h5.B6 x5 id;clear h5
   go_region_law (refine bP aGH rfl _ _ rfl rfl j6.o ⟨W.heap.size,0,J⟩ 1 1 (eQ 0 H 0 ⟨#[]⟩ gQ gQ) (by rfl) (by rfl) j7.o j8.o (by decide) j1.o.1 j1.o.2 ?_;intro g' l R w' h T v;have B:=(j0.o.A0 z.o λ_ _=>id).A0 v λk e e2=>HV.o.1 k e2 (mz e).symm;have k0:=B.K6;have h0:=v.B4 (z.o.B4 i7.o id) HV.o.2.1;have k1:w'.cell? ⟨F,y+x*4+3,J⟩=O (I va f.c.length vc):=v.B6 (z.o.B6 i8.o id) (λe=>HV.o.1 _ e rfl);clear h0;have h5:w'.cell? w=O (S Y so)/\w'.cell? ⟨w.heap.size,1,J⟩=O (Z fl)/\w'.cell? ⟨w.heap.size,2,J⟩=O (S X bi)/\w'.cell? ⟨w.heap.size,3,J⟩=O (ae tx)/\w'.cell? ⟨w.heap.size,4,J⟩=O (I a n m)/\w'.cell? ⟨w.heap.size,5,J⟩=O (I b p q):=k3.o w' v;obtain⟨-,-,-,-,-,-⟩:=h5)
   all_goals
    exact HT.o w' g' l R (And.intro h (And.intro T v))
  rintro w' g' l R ⟨h,T,v⟩;have B:=(j0.o.A0 z.o λ_ _=>id).A0 v λk e e2=>HV.o.1 k e2 (mz e).symm;have k0:=B.K6;have h0:=v.B4 (z.o.B4 i7.o id) HV.o.2.1;have k4:w'.cell? ⟨rb,4,J⟩=O (I (F,y) N h6):=aA h0;have k1:w'.cell? ⟨F,y+x*4+3,J⟩=O (I va f.c.length vc):=v.B6 (z.o.B6 i8.o id) (λe=>HV.o.1 _ e rfl);have l0:w'.cell? ⟨rb,3,J⟩=O (S Y r.b):=aA h0;have l1:=free_at h0;clear h0;have h5:w'.cell? w=O (S Y so)/\w'.cell? ⟨w.heap.size,1,J⟩=O (Z fl)/\w'.cell? ⟨w.heap.size,2,J⟩=O (S X bi)/\w'.cell? ⟨w.heap.size,3,J⟩=O (ae tx)/\w'.cell? ⟨w.heap.size,4,J⟩=O (I a n m)/\w'.cell? ⟨w.heap.size,5,J⟩=O (I b p q):=k3.o w' v;obtain⟨-,-,-,-,-,-⟩:=h5;have j2:=A (And.intro h (And.intro T (And.intro v B)));clear h T v B
  have G:(∀o,w'.frozen? ⟨g',o,J⟩=H)/\¬g'=F/\¬rb=g'/\∀(j:Nat)(u:D),(eQ 0 H 0 ⟨#[]⟩ gQ gQ)[j]?=O u->w'.cell? ⟨g',l+f.c.length*6+j,J⟩=O u:=by
   obtain⟨h,_,v,B⟩:=j2.o;obtain⟨k5,h8⟩:=B.block;refine⟨h.K6,λe=>h.ne h8 (by decide) (by rw[e];rfl),λe=>h.ne (v.B4 (z.o.B4 i7.o id) HV.o.2.1) (by decide) (by rw[e];rfl),λj u hj=>?_⟩;have:=h.B6 (j:=f.c.length*6+j) (u:=u) (by rw[cL (by rw[i6.o.1];omega),i6.o.1,show f.c.length*6+j-f.c.length*6=j by omega];exact hj);rw[fo];exact this
  obtain⟨m5,h0,h9,G⟩:=G;have l2:¬F=g':=λe=>h0 e.symm;have m6:¬g'=rb:=λe=>h9 e.symm;have i0:w'.cell? ⟨g',l+f.c.length*6,J⟩=O (S Y 0):=G 0 _ rfl;have i1:=G 1 _ rfl;have i2:=G 2 _ rfl;have i3:=G 3 _ rfl;have i4:=G 4 _ rfl;have i5:=G 5 _ rfl;clear G;go_wp2;go_end0;obtain⟨h,T,v,B⟩:=j2.o;obtain⟨k5,h8⟩:=B.block;have G:((I va f.c.length vc).ownBlock=O g'\/g'=F)\/w.heap.size<=g':=T.elim (λe=>L (L e)) λe=>.inr (bo z.o.size e.1);have l3:=((z.o.mono λ_ a0=>a0.elim).trans v λ_ a0=>L (L a0):Keeps (λk=>(I va f.c.length vc).ownBlock=O k\/k=F) w w').A3 (p:=⟨F,y+x*4+3,J⟩) (L (.inr rfl)) (I (g',l) (f.c.length+1) R);have l4:=((((((l3.A3 (p:=⟨g',l+f.c.length*6,J⟩) G (S Y so)).A3 (p:=⟨g',l+f.c.length*6+1,J⟩) G (Z fl)).A3 (p:=⟨g',l+f.c.length*6+2,J⟩) G (S X bi)).A3 (p:=⟨g',l+f.c.length*6+3,J⟩) G (ae tx)).A3 (p:=⟨g',l+f.c.length*6+4,J⟩) G (I a n m)).A3 (p:=⟨g',l+f.c.length*6+5,J⟩) G (I b p q));have l5:Keeps (λk=>k=g') (w'.setCell ⟨F,y+x*4+3,J⟩ (I (g',l) (f.c.length+1) R)) _:=((((((Q (λk=>k=g') _).own (l+f.c.length*6) (S Y so)).own (l+f.c.length*6+1) (Z fl)).own (l+f.c.length*6+2) (S X bi)).own (l+f.c.length*6+3) (ae tx)).own (l+f.c.length*6+4) (I a n m)).own (l+f.c.length*6+5) (I b p q);refine j4.o _ g' l R l4 (aQ.X7 (h.A0 ((Q (λk=>k=F) w').own _ _) λk e e2=>?_) i6.o.1 _ _ _ _ _ _) (T.imp id λa0=>bo z.o.size a0.1) ((j3.o w' _ B).A0 l5 λk e e2=>?_) _ (Q _ _)
  .subst e2;exact h.ne h8 (by decide) e
  .subst e2;exact l2 (mz e)
structure Bnd(r:Rr)(d:Nat):Prop where
 h:d<=512
 e:r.e.length<=512
 g:r.g<=65536
 bytes:r.bytes<=2097152
 c:∀f∈r.e,f.c.length<=65536
def oG(w:E)(j:Nat)(s:ByteArray)(d i c:Nat)(r:Rr)(h:aU w j s d i r c)(z:Bnd r d)(l:Int)(u:Bool)(o:Nat)(v:ByteArray)(a:Option ac)(n m:Nat)(b:Option ac)(p q:Nat)(t:Tr)(y:ValAt (λk=>c<=k) w (eQ l u o v (I a n m) (I b p q)) t):
 Calls prog 144 #[.pointer j,aJt l u o v (I a n m) (I b p q)] w λe w'=>xM w j s d i (r.C5 t) e w':=by
 rcases List.eq_nil_or_concat r.e with g|⟨x,f,g⟩
 .exact aJu w j s d i c r h l u o v a n m b p q t y g
 .rw[List.concat_eq_append]at g;have B:=z.e;rw[g,List.length_append,List.length_singleton]at B;exact aHr w j s d i c r x f h l u o v a n m b p q t y g (by omega) (z.c f (by rw[g];simp))
def qC(w:E)(c:Nat)(s:ByteArray)(d i:Nat)(R:Ra)(e:Ending)(w':E):Prop:=Below c w w'/\match R with
 | .on n r=>e=af (Z C)/\∃b,aU w' c s d (i+n) r b
 | .cut=>e=af (Z H)/\∃r b,aU w' c s d i r b
 | .bad no a=>e=af (Z C)/\qB w' c no ((i+a:Nat):Int)
def Bnd.N5(h:Bnd r d)(a:r.g<65536):Bnd {r with g:=r.g+1} d:=⟨h.h,h.e,a,h.bytes,h.c⟩
def Keeps.L5{F:Nat->Prop}{w1:E}(h:Keeps F w w1)(n:Nat):Keeps F w (w1.drewN n):=h.K9 rfl rfl rfl rfl
def aBC{a:Rr}(b:Bnd r d)(h:r.D4 d=.ok a):Bnd a d:=by
 unfold Rr.D4 at h;split at h
 .cases h
 .split at h
  .cases h
  .split at h
   .cases h
   .injection h with h;subst h;exact b.N5 (by omega)
def aU.B5{b a:Nat}(h:aU w b s d i r a)(j:Nat)(z:Int)(n:z=j):aU (w.setCell ⟨b,2,J⟩ (S Y z)) b s d j r a:=by
 subst n;obtain⟨P,c,l,q,p,v,a1,u,t,a2,m,g,f,e⟩:=h;exact⟨P,c,l,q,p,v,a1,u,t,a2,m,g,aB (o:=2) f _,e.N2 f ((Q (λk=>k=b) w).own _ _)⟩
def aU.cells{a c:Nat}(h:aU w a s d i r c):w.cell? a=O (ae s)/\w.cell? ⟨a,2,J⟩=O (S Y i)/\∀o,w.frozen? ⟨a,o,J⟩=H:=by
 obtain⟨P,e,g,l,k,p,a1,n,m,a2,j,f,b,-⟩:=h;exact⟨aA b,aA b,free_at b⟩
def sI{W:Oo}{k p:Nat}(b:k<W.length)(a:p<s.size):alike (W.drop k) (s.data.toList.drop p)=if W[k]=s[p]then alike (W.drop (k+1)) (s.data.toList.drop (p+1))+1 else 0:=by
 rw[List.drop_eq_getElem_cons b,bA a];rfl
def pI{W:Oo}{k p:Nat}(h:¬(k<W.length/\p<s.size)):alike (W.drop k) (s.data.toList.drop p)=0:=by
 by_cases a:k<W.length
 .rw[cY (i:=p) (by omega)];cases W.drop k<;>rfl
 .rw[List.drop_eq_nil_of_le (by omega)];rfl
