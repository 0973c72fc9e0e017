/-
  The program, one part of its walk. Conditions: none.
-/
import Derived.Test.YtakkmiomhackiaaGreatDoorTd17
import Derived.Test.YtakkmiomhackiaaGreatDoorTd18
set_option linter.all false
set_option maxRecDepth 100000
set_option maxHeartbeats 16000000
open Go.Proofs.Tryz
open Bool renaming false->H,true->ac
open Go renaming Addr->ae,Value->D,World->E,heap_alloc_new->ag,lt_of_block->ao
open Go.Addr renaming add_lit->aw
open Go.Ending renaming returned->af
open Go.IntKind renaming i64->U,u64->Z,wrap_i64->ba
open Go.Obj renaming cells->Y
open Go.Proofs.YtakkmiomhackiaaGreatDoor.Keeps renaming A3->Q
open Go.RowKit.Below renaming heap_alloc->au
open Go.Value renaming bool->V,int->S,ownBlock->ai,slice->I,string->X
open Go.World renaming block_lt_of_cell?->av
open List renaming getElem?_append_right->ar
open Nat renaming add_assoc->aj,le_trans->ak,zero_add->az
open Option renaming none->J,some->O
open Option.some renaming inj->ah
open Or renaming inl->T
namespace Go.Proofs.YtakkmiomhackiaaGreatDoor
open Go.RowKit
theorem aFu:kQ 31 34 6 88:=⟨underlying31,by decide,by
 have h:(prog.info? 34).map (λi=>(i.zero,i.size,i.bytes))=O (O (.agg #[S U 0,V H,S Z 0,X ⟨#[]⟩,I J 0 0,I J 0 0]),6,88):=by kernel_rfl
 obtain⟨i,c,a,d,b⟩:=info_parts h;exact⟨i,_,c,a,d,b,rfl⟩⟩
theorem dT.E9{w:E}{m:Nat}{r:List (List UInt8)}(h:dT w m r){s e n:Nat}{v:D}{d:List D}(a:aR s e w v n d):v.ownBlock≠O m:=by
 intro b;obtain⟨c,f⟩:=a.E4 b;exact h.ne f rfl
theorem aJ0{w w2:E}{h d i F mid mm x C v y g off cap:Nat}{s:ByteArray}{r:Rr}{u:List RFr}{f:RFr}{so:Int}{fl o:Bool}{bi:Nat}{tx:ByteArray}{K a0 DV DK:D}{pc P:List (List D)}{c dc:List D}{t:Tr}
 (R:w.heap[h]?=O (Y (rdC s d i r.want (I (O ⟨C,v,J⟩) (x+1) y) r.nodes r.bytes so fl bi tx DV DK 0 0 0) 172 (0,0)))(hDV:∃a n m,DV=I a n m)(hDK:∃a n m,DK=I a n m)(z:nO w h (I (O ⟨C,v,J⟩) (x+1) y) (pc++ [frC o K mm a0]) dc r F)
 (hp:r.pile=u++ [f])(hx:u.length=x)(N:eM w h pc u mid)(b:jN mid F w o K mm a0 P f)(hv:ValAt (λk=>F<=k) w c t)
 (hk:Keeps (λk=>a0.ownBlock=O k\/k=C) w w2)(hw6:aR 6 34 w2 (I (O ⟨g,off,J⟩) (f.items.length+1) cap) (f.items.length+1) (P.flatten++c))(hg:a0.ownBlock=O g\/w.heap.size<=g)
 (hw4:aR 4 265 w2 (I (O ⟨C,v,J⟩) (x+1) y) (x+1) (pc++ [frC o K mm (I (O ⟨g,off,J⟩) (f.items.length+1) cap)]).flatten):
 ∀W,Keeps (λ_=>False) (w2.setCell ⟨h,3,J⟩ (S U 5)) W->vM w h s d i (r.C7 t) (af (.tuple #[])) W:=by
 intro W hW;obtain⟨a1,n1,m1,rfl⟩:=hDV;obtain⟨a2,n2,m2,rfl⟩:=hDK;have hlt:=ao R;have j:eZ w C:=by obtain⟨cc,hc⟩:=z.win.E4 (k:=C) rfl;exact .of hc (by decide) (by decide)
 have hprb:h<=C:=z.pF C rfl;have hple:=N.le;have hle:=z.le;have hmF:=b.mF
 have hne:h≠C:=by
  intro e;have:=z.win.ne R (by decide);simp[ai]at this;exact this e.symm
 have hVne:a0.ownBlock≠O h:=b.items.ne R (by decide);have A:w2.heap[h]?=_:=hk.C4 R (λe=>e.elim hVne hne);have l:Keeps (λk=>(a0.ownBlock=O k\/k=C)\/k=h) w (w2.setCell ⟨h,3,J⟩ (S U 5)):=(hk.A6 λ_=>.inl).A2 (p:=⟨h,3,J⟩) (.inl (.inr rfl)) _;have hkr:Keeps (λk=>k=h) w2 (w2.setCell ⟨h,3,J⟩ (S U 5)):=(Q (λk=>k=h) w2).E9 3 _;have B:eZ w h:=.of R (by decide) (by decide);have hsz:w.heap.size<=(w2.setCell ⟨h,3,J⟩ (S U 5)).heap.size:=l.size;have hglt:g<w2.heap.size:=hw6.lt rfl;have hsz2:(w2.setCell ⟨h,3,J⟩ (S U 5)).heap.size=w2.heap.size:=by simp[World.setCell]
 have hput:r.C7 t={r with pile:=u++ [{f with items:=f.items++ [t]}],want:=5}:=by unfold Rr.C7;rw[hp];simp
 rw[hput];refine⟨rfl,(l.B9 hW λ_ a3=>a3.elim).B3 (Nat.le_of_lt hlt) ?_,w2.heap.size,aU.C9 ⟨_,pc++ [frC o K mm (I (O ⟨g,off,J⟩) (f.items.length+1) cap)],so,fl,bi,tx,a1,n1,m1,a2,n2,m2,aB (o:=3) A _,?_⟩ hW⟩
 .rintro k ((e|e)|e)
  .have:=b.iF k e;omega
  .omega
  .omega
 .refine⟨Nat.le_of_eq hsz2.symm,?_,z.pF,?_,λe=>by simp at e⟩
  .have hl:(u++ [{f with items:=f.items++ [t]}]).length=x+1:=by simp[hx]
   show aR 4 265 _ _ (u++ [{f with items:=f.items++ [t]}]).length _
   rw[hl]
   exact hw4.A0 hkr λk e e2=>by
    subst e2;exact hw4.ne A (by decide) e
  .refine .snoc (N.A0 l ?_) o K mm _ (P++ [c]) _ ⟨b.obj,?_,λk e=>⟨(b.kF k e).1,by have:=(b.kF k e).2;omega⟩,?_,⟨hmF.1,by omega⟩,?_,?_,?_⟩
   .rintro k-h2 ((e|e)|e)
    .have:=b.iF k e;omega
    .exact e▸j
    .exact e▸B
   .refine b.keys.A0 l ?_;intro k e g2;obtain⟨cc,hc⟩:=b.keys.E4 e;rcases g2 with(g2|g2)|g2
    .obtain⟨c2,q⟩:=b.items.E4 g2;rw[hc]at q;cases q
    .obtain⟨c2,a4,q,_,h9⟩:=j;rw[<-g2,hc]at q;cases q;exact h9 rfl
    .rw[g2,R]at hc;cases hc
   .refine b.met.A0 l ?_;rintro((e|e)|e)
    .exact b.met.E9 b.items e
    .obtain⟨c2,a4,q,_,-⟩:=j;exact b.met.ne q e
    .exact b.met.ne R e
   .rw[dS];have hl:(f.items++ [t]).length=f.items.length+1:=by simp
    show aR 6 34 _ _ (f.items++ [t]).length _
    rw[hl]
    exact hw6.A0 hkr λk e e2=>by
     subst e2;exact hw6.ne A (by decide) e
   .intro k e;obtain rfl:g=k:=by simpa[ai]using e
    refine⟨?_,hglt⟩;rcases hg with e|e
    .exact(b.iF _ e).1
    .omega
   .have hgt:∀k,k<w.heap.size->a0.ownBlock≠O k->(I (O ⟨g,off,J⟩) (f.items.length+1) cap).ownBlock≠O k:=by
     intro k q h2 e;obtain rfl:g=k:=by simpa[ai]using e
     rcases hg with e|e
     .exact h2 e
     .omega
    refine lU.M6 ((b.vals.A0 l ?_).A6 ?_) (((hv.A6 (G:=λk=>F<=k/\k<w.heap.size) λk e1 e2=>⟨e1,e2⟩).A0 l ?_).A6 ?_)
    .rintro k q _ ((e|e)|e)
     .exact absurd e q.2.2.1
     .exact e▸j
     .exact e▸B
    .intro k q _;exact⟨q.1,by omega,hgt k (by omega) q.2.2.1,q.2.2.2⟩
    .rintro k q _ ((e|e)|e)
     .have:=b.iF k e;omega
     .exact e▸j
     .exact e▸B
    .intro k q _;exact⟨by omega,by omega,hgt k q.2 (λe=>by have:=b.iF k e;omega),λe=>by have:=b.kF k e;omega,by omega⟩
theorem aR.T7{w:E}{g off n cap:Nat}{b:List D}{r o l q m k:D}(h:aR 6 34 w (I (O ⟨g,off,J⟩) (n+1) cap) (n+1) (b++ [r,o,l,q,m,k]))(s:b.length=n*6)(c j a i d f:D):
 aR 6 34 ((((((w.setCell ⟨g,off+n*6,J⟩ c).setCell ⟨g,off+n*6+1,J⟩ j).setCell ⟨g,off+n*6+2,J⟩ a).setCell ⟨g,off+n*6+3,J⟩ i).setCell ⟨g,off+n*6+4,J⟩ d).setCell ⟨g,off+n*6+5,J⟩ f) (I (O ⟨g,off,J⟩) (n+1) cap) (n+1) (b++ [c,j,a,i,d,f]):=by
 have p:=(((((h.D6 (n*6) c).D6 (n*6+1) j).D6 (n*6+2) a).D6 (n*6+3) i).D6 (n*6+4) d).D6 (n*6+5) f
 have e:((((((b++ [r,o,l,q,m,k]).set (n*6) c).set (n*6+1) j).set (n*6+2) a).set (n*6+3) i).set (n*6+4) d).set (n*6+5) f=b++ [c,j,a,i,d,f]:=by
  rw[<-s];simp[List.set_append]
 rw[e]at p;exact p
theorem later{A G:E->Nat->Nat->Nat->Prop}{p:Prop}(b:M (∀w g o c,A w g o c->G w g o c)->p)(a:∀w g o c,A w g o c->G w g o c):p:=b a
theorem aGB(w:E)(rb:Nat)(s:ByteArray)(d i top:Nat)(r:Rr)(ini:List RFr)(f:RFr)(a0:aU w rb s d i r top)(so:Int)(fl:Bool)(bi:Nat)(tx:ByteArray)(a:Option ae)(n m:Nat)(b:Option ae)(p q:Nat)(t:Tr)(hv:ValAt (λk=>top<=k) w (eV so fl bi tx (I a n m) (I b p q)) t)
 (hp:r.pile=ini++ [f])(hp2:ini.length<=512)(hit:f.items.length<=65536):
 Calls prog 144 #[.pointer (O ⟨rb,0,J⟩),aDE so fl bi tx (I a n m) (I b p q)] w λe w'=>vM w rb s d i (r.C7 t) e w':=by
 obtain⟨P,pcs,so0,fl0,bi0,tx0,a1,n1,m1,a2,n2,m2,A,C⟩:=a0;obtain⟨pc,mid,o,K,mm,a5,css,rfl,z,R⟩:=C.pile.L4 hp;obtain⟨N,hN⟩:∃N,r.pile.length=N:=⟨_,rfl⟩;have v:N=ini.length+1:=by rw[<-hN,hp];simp
 obtain⟨x,hx⟩:∃x,ini.length=x:=⟨_,rfl⟩;rw[hx]at v hp2;have h:=C.win;rw[hN,v]at h;obtain⟨B,y,pcap,rfl⟩:=h.P9;obtain⟨ka,kc,rfl⟩:=R.keys.A8;obtain⟨va,vc,rfl⟩:=R.items.A8;rw[<-v]at h A;obtain⟨pl1,pl2⟩:=z.O8;have hfl:pc.flatten.length=x*4:=by rw[nN pl2,pl1,hx]
 have l:∀(j:Nat)(u:D),(frC o (I ka f.keys.length kc) mm (I va f.items.length vc))[j]?=O u->w.cell? ⟨B,y+x*4+j,J⟩=O u:=by
  intro j u hj;have:=h.B5 (j:=x*4+j) (u:=u) (by rw[dS,ar (by omega),hfl,show x*4+j-x*4=j by omega];exact hj);rw[aj];exact this
 have y0:=l 0 _ rfl;have y1:=l 1 _ rfl;have y2:=l 2 _ rfl;have y3:=l 3 _ rfl;have yf:=h.K6;have hlt:=ao A;have hpg:=h.lt rfl;obtain⟨⟨q0,q1,q2,q3,q4,q5,q6,q7⟩,⟨q8,q9,qa,qb,qc,qd,qe,qf⟩,qz⟩:=cZ A;obtain⟨x0,x1,x2,x3,x4,x5,xf⟩:=bN (ag w (Y #[S U so,V fl,S Z bi,X tx,I a n m,I b p q] 34));have e0:((N:Int)==0)=H:=by simp;omega
 have e1:U.wrap ((N:Int)-1)=(x:Int):=by rw[ba];omega
 have e2:(x:Int)<(N:Int):=by omega
 have hVK:∀k,(I va f.items.length vc).ownBlock=O k->k≠B:=by
  intro k e e2;obtain⟨c,F⟩:=R.items.E4 e;rw[e2]at F;exact h.ne F (by decide) rfl
 have hVr:(I va f.items.length vc).ownBlock≠O rb:=R.items.ne A (by decide)
 have hne:rb≠B:=by
  intro e;have:=h.ne A (by decide);simp[ai]at this;exact this e.symm
 have F:∀(w':E)(u:D),aR 4 265 w' (I (O ⟨B,y,J⟩) N pcap) N (pc++ [frC o (I ka f.keys.length kc) mm (I va f.items.length vc)]).flatten->aR 4 265 (w'.setCell ⟨B,y+x*4+3,J⟩ u) (I (O ⟨B,y,J⟩) N pcap) N (pc++ [frC o (I ka f.keys.length kc) mm u]).flatten:=by
  intro w' u a0;have:=a0.D6 (x*4+3) u;rw[dS,List.set_append_right _ _ (by omega),hfl,show x*4+3-x*4=3 by omega,<-aj]at this;rw[dS];exact this
 have G:∀(w2:E)(g off cap:Nat),Keeps (λk=>(I va f.items.length vc).ownBlock=O k\/k=B) w w2->aR 6 34 w2 (I (O ⟨g,off,J⟩) (f.items.length+1) cap) (f.items.length+1) (css.flatten++eV so fl bi tx (I a n m) (I b p q))->
  ((I va f.items.length vc).ownBlock=O g\/w.heap.size<=g)->aR 4 265 w2 (I (O ⟨B,y,J⟩) N pcap) N (pc++ [frC o (I ka f.keys.length kc) mm (I (O ⟨g,off,J⟩) (f.items.length+1) cap)]).flatten->
  ∀W,Keeps (λ_=>False) (w2.setCell ⟨rb,3,J⟩ (S U 5)) W->vM w rb s d i (r.C7 t) (af (.tuple #[])) W:=by
  intro w2 g off cap h1 h2 h3 h4;rw[v]at h4;rw[v]at A;exact aJ0 A ⟨_,_,_,rfl⟩ ⟨_,_,_,rfl⟩ C hp hx z R hv h1 h2 h3 h4
 have hmm:(f.items.length+1)*88<=140737488355328:=by omega
 have hmx:f.items.length+1<=maxLen:=by unfold maxLen;omega
 have HSET:=L F;have HFIN:=L G;have HIT:=L R.items;have HW4:=L h;have HBM:=L (And.intro hmm hmx);have HV:=L (And.intro hVK (And.intro hVr hne))
 have HQ:=L (show ∀W,Keeps (λ_=>False) w W->(W.cell? ⟨rb,3,J⟩=O (S U r.want)/\W.cell? ⟨rb,4,J⟩=O (I (O ⟨B,y,J⟩) N pcap)/\∀o,W.frozen? ⟨rb,o,J⟩=H)/\W.cell? ⟨B,y+x*4+3,J⟩=O (I va f.items.length vc)/\∀o,W.frozen? ⟨B,o,J⟩=H from λW a0=>by
  obtain⟨⟨_,_,_,u3,u4,_,_,_⟩,_,uz⟩:=cZ (a0.C4 A id);exact⟨⟨u3,u4,uz⟩,a0.B5 y3 id,(h.A0 a0 λ_ _=>id).K6⟩)
 have HY:=L y3;have HPG:=L hpg;have HB0:=L A;clear A C R z h l hN v hv hfl pl1 pl2 hp F G hmm hmx hVK hVr hne hx hp2 hit;unfold aDE;go_enter func144,ntmps144;go_wp2_with fail;go_region
 .have hkW:=((Q (λ_=>False) w).A4 (Y #[S U so,V fl,S Z bi,X tx,I a n m,I b p q] 34)).A4 (Y #[V H] 4);have hkW:=hkW.A9;have C:=(au (w.alloc (Y #[S U so,V fl,S Z bi,X tx,I a n m,I b p q] 34)) (Y #[V H] 4) w.heap.size (by simp)).trans (ag w (Y #[S U so,V fl,S Z bi,X tx,I a n m,I b p q] 34));go_wp2_with fail;generalize hW:((w.alloc (Y #[S U so,V fl,S Z bi,X tx,I a n m,I b p q] 34)).alloc (Y #[V H] 4)).drew=W at*;have C:W.heap[w.heap.size]?=O (Y #[S U so,V fl,S Z bi,X tx,I a n m,I b p q] 34 (0,0)):=by rw[<-hW];exact C
  clear hW x0 x1 x2 x3 x4 x5 xf q0 q1 q2 q3 q4 q5 q6 q7 q8 q9 qa qb qc qd qe qf qz y0 y1 y2 y3 yf hlt hpg;obtain⟨⟨q3,q4,-⟩,y3,yf⟩:=HQ.o W hkW;obtain⟨x0,x1,x2,x3,x4,x5,-⟩:=bN C;have hl3:B<W.heap.size:=av _ _ y3;clear C;have hkX:=hkW.A9.A4 (Y #[S U so,V fl,S Z bi,X tx,I a n m,I b p q] 34);have HWX:=L (HIT.o.A0 hkX λ_ _=>id)
  have HNC:=L (show ∀(j:Nat)(u:D),(eV so fl bi tx (I a n m) (I b p q))[j]?=O u->(W.drew.alloc (Y #[S U so,V fl,S Z bi,X tx,I a n m,I b p q] 34)).cell? ((⟨W.heap.size,0,J⟩:ae).add j)=O u from λj u hj=>by
   rw[aw,az];exact(aA (ag W.drew _)).trans (by simpa[eV]using hj))
  have HON:=L (show ∀u∈eV so fl bi tx (I a n m) (I b p q),u.oneCell'=ac by intro u hu;simp[eV]at hu;rcases hu with rfl|rfl|rfl|rfl|rfl|rfl<;>rfl);have z:=L hkX;have HY3:=L (show w.cell? ⟨B,y+x*4+3,J⟩=O (I va f.items.length vc)from HY.o);clear hkX hkW;have hn1:¬rb=B:=HV.o.2.2;have hn2:¬B=rb:=λe=>hn1 e.symm
  apply later
  .intro HT;have hal:=(Q (λ_=>False) W).A4 (Y #[S U so,V fl,S Z bi,X tx,I a n m,I b p q] 34);have a4:=hal.B5 q4 id;have a3:=hal.B5 y3 id;clear hal
   go_region_law (refine bO aFu rfl _ _ rfl rfl HWX.o ⟨W.heap.size,0,J⟩ 1 1 (eV so fl bi tx (I a n m) (I b p q)) (by rfl) (by rfl) HNC.o HON.o (by decide) HBM.o.1 HBM.o.2 ?_;intro g' l F w' h G v;have A:=(HW4.o.A0 z.o λ_ _=>id).A0 v λk e e2=>HV.o.1 k e2 (ah e).symm;have hf1:=A.K6;have R:=v.C4 (z.o.C4 HB0.o id) HV.o.2.1;have hc4:w'.cell? ⟨rb,4,J⟩=O (I (O ⟨B,y,J⟩) N pcap):=aA R;have hc1:w'.cell? ⟨B,y+x*4+3,J⟩=O (I va f.items.length vc):=v.B5 (z.o.B5 HY3.o id) (λe=>HV.o.1 _ e rfl);clear R)
   all_goals
    exact HT.o w' g' l F (And.intro h (And.intro G v))
  rintro w' g' l F ⟨h,G,v⟩;have A:=(HW4.o.A0 z.o λ_ _=>id).A0 v λk e e2=>HV.o.1 k e2 (ah e).symm
  have hf1:=A.K6;have R:=v.C4 (z.o.C4 HB0.o id) HV.o.2.1;have hc4:w'.cell? ⟨rb,4,J⟩=O (I (O ⟨B,y,J⟩) N pcap):=aA R;have hc1:w'.cell? ⟨B,y+x*4+3,J⟩=O (I va f.items.length vc):=v.B5 (z.o.B5 HY3.o id) (λe=>HV.o.1 _ e rfl);have hc3:w'.cell? ⟨rb,3,J⟩=O (S U r.want):=aA R;have hf4:=free_at R;clear R;have HWN:=L (And.intro h (And.intro G (And.intro v A)));clear h G v A;go_wp2_with fail
  go_end0
  obtain⟨h,G,v,A⟩:=HWN.o;obtain⟨cur,hcur⟩:=A.J6;refine HFIN.o _ g' l F (((z.o.A6 λ_ a0=>a0.elim).B9 v λ_ a0=>.inl (.inl a0)).A2 (p:=⟨B,y+x*4+3,J⟩) (.inl (.inr rfl)) _) (h.A0 ((Q (λk=>k=B) w').E9 _ _) λk e e2=>?_) (G.imp id λa0=>ak z.o.size a0.1) (HSET.o w' _ A) _ (Q _ _);subst e2;exact h.ne hcur (by decide) e
 .have hkW:=((Q (λ_=>False) w).A4 (Y #[S U so,V fl,S Z bi,X tx,I a n m,I b p q] 34)).A4 (Y #[V ac] 4);have hkW:=hkW.A9;have C:=(au (w.alloc (Y #[S U so,V fl,S Z bi,X tx,I a n m,I b p q] 34)) (Y #[V ac] 4) w.heap.size (by simp)).trans (ag w (Y #[S U so,V fl,S Z bi,X tx,I a n m,I b p q] 34));go_wp2_with fail;generalize hW:((w.alloc (Y #[S U so,V fl,S Z bi,X tx,I a n m,I b p q] 34)).alloc (Y #[V ac] 4)).drew=W at*;have C:W.heap[w.heap.size]?=O (Y #[S U so,V fl,S Z bi,X tx,I a n m,I b p q] 34 (0,0)):=by rw[<-hW];exact C
  clear hW x0 x1 x2 x3 x4 x5 xf q0 q1 q2 q3 q4 q5 q6 q7 q8 q9 qa qb qc qd qe qf qz y0 y1 y2 y3 yf hlt hpg;obtain⟨⟨q3,q4,-⟩,y3,yf⟩:=HQ.o W hkW;obtain⟨x0,x1,x2,x3,x4,x5,-⟩:=bN C;have HBOX:=L C;have hl3:B<W.heap.size:=av _ _ y3;clear C;have hkX:=hkW.A9.A4 (Y #[S U 0,V H,S Z 0,X ⟨#[]⟩,I J 0 0,I J 0 0] 34);have HWX:=L (HIT.o.A0 hkX λ_ _=>id)
  have HNC:=L (show ∀(j:Nat)(u:D),(eV 0 H 0 ⟨#[]⟩ gO gO)[j]?=O u->(W.drew.alloc (Y #[S U 0,V H,S Z 0,X ⟨#[]⟩,I J 0 0,I J 0 0] 34)).cell? ((⟨W.heap.size,0,J⟩:ae).add j)=O u from λj u hj=>by
   rw[aw,az];exact(aA (ag W.drew _)).trans (by simpa[eV,gO]using hj))
  have HON:=L (show ∀u∈eV 0 H 0 ⟨#[]⟩ gO gO,u.oneCell'=ac by intro u hu;simp[eV,gO]at hu;rcases hu with rfl|rfl|rfl|rfl|rfl<;>rfl);have z:=L hkX
  have HBX:=L (show ∀w',Keeps (λq=>(I va f.items.length vc).ownBlock=O q) (W.drew.alloc (Y #[S U 0,V H,S Z 0,X ⟨#[]⟩,I J 0 0,I J 0 0] 34)) w'->w'.cell? ⟨w.heap.size,0,J⟩=O (S U so)/\w'.cell? ⟨w.heap.size,1,J⟩=O (V fl)/\w'.cell? ⟨w.heap.size,2,J⟩=O (S Z bi)/\w'.cell? ⟨w.heap.size,3,J⟩=O (X tx)/\w'.cell? ⟨w.heap.size,4,J⟩=O (I a n m)/\w'.cell? ⟨w.heap.size,5,J⟩=O (I b p q)from λw' v=>by
   obtain⟨C,z1,z2,z3,z4,z5,_⟩:=bN (v.C4 (((Q (λ_=>False) W).A9.A4 (Y #[S U 0,V H,S Z 0,X ⟨#[]⟩,I J 0 0,I J 0 0] 34)).C4 HBOX.o id) (λe=>by have:=HIT.o.lt e;omega));exact⟨C,z1,z2,z3,z4,z5⟩)
  have HY3:=L (show w.cell? ⟨B,y+x*4+3,J⟩=O (I va f.items.length vc)from HY.o);clear hkX hkW;have hn1:¬rb=B:=HV.o.2.2;have hn2:¬B=rb:=λe=>hn1 e.symm
  have hn3:¬w.heap.size=B:=λe=>by have:=HPG.o;omega
  have hn4:¬B=w.heap.size:=λe=>hn3 e.symm
  apply later
  .intro HT;have hal:=(Q (λ_=>False) W).A4 (Y #[S U 0,V H,S Z 0,X ⟨#[]⟩,I J 0 0,I J 0 0] 34);have a4:=hal.B5 q4 id;have a3:=hal.B5 y3 id;have e0:=hal.B5 x0 id;have e1:=hal.B5 x1 id;have e2:=hal.B5 x2 id;have C:=hal.B5 x3 id;have e4:=hal.B5 x4 id;have e5:=hal.B5 x5 id;clear hal
   go_region_law (refine bO aFu rfl _ _ rfl rfl HWX.o ⟨W.heap.size,0,J⟩ 1 1 (eV 0 H 0 ⟨#[]⟩ gO gO) (by rfl) (by rfl) HNC.o HON.o (by decide) HBM.o.1 HBM.o.2 ?_;intro g' l F w' h G v;have A:=(HW4.o.A0 z.o λ_ _=>id).A0 v λk e e2=>HV.o.1 k e2 (ah e).symm;have hf1:=A.K6;have R:=v.C4 (z.o.C4 HB0.o id) HV.o.2.1;have hc1:w'.cell? ⟨B,y+x*4+3,J⟩=O (I va f.items.length vc):=v.B5 (z.o.B5 HY3.o id) (λe=>HV.o.1 _ e rfl);clear R;have hbx:w'.cell? ⟨w.heap.size,0,J⟩=O (S U so)/\w'.cell? ⟨w.heap.size,1,J⟩=O (V fl)/\w'.cell? ⟨w.heap.size,2,J⟩=O (S Z bi)/\w'.cell? ⟨w.heap.size,3,J⟩=O (X tx)/\w'.cell? ⟨w.heap.size,4,J⟩=O (I a n m)/\w'.cell? ⟨w.heap.size,5,J⟩=O (I b p q):=HBX.o w' v;obtain⟨-,-,-,-,-,-⟩:=hbx)
   all_goals
    exact HT.o w' g' l F (And.intro h (And.intro G v))
  rintro w' g' l F ⟨h,G,v⟩;have A:=(HW4.o.A0 z.o λ_ _=>id).A0 v λk e e2=>HV.o.1 k e2 (ah e).symm
  have hf1:=A.K6;have R:=v.C4 (z.o.C4 HB0.o id) HV.o.2.1;have hc4:w'.cell? ⟨rb,4,J⟩=O (I (O ⟨B,y,J⟩) N pcap):=aA R;have hc1:w'.cell? ⟨B,y+x*4+3,J⟩=O (I va f.items.length vc):=v.B5 (z.o.B5 HY3.o id) (λe=>HV.o.1 _ e rfl);have hc3:w'.cell? ⟨rb,3,J⟩=O (S U r.want):=aA R;have hf4:=free_at R;clear R;have hbx:w'.cell? ⟨w.heap.size,0,J⟩=O (S U so)/\w'.cell? ⟨w.heap.size,1,J⟩=O (V fl)/\w'.cell? ⟨w.heap.size,2,J⟩=O (S Z bi)/\w'.cell? ⟨w.heap.size,3,J⟩=O (X tx)/\w'.cell? ⟨w.heap.size,4,J⟩=O (I a n m)/\w'.cell? ⟨w.heap.size,5,J⟩=O (I b p q):=HBX.o w' v;obtain⟨-,-,-,-,-,-⟩:=hbx;have HWN:=L (And.intro h (And.intro G (And.intro v A)));clear h G v A
  have C:(∀o,w'.frozen? ⟨g',o,J⟩=H)/\¬g'=B/\¬rb=g'/\∀(j:Nat)(u:D),(eV 0 H 0 ⟨#[]⟩ gO gO)[j]?=O u->w'.cell? ⟨g',l+f.items.length*6+j,J⟩=O u:=by
   obtain⟨h,_,v,A⟩:=HWN.o;obtain⟨cur,hcur⟩:=A.J6;refine⟨h.K6,λe=>h.ne hcur (by decide) (by rw[e];rfl),λe=>h.ne (v.C4 (z.o.C4 HB0.o id) HV.o.2.1) (by decide) (by rw[e];rfl),λj u hj=>?_⟩;have:=h.B5 (j:=f.items.length*6+j) (u:=u) (by rw[ar (by rw[HIT.o.1];omega),HIT.o.1,show f.items.length*6+j-f.items.length*6=j by omega];exact hj);rw[aj];exact this
  obtain⟨if_,R,in2,C⟩:=C;have in3:¬B=g':=λe=>R e.symm
  have in4:¬g'=rb:=λe=>in2 e.symm
  have i0:w'.cell? ⟨g',l+f.items.length*6,J⟩=O (S U 0):=C 0 _ rfl;have i1:=C 1 _ rfl;have i2:=C 2 _ rfl;have i3:=C 3 _ rfl;have i4:=C 4 _ rfl;have i5:=C 5 _ rfl;clear C;go_wp2_with fail
  go_end0
  obtain⟨h,G,v,A⟩:=HWN.o;obtain⟨cur,hcur⟩:=A.J6;have C:((I va f.items.length vc).ownBlock=O g'\/g'=B)\/w.heap.size<=g':=G.elim (λe=>T (T e)) λe=>.inr (ak z.o.size e.1)
  have hk1:=((z.o.A6 λ_ a0=>a0.elim).B9 v λ_ a0=>T (T a0):Keeps (λk=>(I va f.items.length vc).ownBlock=O k\/k=B) w w').A2 (p:=⟨B,y+x*4+3,J⟩) (T (.inr rfl)) (I (O ⟨g',l,J⟩) (f.items.length+1) F);have hk2:=((((((hk1.A2 (p:=⟨g',l+f.items.length*6,J⟩) C (S U so)).A2 (p:=⟨g',l+f.items.length*6+1,J⟩) C (V fl)).A2 (p:=⟨g',l+f.items.length*6+2,J⟩) C (S Z bi)).A2 (p:=⟨g',l+f.items.length*6+3,J⟩) C (X tx)).A2 (p:=⟨g',l+f.items.length*6+4,J⟩) C (I a n m)).A2 (p:=⟨g',l+f.items.length*6+5,J⟩) C (I b p q));have hk3:Keeps (λk=>k=g') (w'.setCell ⟨B,y+x*4+3,J⟩ (I (O ⟨g',l,J⟩) (f.items.length+1) F)) _:=((((((Q (λk=>k=g') _).E9 (l+f.items.length*6) (S U so)).E9 (l+f.items.length*6+1) (V fl)).E9 (l+f.items.length*6+2) (S Z bi)).E9 (l+f.items.length*6+3) (X tx)).E9 (l+f.items.length*6+4) (I a n m)).E9 (l+f.items.length*6+5) (I b p q);refine HFIN.o _ g' l F hk2 (aR.T7 (h.A0 ((Q (λk=>k=B) w').E9 _ _) λk e e2=>?_) HIT.o.1 _ _ _ _ _ _) (G.imp id λa0=>ak z.o.size a0.1) ((HSET.o w' _ A).A0 hk3 λk e e2=>?_) _ (Q _ _)
  .subst e2;exact h.ne hcur (by decide) e
  .subst e2;exact in3 (ah e)
structure Bnd(r:Rr)(d:Nat):Prop where
 depth:d<=512
 pile:r.pile.length<=512
 nodes:r.nodes<=65536
 bytes:r.bytes<=2097152
 items:∀f∈r.pile,f.items.length<=65536
theorem nT(w:E)(j:Nat)(s:ByteArray)(d i c:Nat)(r:Rr)(h:aU w j s d i r c)(z:Bnd r d)(l:Int)(u:Bool)(o:Nat)(v:ByteArray)(a:Option ae)(n m:Nat)(b:Option ae)(p q:Nat)(t:Tr)(y:ValAt (λk=>c<=k) w (eV l u o v (I a n m) (I b p q)) t):
 Calls prog 144 #[.pointer (O ⟨j,0,J⟩),aDE l u o v (I a n m) (I b p q)] w λe w'=>vM w j s d i (r.C7 t) e w':=by
 rcases List.eq_nil_or_concat r.pile with g|⟨x,f,g⟩
 .exact aH9 w j s d i c r h l u o v a n m b p q t y g
 .rw[List.concat_eq_append]at g;have A:=z.pile;rw[g,List.length_append,List.length_singleton]at A;exact aGB w j s d i c r x f h l u o v a n m b p q t y g (by omega) (z.items f (by rw[g];simp))
def o6(w:E)(c:Nat)(s:ByteArray)(d i:Nat)(R:Ra)(e:Ending)(w':E):Prop:=Below c w w'/\match R with
 | .on n r=>e=af (V ac)/\∃b,aU w' c s d (i+n) r b
 | .cut=>e=af (V H)/\∃r b,aU w' c s d i r b
 | .bad no a=>e=af (V ac)/\o5 w' c no ((i+a:Nat):Int)
theorem Bnd.M0{r:Rr}{d:Nat}(h:Bnd r d)(a:r.nodes<65536):Bnd {r with nodes:=r.nodes+1} d:=⟨h.depth,h.pile,a,h.bytes,h.items⟩
theorem Keeps.O2{F:Nat->Prop}{w w1:E}(h:Keeps F w w1)(n:Nat):Keeps F w (w1.drewN n):=h.K8 rfl rfl rfl rfl
theorem aAM{r a:Rr}{d:Nat}(b:Bnd r d)(h:r.D5 d=.ok a):Bnd a d:=by
 unfold Rr.D5 at h;split at h
 .cases h
 .split at h
  .cases h
  .split at h
   .cases h
   .injection h with h;subst h;exact b.M0 (by omega)
theorem aU.B4{w:E}{b d i a:Nat}{s:ByteArray}{r:Rr}(h:aU w b s d i r a)(j:Nat)(z:Int)(n:z=j):aU (w.setCell ⟨b,2,J⟩ (S U z)) b s d j r a:=by
 subst n;obtain⟨P,c,l,q,p,v,a1,u,t,a2,m,g,f,e⟩:=h;exact⟨P,c,l,q,p,v,a1,u,t,a2,m,g,aB (o:=2) f _,e.L8 f ((Q (λk=>k=b) w).E9 _ _)⟩
theorem aU.F6{w:E}{a d i c:Nat}{s:ByteArray}{r:Rr}(h:aU w a s d i r c):w.cell? ⟨a,0,J⟩=O (X s)/\w.cell? ⟨a,2,J⟩=O (S U i)/\∀o,w.frozen? ⟨a,o,J⟩=H:=by
 obtain⟨P,e,g,l,k,p,a1,n,m,a2,j,f,b,-⟩:=h;exact⟨aA b,aA b,free_at b⟩
theorem aB2{W:List UInt8}{s:ByteArray}{k p:Nat}(b:k<W.length)(a:p<s.size):alike (W.drop k) (s.data.toList.drop p)=if W[k]=s[p]then alike (W.drop (k+1)) (s.data.toList.drop (p+1))+1 else 0:=by
 rw[List.drop_eq_getElem_cons b,aZ a];rfl
theorem zM{W:List UInt8}{s:ByteArray}{k p:Nat}(h:¬(k<W.length/\p<s.size)):alike (W.drop k) (s.data.toList.drop p)=0:=by
 by_cases a:k<W.length
 .rw[dA (i:=p) (by omega)];cases W.drop k<;>rfl
 .rw[List.drop_eq_nil_of_le (by omega)];rfl
end Go.Proofs.YtakkmiomhackiaaGreatDoor
