/-
  The program, one part of its walk. Conditions: none.
-/
import Derived.Test.YtakkmiomhackiaaGreatDoorBf14
set_option linter.all false
set_option maxRecDepth 100000
set_option maxHeartbeats 16000000
open Go.Proofs.Tryz
open Bool renaming false->H
open False renaming elim->ai
open Go renaming Addr->Q,Value->E,World->D,heap_alloc_new->aj,lt_of_block->ag,maxLen->ao
open Go.Addr renaming add_lit->bz
open Go.IntKind renaming i64->X,u64->U
open Go.Obj renaming cells->V
open Go.Proofs renaming intOf->ak
open Go.Proofs.YtakkmiomhackiaaGreatDoor.Keeps renaming A0->bh,A8->G
open Go.Proofs.YtakkmiomhackiaaGreatDoor.aQ renaming lt->ba
open Go.RowKit renaming Below->ac
open Go.RowKit.Below renaming refl->aw
open Go.Value renaming bool->Y,int->N,ownBlock->af,slice->I,string->Z
open List renaming getElem?_eq_getElem->ah,getElem?_eq_some_iff->bc,getElem?_map->bm,length_take->av,map_append->ar,map_map->bu,map_singleton->au,mem_of_getElem?->bx,take_of_length_le->bp
open Nat renaming add_assoc->bj,le_of_lt->bk,le_refl->ae,le_trans->bw,zero_add->cg,zero_le->cj
open Option renaming none->O,some->J
namespace Go.Proofs.YtakkmiomhackiaaGreatDoor
open Go.RowKit
variable {w wr:D}{B g i n:Nat}{x:eA}{S:List eA}
def aHR{F:Nat->Prop}{ka K:Option Q}{kc vc:Nat}{keys:List Oo}{c:List Tr}{l:List (List E)}(hk:Win 9 encS w (I ka n kc) keys)(hw:aQ 6 34 w (I K n vc) n l.flatten)(L:l5 F w l c)(hl:c.length=keys.length)(P:keys.length=n)(i:Nat)(hi:i<n):
 ∃(z B f h:Nat)(k:Oo)(t:Tr)(kx:ByteArray)(o:Int)(r:Bool)(s:Nat)(v:ByteArray)(a:Option Q)(x y:Nat)(b:Option Q)(p q:Nat),ka=J ⟨z,B,O⟩/\K=J ⟨f,h,O⟩/\encS k=Z kx/\(gR keys c l)[i]?=J ((k,t),eQ o r s v (I a x y) (I b p q))/\∀W,ac w w W->
  W.cell? ⟨z,B+i,O⟩=J (Z kx)/\W.cell? ⟨f,h+i*6,O⟩=J (N X o)/\W.cell? ⟨f,h+i*6+1,O⟩=J (Y r)/\W.cell? ⟨f,h+i*6+2,O⟩=J (N U s)/\W.cell? ⟨f,h+i*6+3,O⟩=J (Z v)/\W.cell? ⟨f,h+i*6+4,O⟩=J (I a x y)/\W.cell? ⟨f,h+i*6+5,O⟩=J (I b p q):=by
 have g4:=L.1;have h1:keys[i]?=J (keys[i]'(by omega)):=ah (by omega);have h2:c[i]?=J (c[i]'(by omega)):=ah (by omega);have C:l[i]?=J (l[i]'(by omega)):=ah (by omega);obtain⟨o,r,s,v,a,x,y,b,p,q,hc⟩:=(L.2 i _ _ C h2).A7;rw[hc]at C;rcases hk with⟨_,e⟩|⟨z,B,g2,g3,e1,R,-,-,-,S⟩
 .rw[e]at P;simp at P;omega
 injection e1 with y1 y2 y3
 subst y1
 obtain⟨f,h,m,e2⟩:∃f h m,(I K n vc)=I (J ⟨f,h,O⟩) n m:=by
  rcases hw with⟨_,⟨_,P⟩|⟨g,off,cap,d,e,_⟩⟩
  .omega
  .exact⟨g,off,cap,e⟩
 injection e2 with z1 z2 z3
 subst z1;refine⟨z,B,f,h,_,_,_,o,r,s,v,a,x,y,b,p,q,rfl,rfl,rfl,aHO h1 h2 C,λW hW=>⟨by rw[aA (keep R hW)];exact S i _ h1,?_⟩⟩
 have d:∀(j:Nat)(u:E),(eQ o r s v (I a x y) (I b p q))[j]?=J u->W.cell? ⟨f,h+i*6+j,O⟩=J u:=λj u hj=>by
  have T:j<6:=(bc.1 hj).1;have:=(hw.A2 (bh (λ_=>False) hW) λ_ _=>id).B3 (j:=i*6+j) (u:=u) (by rw[pH L.Q5 C T];exact hj);rw[bj];exact this
 exact⟨d 0 _ rfl,d 1 _ rfl,d 2 _ rfl,d 3 _ rfl,d 4 _ rfl,d 5 _ rfl⟩
def rB{a:Type}{l:List a}{x:a}(h:l[i]?=J x):l.take (i+1)=l.take i++ [x]:=by
 rw[List.take_succ,h];rfl
def aHQ.P2{b w':D}{l:List eA}{off cap:Nat}{o:E}(h:aHQ w l i o wr)(p:l[i]?=J x)(m:Keeps (λ_=>False) wr b)(a:aQ 7 336 w' (I (g,off) (i+1) cap) (i+1) (((l.take i).map lL).flatten++lL x))(f:o.ownBlock=J g\/b.heap.size<=g)(q:Keeps (λk=>o.ownBlock=J k) b w'):
 aHQ w l (i+1) (I (g,off) (i+1) cap) w':=by
 obtain⟨-,j,n⟩:=h;have c:(w.alloc (V #[N X 0,Y H,N U 0,"",(),()] 34)).heap.size=w.heap.size+1:=by simp
 have r:=n.size;have s:=m.size;rw[c]at r;have d:i<l.length:=(bc.1 p).1;refine⟨?_,λk e=>?_,(n.trans (m.C6 (by omega) λ_=>ai)).trans (q.C6 (by omega) λk e=>j k e)⟩
 .unfold bN;rw[rB p,ar,au,dV,List.length_append,List.length_singleton,av,Nat.min_eq_left (bk d)];exact a
 .obtain rfl:g=k:=by simpa[af]using e
  exact f.elim (j g) λe=>by omega
def bN.C8{off cap:Nat}{f:Int}{m:Bool}{l:Nat}{s:ByteArray}{a b:Option Q}{r o p q:Nat}(h:bN w (I (g,off) n cap) S)(B:iZ S)(hi:S[i]?=J x)(y:x.2=eQ f m l s (I a r o) (I b p q)):
 w.cell? ⟨g,off+i*7,O⟩=J (encS x.1.1)/\w.cell? ⟨g,off+i*7+1,O⟩=J (N X f)/\w.cell? ⟨g,off+i*7+2,O⟩=J (Y m)/\w.cell? ⟨g,off+i*7+3,O⟩=J (N U l)/\w.cell? ⟨g,off+i*7+4,O⟩=J (Z s)/\w.cell? ⟨g,off+i*7+5,O⟩=J (I a r o)/\w.cell? ⟨g,off+i*7+6,O⟩=J (I b p q):=by
 have z:n=S.length:=by
  rcases h.2 with⟨d,_⟩|⟨F,e,k,v,d,_⟩
  .cases d
  .cases d;rfl
 subst z
 have c:∀(j:Nat)(u:E),(lL x)[j]?=J u->j<7->w.cell? ⟨g,off+i*7+j,O⟩=J u:=λj u C t=>by
  have:=aQ.B3 h (j:=i*7+j) (u:=u) (by rw[pH (qY B) (show(S.map lL)[i]?=J (lL x) by rw[bm,hi];rfl) t];exact C);rw[bj];exact this
 unfold lL at c;rw[y]at c;exact⟨c 0 _ rfl (by decide),c 1 _ rfl (by decide),c 2 _ rfl (by decide),c 3 _ rfl (by decide),c 4 _ rfl (by decide),c 5 _ rfl (by decide),c 6 _ rfl (by decide)⟩
def aL7(c:D)(B:Nat)(S:List eA)(i:Nat)(wr:D):Prop:=∃a b:E,wr.heap[B]?=J (V #[N X 6,Y H,N U 0,"",b,a] 34 (0,0))/\aQ 1 9 wr a i ((S.take i).map λx=>encS x.1.1)/\aQ 6 34 wr b i ((S.take i).map (·.2)).flatten/\
 (∀k,a.ownBlock=J k->c.heap.size<=k)/\(∀k,b.ownBlock=J k->c.heap.size<=k)/\Keeps (λk=>k=B) c wr
def aLp{b:Nat}{m l j i n p:E}{T:TypeId}(d g c a e f:E)(h:w.heap[b]?=J (V #[m,l,j,i,n,p] T (0,0))):
 ((((((w.setCell b d).setCell ⟨b,1,O⟩ g).setCell ⟨b,2,O⟩ c).setCell ⟨b,3,O⟩ a).setCell ⟨b,4,O⟩ e).setCell ⟨b,5,O⟩ f).heap[b]?=J (V #[d,g,c,a,e,f] T (0,0))/\
 Keeps (λk=>k=b) w ((((((w.setCell b d).setCell ⟨b,1,O⟩ g).setCell ⟨b,2,O⟩ c).setCell ⟨b,3,O⟩ a).setCell ⟨b,4,O⟩ e).setCell ⟨b,5,O⟩ f):=
 ⟨aB (o:=5) (aB (o:=4) (aB (o:=3) (aB (o:=2) (aB (o:=1) (aB (o:=0) h d) g) c) a) e) f,((((((G (λk=>k=b) w).own _ _).own _ _).own _ _).own _ _).own _ _).own _ _⟩
def aJ2{F:Nat->Prop}{h C:D}{l:List eA}{keys:List Oo}{a:List Tr}{b:List (List E)}{j K:E}(hv:l5 F w b a)(L:a.length=keys.length)(R:keys.length=n)(hr:bK keys)(T:keys.Nodup)(f:gR keys a b=l)(W:dR l=S)
 (m:aQ 1 9 wr j n ((S.take n).map λx=>encS x.1.1))(o:aQ 6 34 wr K n ((S.take n).map (·.2)).flatten)(p:∀k,j.ownBlock=J k->h.heap.size<=k)(q:∀k,K.ownBlock=J k->h.heap.size<=k)(d:ac w w h)(r:Keeps (λk=>k=B) h wr)(g4:w.heap.size<B)(g5:B<h.heap.size)(hf:Keeps (λk=>k=w.heap.size) wr C)
 :ValAt (λk=>F k\/w.heap.size<=k) C (eQ 6 H 0 ⟨#[]⟩ K j) (.object (dC keys) (besides keys a))/\ac w w C:=by
 have s:b.length=keys.length:=by rw[hv.1];exact L
 have g2:S.length=n:=by rw[<-W,rA,<-f,yQ L s,R]
 have g:S.take n=S:=bp (by omega);rw[g]at m o;have u:S.map (·.1)=iE (keys.zip a):=by rw[<-W,aFk _ l (ae _),<-f,aFl L s]
 obtain⟨e1,P⟩:=aLn hr T L;rw[<-u,bu]at e1 P;have v:ac w w C:=(d.trans (r.C6 d.size λk e=>by omega)).trans (hf.C6 (bw d.size r.size) λk e=>by omega);have hz:=d.size;refine⟨?_,v⟩;rw[<-e1,<-P];have g3:Win 9 encS wr j (S.map λx=>x.1.1):=aQ.E8 (n:=n) (by rw[bu];exact m);have y:(S.map ((λx:Mem=>x.2)∘λx:eA=>x.1)).length=n:=by simp[g2]
 refine .object K j (S.map (·.2)) _ _ ?_ (λk e=>.inr (by have:=q k e;omega)) ?_ (λk e=>.inr (by have:=p k e;omega)) (by simp) (by simp) ?_
 .rw[y];exact o.A2 hf λk e P=>by have:=q k e;omega
 .exact g3.A2 hf λk e P=>by have:=p k e;omega
 .intro i c t z ht;rw[bm]at z ht;cases hi:S[i]? with
  | none=>rw[hi]at z;cases z
  | some x=>
   rw[hi]at z ht;cases z;cases ht
   have hx:x∈gR keys a b:=by
    rw[f];exact(oS _ l (ae _)).mem_iff.1 (by rw[W];exact bx hi)
   exact((vJ hv x hx).A2 (bh (λ_=>False) v) λ_ _ _ a0=>a0.elim).mono λk e _=>.inl e
def aHS{b q w1:D}{j g1 o1 c1:Nat}{l:Option Q}{m:E}{z:ByteArray}(P:S[j]?=J x)(u:encS x.1.1=Z z)(L:B<b.heap.size)(C:wr.heap[B]?=J (V #[N X 6,Y H,N U 0,"",m,I l j g] 34 (0,0)))
 (p:aQ 1 9 wr (I l j g) j ((S.take j).map λx=>encS x.1.1))(f:aQ 6 34 wr m j ((S.take j).map (·.2)).flatten)(c:∀k,(I l j g).ownBlock=J k->b.heap.size<=k)(t:∀k,m.ownBlock=J k->b.heap.size<=k)(n:Keeps (λk=>k=B) b wr)(d:Keeps (λ_=>False) wr q)
 (i:aQ 1 9 w1 (I (g1,o1) (j+1) c1) (j+1) (((S.take j).map λx=>encS x.1.1)++ [Z z]))(v:(I l j g).ownBlock=J g1\/q.heap.size<=g1)(r:Keeps (λk=>(I l j g).ownBlock=J k) q w1):
 (w1.setCell ⟨B,5,O⟩ (I (g1,o1) (j+1) c1)).heap[B]?=J (V #[N X 6,Y H,N U 0,"",m,I (g1,o1) (j+1) c1] 34 (0,0))/\
 aQ 1 9 (w1.setCell ⟨B,5,O⟩ (I (g1,o1) (j+1) c1)) (I (g1,o1) (j+1) c1) (j+1) ((S.take (j+1)).map λx=>encS x.1.1)/\aQ 6 34 (w1.setCell ⟨B,5,O⟩ (I (g1,o1) (j+1) c1)) m j ((S.take j).map (·.2)).flatten/\
 (∀k,(I (g1,o1) (j+1) c1).ownBlock=J k->b.heap.size<=k)/\Keeps (λk=>k=B) b (w1.setCell ⟨B,5,O⟩ (I (g1,o1) (j+1) c1)):=by
 have T:=n.size;have R:=d.size;have w:w1.heap[B]?=_:=r.B7 (d.B7 C id) (λe=>by have:=c _ e;omega);have a:=(G (λk=>k=B) w1).own 5 (I (g1,o1) (j+1) c1);have F:b.heap.size<=g1:=v.elim (c g1) λe=>by omega
 have h:=(f.A2 d λ_ _=>id).A2 r (λk e s=>by
  obtain⟨c1,K⟩:=(p.A2 d λ_ _=>id).E0 s;obtain⟨c2,y⟩:=(f.A2 d λ_ _=>id).E0 e;rw[K]at y;cases y)
 refine⟨aB (o:=5) w _,?_,h.A2 a λk e s=>by have:=t k e;omega,λk e=>?_,?_⟩
 .rw[rB P,ar,au,u]
  exact i.A2 a λk e s=>by
   obtain rfl:g1=k:=by simpa[af]using e
   omega
 .obtain rfl:g1=k:=by simpa[af]using e
  exact F
 .exact(((n.trans d λ_=>ai).trans r λk e=>.inr (c k e))).own 5 _
def aLq(w:D)(a b c d e f:E):∀(j:Nat)(u:E),[a,b,c,d,e,f][j]?=J u->(w.alloc (V #[a,b,c,d,e,f] 34)).cell? ((⟨w.heap.size,0,O⟩:Q).add j)=J u:=λj u g=>by
 rw[bz,cg];exact(aA (aj w _)).trans (by simpa using g)
def aJ3:lB 31 34 6 88:=⟨underlying31,by decide,by
 have h:(prog.info? 34).map (λi=>(i.zero,i.size,i.bytes))=J (J (.agg #[N X 0,Y H,N U 0,"",(),()]),6,88):=by kernel_rfl
 obtain⟨i,c,a,d,b⟩:=info_parts h;exact⟨i,_,c,a,d,b,rfl⟩⟩
def aHT{f u w1:D}{j g1 o1 c1 h:Nat}{i:Option Q}{t:E}{K:Int}{L:Bool}{P:Nat}{R:ByteArray}{a b:Option Q}{T W p q:Nat}(hx:S[j]?=J x)(v:x.2=eQ K L P R (I a T W) (I b p q))(g4:B<f.heap.size)(hb:wr.heap[B]?=J (V #[N X 6,Y H,N U 0,"",I i j h,t] 34 (0,0)))
 (l:aQ 1 9 wr t (j+1) ((S.take (j+1)).map λx=>encS x.1.1))(w:aQ 6 34 wr (I i j h) j ((S.take j).map (·.2)).flatten)(m:∀k,t.ownBlock=J k->f.heap.size<=k)(d:∀k,(I i j h).ownBlock=J k->f.heap.size<=k)(n:Keeps (λk=>k=B) f wr)(g:Keeps (λ_=>False) wr u)
 (r:aQ 6 34 w1 (I (g1,o1) (j+1) c1) (j+1) (((S.take j).map (·.2)).flatten++ [N X K,Y L,N U P,Z R,I a T W,I b p q]))(y:(I i j h).ownBlock=J g1\/u.heap.size<=g1)(z:Keeps (λk=>(I i j h).ownBlock=J k) u w1):
 aL7 f B S (j+1) (w1.setCell ⟨B,4,O⟩ (I (g1,o1) (j+1) c1)):=by
 have z1:=n.size;have z2:=g.size;have C:w1.heap[B]?=_:=z.B7 (g.B7 hb id) (λe=>by have:=d _ e;omega);have c:=(G (λk=>k=B) w1).own 4 (I (g1,o1) (j+1) c1);have hg:f.heap.size<=g1:=y.elim (d g1) λe=>by omega
 have s:=(l.A2 g λ_ _=>id).A2 z (λk e F=>by
  obtain⟨c1,h1⟩:=(w.A2 g λ_ _=>id).E0 F;obtain⟨c2,h2⟩:=(l.A2 g λ_ _=>id).E0 e;rw[h1]at h2;cases h2)
 refine⟨t,_,aB (o:=4) C _,s.A2 c λk e F=>by have:=m k e;omega,?_,m,λk e=>?_,(((n.trans g λ_=>ai).trans z λk e=>.inr (d k e))).own 4 _⟩
 .rw[rB hx,ar,au,dV,v]
  exact r.A2 c λk e F=>by
   obtain rfl:g1=k:=by simpa[af]using e
   omega
 .obtain rfl:g1=k:=by simpa[af]using e
  exact hg
def aHU(F:Nat->Prop)(w:D)(K a0:E)(keys:List Oo)(d:List Tr)(css:List (List E))(hk:Win 9 encS w K keys)(hw:aQ 6 34 w a0 d.length css.flatten)(hv:l5 F w css d)(hl:d.length=keys.length)(hn:keys.length<=65536)(hr:bK keys)(hnd:keys.Nodup):
 Calls prog 171 #[K,a0] w λe w'=>∃a n m b p q,e=.returned (.agg #[N X 6,Y H,N U 0,"",I a n m,I b p q])/\ValAt (λk=>F k\/w.heap.size<=k) w' (eQ 6 H 0 ⟨#[]⟩ (I a n m) (I b p q)) (.object (dC keys) (besides keys d))/\ac w w w':=by
 obtain⟨ka,kc,rfl⟩:=hk.A7;obtain⟨va,vc,rfl⟩:=hw.A7;obtain⟨n,r⟩:∃n,keys.length=n:=⟨_,rfl⟩;rw[hl,r]at hw;rw[r]at hk hn;have HP:=A (aHR hk hw hv hl r);have hok:iZ (gR keys d css):=aHP hv λk h=>⟨(hr k h).1,by have:=(hr k h).2;omega⟩
 have hln:(gR keys d css).length=n:=by rw[yQ hl (by rw[hv.1];exact hl),r]
 have HX:=A (And.intro hv (And.intro hl (And.intro r (And.intro hr hnd))));obtain⟨l,hll⟩:∃l,gR keys d css=l:=⟨_,rfl⟩;rw[hll]at hok hln HP;have HL:=A (And.intro hll (And.intro hok hln));have HM0:=A (show aHQ w l 0 (I O 0 0) (w.alloc (V #[N X 0,Y H,N U 0,"",(),()] 34))from⟨.nil _ _ _,λk e=>(by cases e),aw _ _⟩);rw[hl,r];clear hk hw hv hl hr hnd hok hln hll r;go_enter func171,ntmps171;go_wp2
 go_loopw [5,6] (λo v wr=>∃i:Nat,v=N X i/\i<=n/\M (aHQ w l i o wr)) (λ_ v _=>n-(ak v).toNat)
 case atStart=>exact⟨0,rfl,cj _,HM0⟩
 case round=>
  obtain⟨i,rfl,hi,HM⟩:=hrel;obtain⟨oa,oc,rfl⟩:=aQ.A7 HM.o.1;have hto:(l.take i).length=i:=by rw[av,HL.o.2.2];omega
  rw[hto]at HM⊢;clear hto
  by_cases hin:i<n
  .have e1:(i:Int)<(n:Int):=by omega
   have e0:(0:Int)<=(i:Int):=by omega
   obtain⟨kg,ko,vg,vo,k,t,z,L,P,bi,T,a,R,m1,b,p,q,rfl,rfl,hkx,hmem,hcs⟩:=HP.o i hin
   have hbw:ac w w wr:=by
    obtain⟨_,_,h3⟩:=HM.o;exact((aw w w).alloc (ae _) _).trans (h3.mono (by omega))
   obtain⟨d0,d1,d2,d3,d4,d5,d6⟩:=hcs wr hbw;have HD:=A (And.intro hkx hmem);have HCS:=A hcs;have HBL:=A (λ(w':D)(hkk:Keeps (λk=>(I oa i oc).ownBlock=J k) (wr.drew.alloc (V #[z,L,P,N U bi,T,I a R m1,I b p q] 336)) w')=>show ac w w w' from(hbw.trans (((G (λ_=>False) wr).B0.A6 (V #[z,L,P,N U bi,T,I a R m1,I b p q] 336)).C6 hbw.size λ_=>ai)).trans (hkk.C6 (bw hbw.size (by simp)) λk e=>bk (HM.o.2.1 k e)));clear hcs hbw hkx hmem
   have HW:=A (λ(h:(l.take i).length=i)=>show aQ 7 336 (wr.drew.alloc (V #[z,L,P,N U bi,T,I a R m1,I b p q] 336)) (I oa i oc) i ((l.take i).map lL).flatten from by
    have h2:=aQ.A2 HM.o.1 ((G (λ_=>False) wr).B0.A6 (V #[z,L,P,N U bi,T,I a R m1,I b p q] 336)) λ_ _=>id
    rwa[h]at h2)
   have HNW:=A (mE wr.drew (Z z) (N X L) (Y P) (N U bi) (Z T) (I a R m1) (I b p q));have HTO:=A (show(l.take i).length=i by rw[av,HL.o.2.2];omega);have HBM:=A (show(i+1)*104<=140737488355328/\i+1<=ao from⟨by omega,by unfold ao;omega⟩);go_wp2
   go_region_held3 (λw'=>w'.cell? ⟨kg,ko+i,O⟩=J (Z z)/\w'.cell? ⟨vg,vo+i*6,O⟩=J (N X L)/\w'.cell? ⟨vg,vo+i*6+1,O⟩=J (Y P)/\w'.cell? ⟨vg,vo+i*6+2,O⟩=J (N U bi)/\w'.cell? ⟨vg,vo+i*6+3,O⟩=J (Z T)/\w'.cell? ⟨vg,vo+i*6+4,O⟩=J (I a R m1)/\w'.cell? ⟨vg,vo+i*6+5,O⟩=J (I b p q)) (first|with_reducible exact hS|go_keep)
    ((refine bP sZ rfl _ _ rfl rfl (HW.o HTO.o) ⟨wr.heap.size,0,O⟩ 1 1 [Z z,N X L,Y P,N U bi,Z T,I a R m1,I b p q] (by rfl) (by rfl) HNW.o (by intro u hu;simp at hu;rcases hu with rfl|rfl|rfl|rfl|rfl|rfl|rfl<;>rfl) (by decide) HBM.o.1 HBM.o.2 ?_;intro g' off' cap' w' hwin hgb hkk;have hS:=HCS.o w' (HBL.o w' hkk)))
   all_goals
    have HF:=A (And.intro hwin (And.intro hgb hkk));clear hwin hgb hkk hS;go_wp2_with fail;exact⟨⟨i+1,by go_num,by omega,A (HM.o.P2 HD.o.2 ((G (λ_=>False) wr).B0.A6 _) (by unfold lL;rw[HD.o.1];exact HF.o.1) (HF.o.2.1.imp id λh=>h.1) HF.o.2.2)⟩,by simp[ak];omega⟩
  .have e1:¬(i:Int)<(n:Int):=by omega
   have hie:i=n:=by omega
   have HMn:=A (show aHQ w l n (I oa n oc) wr from hie▸HM.o);subst hie;have HO:=A (λ(hl1:l.take i=l)=>s6 l.length l wr (I oa i oc) (ae _) (by rw[HL.o.2.2];omega) HL.o.2.1 (by have:=HM.o.1;rwa[hl1]at this));have HLT:=A (show l.take i=l from bp (by rw[HL.o.2.2];exact ae _));go_wp2_with fail;refine(HO.o HLT.o).mono ?_;rintro e w3 ⟨sa,sc,rfl,hsort⟩;rw[HL.o.2.2]at hsort⊢;have HS:=A hsort;clear hsort;go_wp2_with fail;have hSl:(dR l).length=i:=by rw[rA,HL.o.2.2]
   have hSk:=uK HL.o.2.1;have HSS:=A (And.intro hSl hSk);clear hSl hSk;obtain⟨S,hS⟩:∃S,dR l=S:=⟨_,rfl⟩;have HSE:=A hS;rw[hS]at HSS;obtain⟨B,hB⟩:∃B,w3.heap.size=B:=⟨_,rfl⟩;rw[hB];obtain⟨w0,hw0⟩:∃w0,w3.alloc (V #[N X 6,Y H,N U 0,"",(),()] 34)=w0:=⟨_,rfl⟩;rw[hw0]
   have hSg:bN w0 (I sa i sc) S:=by
    rw[<-hw0,<-hS];exact HS.o.2.1.A2 ((G (λ_=>False) w3).A6 _) λ_ _=>id
   have hSb:∀k,(I sa i sc).ownBlock=J k->k≠B:=λk e e2=>by
    have:=ba HS.o.2.1 e;omega
   have hwB:w0.heap[B]?=J (V #[N X 6,Y H,N U 0,"",(),()] 34 (0,0)):=by rw[<-hw0,<-hB];exact aj w3 _
   have f:=A (And.intro hSg (And.intro hSb (And.intro hwB (And.intro hB hw0))));have HM2:=A (show aL7 w0 B S 0 w0 from⟨I O 0 0,I O 0 0,hwB,.nil _ _ _,.nil _ _ _,λk e=>(by cases e),λk e=>(by cases e),G _ _⟩)
   have hR4:w0.heap[w.heap.size]?=J (V #[N X 0,Y H,N U 0,"",(),()] 34 (0,0)):=by
    rw[<-hw0];have h1:=HMn.o.2.2;have h2:=(h1.block w.heap.size (by omega)).trans (aj w _);exact((G (λ_=>False) w3).A6 _).B7 (keep h2 HS.o.1) id
   have hB4:w.heap.size<B:=by
    have h1:=HMn.o.2.2.size;have h2:=HS.o.1.size;simp at h1;omega
   have hBw:ac w w w0:=by
    rw[<-hw0];have h1:=HMn.o.2.2;have h0:=((aw w w).alloc (ae _) (V #[N X 0,Y H,N U 0,"",(),()] 34)).trans (h1.mono (by omega));exact(chain h0 HS.o.1).alloc (chain h0 HS.o.1).size _
   have HR4:=A (And.intro hR4 (And.intro hB4 hBw));clear hSg hSb hwB hw0 hS hB hR4 hB4 hBw
   go_loopw [8] (λv wr=>∃j:Nat,v=N X j/\j<=i/\M (aL7 w0 B S j wr)) (λv _=>i-(ak v).toNat)
   case atStart=>exact⟨0,rfl,cj _,HM2⟩
   case round=>
    obtain⟨j,rfl,hj,HMJ⟩:=hrel
    by_cases hji:j<i
    .have j1:(j:Int)<(i:Int):=by omega
     have j0:(0:Int)<=(j:Int):=by omega
     obtain⟨Kv,Vv,hb,C,y,hko,hvo,s⟩:=HMJ.o;obtain⟨qa,qc,rfl⟩:=C.A7;obtain⟨ra,rc,rfl⟩:=y.A7;obtain⟨x,hx⟩:∃x,S[j]?=J x:=⟨_,ah (by rw[HSS.o.1];exact hji)⟩;obtain⟨⟨L,P,bi,T,a,R,m1,b,p,q,hx2⟩,_,_⟩:=HSS.o.2 x (bx hx)
     obtain⟨sg,sf,scap,hsa⟩:∃sg sf scap,(I sa i sc)=I (J ⟨sg,sf,O⟩) i scap:=by
      rcases f.o.1 with⟨_,⟨_,hn⟩|⟨g,off,cap,cur,e,_⟩⟩
      .rw[HSS.o.1]at hn;omega
      .rw[HSS.o.1]at e;exact⟨g,off,cap,e⟩
     injection hsa with z1 z2 z3
     subst z1;subst z3;clear z2;obtain⟨z,hkx⟩:∃z:ByteArray,encS x.1.1=Z z:=⟨_,rfl⟩;have HCS:=A (λ(W:D)(hW:Keeps (λk=>k=B) w0 W)=>bN.C8 (f.o.1.A2 hW f.o.2.1) HSS.o.2 hx hx2);rw[hkx]at HCS;obtain⟨d0,-,-,-,-,-,-⟩:=HCS.o wr s;obtain⟨-,-,-,-,-,b5,-⟩:=bJ hb;have HX2:=A (And.intro hx (And.intro hx2 hkx));have n3:¬sg=B:=f.o.2.1 sg rfl
     have c:=A (And.intro hb (And.intro C (And.intro y (And.intro hko (And.intro hvo s)))));have HBM:=A (show((j+1)*16<=140737488355328/\j+1<=ao)/\(j+1)*88<=140737488355328 from⟨⟨by omega,by unfold ao;omega⟩,by omega⟩);clear hb C y hko hvo s hx hx2 hkx;have HWX:=A (c.o.2.1.A2 ((G (λ_=>False) wr).B0.A6 (V #[z] 9)) λ_ _=>id)
     have HNC:=A (show ∀(j:Nat)(u:E),[Z z][j]?=J u->(wr.drew.alloc (V #[z] 9)).cell? ((⟨wr.heap.size,0,O⟩:Q).add j)=J u from λj u hj=>by
      rw[bz,cg];exact(aA (aj wr.drew _)).trans (by simpa using hj))
     have HQ:=A (show ∀w1,Keeps (λk=>(I qa j qc).ownBlock=J k) (wr.drew.alloc (V #[z] 9)) w1->w1.heap[B]?=J (V #[N X 6,Y H,N U 0,"",I ra j rc,I qa j qc] 34 (0,0))/\w1.cell? ⟨sg,sf+j*7,O⟩=J (Z z)from λw1 hk=>by
      have hBs:=ag f.o.2.2.1;have hq:=(G (λ_=>False) wr).B0.A6 (V #[z] 9);have hsg:sg<w0.heap.size:=ba f.o.1 rfl;exact⟨hk.B7 (hq.B7 c.o.1 id) (λe=>by have:=c.o.2.2.2.1 _ e;omega),hk.B3 (hq.B3 (HCS.o wr c.o.2.2.2.2.2).1 id) (λe=>by have:=c.o.2.2.2.1 _ e;simp at this;omega)⟩)
     have HMK:=A (λ(w1:D)(g1 o1 c1:Nat)=>aHS (w1:=w1) (g1:=g1) (o1:=o1) (c1:=c1) HX2.o.1 HX2.o.2.2 (ag f.o.2.2.1) c.o.1 c.o.2.1 c.o.2.2.1 c.o.2.2.2.1 c.o.2.2.2.2.1 c.o.2.2.2.2.2 ((G (λ_=>False) wr).B0.A6 (V #[z] 9)));go_wp2_with fail;have a5:=((G (λ_=>False) wr).A6 (V #[z] 9)).B3 b5 id
     go_region_law (refine bP sX rfl _ _ rfl rfl HWX.o wr 1 1 [Z z] (by rfl) (by rfl) HNC.o (by intro u hu;simp at hu;subst hu;rfl) (by decide) HBM.o.1.1 HBM.o.1.2 ?_;intro g1 o1 c1 w1 hwin1 hgb1 hkk1;have hq1:=HQ.o w1 hkk1;obtain⟨-,-,-,-,-,f5,ff⟩:=bJ hq1.1;clear hq1)
     all_goals
      have H1:=A (HMK.o w1 g1 o1 c1 hwin1 (hgb1.imp id λh=>h.1) hkk1);clear hwin1 hgb1 hkk1 a5 f5 ff b5 d0;go_wp2_with fail;obtain⟨W1,hW1⟩:∃W1,w1.setCell ⟨B,5,O⟩ (I (g1,o1) (j+1) c1)=W1:=⟨_,rfl⟩;have h1:=H1.o;rw[hW1]at h1⊢;obtain⟨hb1,hkw1,hvw1,hko1,hkp1⟩:=h1;obtain⟨_,d1,d2,d3,d4,d5,d6⟩:=HCS.o W1 hkp1;obtain⟨-,-,-,-,b4,-,-⟩:=bJ hb1;have H2:=A (And.intro hb1 (And.intro hkw1 (And.intro hvw1 (And.intro hko1 hkp1))));have HWY:=A (hvw1.A2 ((G (λ_=>False) W1).B0.A6 (V #[L,P,N U bi,T,I a R m1,I b p q] 34)) λ_ _=>id);have HNY:=A (aLq W1.drew (N X L) (Y P) (N U bi) (Z T) (I a R m1) (I b p q))
      have HQY:=A (show ∀w',Keeps (λk=>(I ra j rc).ownBlock=J k) (W1.drew.alloc (V #[L,P,N U bi,T,I a R m1,I b p q] 34)) w'->w'.heap[B]?=J (V #[N X 6,Y H,N U 0,"",I ra j rc,I (g1,o1) (j+1) c1] 34 (0,0))/\w'.cell? ⟨sg,sf+j*7+1,O⟩=J (N X L)/\w'.cell? ⟨sg,sf+j*7+2,O⟩=J (Y P)/\w'.cell? ⟨sg,sf+j*7+3,O⟩=J (N U bi)/\w'.cell? ⟨sg,sf+j*7+4,O⟩=J (Z T)/\w'.cell? ⟨sg,sf+j*7+5,O⟩=J (I a R m1)/\w'.cell? ⟨sg,sf+j*7+6,O⟩=J (I b p q)from λw' hk=>by
       have hBs:=ag f.o.2.2.1;have hq:=(G (λ_=>False) W1).B0.A6 (V #[L,P,N U bi,T,I a R m1,I b p q] 34);have hsg:sg<w0.heap.size:=ba f.o.1 rfl;have hF:¬(I ra j rc).ownBlock=J sg:=λe=>by have:=c.o.2.2.2.2.1 _ e;omega
       obtain⟨_,d1,d2,d3,d4,d5,d6⟩:=HCS.o W1 H2.o.2.2.2.2;exact⟨hk.B7 (hq.B7 H2.o.1 id) (λe=>by have:=c.o.2.2.2.2.1 _ e;omega),hk.B3 (hq.B3 d1 id) hF,hk.B3 (hq.B3 d2 id) hF,hk.B3 (hq.B3 d3 id) hF,hk.B3 (hq.B3 d4 id) hF,hk.B3 (hq.B3 d5 id) hF,hk.B3 (hq.B3 d6 id) hF⟩)
      have HMV:=A (λ(w':D)(g' o' c':Nat)=>aHT (w1:=w') (g1:=g') (o1:=o') (c1:=c') HX2.o.1 HX2.o.2.1 (ag f.o.2.2.1) H2.o.1 H2.o.2.1 H2.o.2.2.1 H2.o.2.2.2.1 c.o.2.2.2.2.1 H2.o.2.2.2.2 ((G (λ_=>False) W1).B0.A6 (V #[L,P,N U bi,T,I a R m1,I b p q] 34)));clear hb1 hkw1 hvw1 hko1 hkp1 hW1;have a4:=((G (λ_=>False) W1).A6 (V #[L,P,N U bi,T,I a R m1,I b p q] 34)).B3 b4 id
      go_region_law (refine bP aJ3 rfl _ _ rfl rfl HWY.o ⟨W1.heap.size,0,O⟩ 1 1 [N X L,Y P,N U bi,Z T,I a R m1,I b p q] (by rfl) (by rfl) HNY.o (by intro u hu;simp at hu;rcases hu with rfl|rfl|rfl|rfl|rfl|rfl<;>rfl) (by decide) HBM.o.2 HBM.o.1.2 ?_;intro g2 o2 c2 w2 hwin2 hgb2 hkk2;have hq2:=HQY.o w2 hkk2;obtain⟨-,-,-,-,f4,-,ff⟩:=bJ hq2.1;clear hq2)
      all_goals
       have H3:=A (HMV.o w2 g2 o2 c2 hwin2 (hgb2.imp id λh=>h.1) hkk2);clear hwin2 hgb2 hkk2 f4 ff;go_wp2
       go_roundw
       case rel=>exact⟨j+1,by go_num,by omega,H3⟩
       case measure=>simp[ak];omega
    .have j1:¬(j:Int)<(i:Int):=by omega
     obtain rfl:j=i:=by omega
     obtain⟨Kv,Vv,hb,C,y,hko,hvo,s⟩:=HMJ.o;obtain⟨qa,qc,rfl⟩:=C.A7;obtain⟨ra,rc,rfl⟩:=y.A7;obtain⟨b0,b1,b2,b3,b4,b5,-⟩:=bJ hb;have h4:=s.B7 HR4.o.1 (by have:=HR4.o.2.1;omega);obtain⟨r0,r1,r2,r3,r4,r5,rf⟩:=bJ h4;have HP6:=A (aLp (N X 6) (Y H) (N U 0) (Z ⟨#[]⟩) (I ra j rc) (I qa j qc) h4)
     have c:=A (And.intro C (And.intro y (And.intro hko (And.intro hvo s))));clear hb C y hko hvo s h4;go_wp2_with fail;obtain⟨s0,s1,s2,s3,s4,s5,_⟩:=bJ HP6.o.1;obtain⟨C,y,hko,hvo,s⟩:=c.o;obtain⟨hv,hl,r,hr,hnd⟩:=HX.o;have hfin:=aJ2 hv hl r hr hnd HL.o.1 HSE.o C y hko hvo HR4.o.2.2 s HR4.o.2.1 (ag f.o.2.2.1) HP6.o.2;exact bodyPost_ret (v:=.agg #[N X 6,Y H,N U 0,"",I ra j rc,I qa j qc]) (by simp[results,results171,go_sem,s0,s1,s2,s3,s4,s5]) rfl ⟨ra,j,rc,qa,j,qc,rfl,hfin.1,hfin.2⟩
