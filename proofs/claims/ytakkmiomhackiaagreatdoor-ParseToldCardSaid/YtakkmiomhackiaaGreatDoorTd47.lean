/-
  The program, one part of its walk. Conditions: none.
-/
import Derived.Test.YtakkmiomhackiaaGreatDoorTd42
import Derived.Test.YtakkmiomhackiaaGreatDoorTd45
set_option linter.all false
set_option maxRecDepth 100000
set_option maxHeartbeats 16000000
open Go.Proofs.Tryz
open Bool renaming false->D
open Except renaming error->bh
open False renaming elim->aj
open Go renaming Addr->ac,Value->G,World->E,heap_alloc_new->ak,lt_of_block->ah,maxLen->ar
open Go.Addr renaming add_lit->cj
open Go.Ending renaming returned->bk
open Go.IntKind renaming i64->X,u64->Z
open Go.Obj renaming cells->H
open Go.Proofs renaming intOf->ao
open Go.Proofs.YtakkmiomhackiaaGreatDoor.Keeps renaming A1->bp,A3->Q
open Go.Proofs.YtakkmiomhackiaaGreatDoor.Ps renaming D4->co,D7->cr,J7->cu
open Go.Proofs.YtakkmiomhackiaaGreatDoor.aR renaming lt->bg
open Go.RowKit renaming Below->R
open Go.RowKit.Below renaming refl->ba
open Go.Value renaming bool->Y,int->U,ownBlock->ag,slice->I,string->V
open List renaming foldlM_cons->ct,getElem?_eq_getElem->ai,getElem?_eq_some_iff->bm,getElem?_map->bw,getElem?_of_mem->bj,getElem?_zip_eq_some->ae,length_take->az,map_append->av,map_map->bz,map_singleton->aw,mem_of_getElem?->au,take_of_length_le->bx
open Nat renaming add_assoc->bs,le_of_lt->bu,le_refl->af,le_trans->cg,zero_add->ck,zero_le->bc
open Option renaming none->O,some->J
namespace Go.Proofs.YtakkmiomhackiaaGreatDoor
open Go.RowKit
def gP(keys:List (List UInt8))(items:List Tr)(a:List (List G)):List dU:=(keys.zip items).zip a
theorem aGu{keys:List (List UInt8)}{items:List Tr}{a:List (List G)}{i:Nat}{k:List UInt8}{t:Tr}{c:List G}(d:keys[i]?=J k)(b:items[i]?=J t)(e:a[i]?=J c):(gP keys items a)[i]?=J ((k,t),c):=by
 unfold gP;rw[ae,ae];exact⟨⟨d,b⟩,e⟩
theorem wA{keys:List (List UInt8)}{items:List Tr}{a:List (List G)}(c:items.length=keys.length)(b:a.length=keys.length):(gP keys items a).length=keys.length:=by
 unfold gP;simp;omega
theorem aDS{keys:List (List UInt8)}{items:List Tr}{a:List (List G)}(c:items.length=keys.length)(b:a.length=keys.length):(gP keys items a).map (·.1)=keys.zip items:=by
 unfold gP;exact List.map_fst_zip (by simp;omega)
def aJX(F:Nat->Prop)(w:E)(l:List dU):Prop:=∀x∈l,ValAt F w x.2 x.1.2
theorem tH{F:Nat->Prop}{w:E}{keys:List (List UInt8)}{items:List Tr}{a:List (List G)}(h:lU F w a items):aJX F w (gP keys items a):=by
 intro x b;obtain⟨i,hi⟩:=bj b;unfold gP at hi;rw[ae,ae]at hi;exact h.2 i _ _ hi.2 hi.1.2
theorem aGv{F:Nat->Prop}{w:E}{keys:List (List UInt8)}{items:List Tr}{a:List (List G)}(h:lU F w a items)(e:∀k∈keys,aT k=true/\k.length<=1073741824):iR (gP keys items a):=by
 intro x b;have d:=tH (keys:=keys) h x b;obtain⟨i,hi⟩:=bj b;unfold gP at hi;rw[ae,ae]at hi;have c:x.1.1∈keys:=au hi.1.1;exact⟨d.A8,e _ c⟩
def aGw(w:E)(l:List dU)(i:Nat)(o:G)(wr:E):Prop:=bL wr o (l.take i)/\(∀k,o.ownBlock=J k->w.heap.size<k)/\R (w.heap.size+1) (w.alloc (H #[U X 0,Y D,U Z 0,V ⟨#[]⟩,I O 0 0,I O 0 0] 34)) wr
theorem rG:∀(N:Nat)(l:List dU)(w:E)(o:G),l.length<=N->l.length<=65536->iR l->bL w o l->Calls prog 192 #[o] w λe w'=>∃a c,e=bk (I a l.length c)/\pM w o l (I a l.length c) w'
 | 0,l,w,o,j,_,_,b=>nS l w o (by omega) b
 | N+1,l,w,o,j,h,k,b=>by
  by_cases d:l.length<2
  .exact nS l w o d b
  .exact yB l w o d h k b λm W g n i f=>rG N m W g (by omega) (by omega) i f
theorem aGx{F:Nat->Prop}{w:E}{T B:Option ac}{n kc vc:Nat}{keys:List (List UInt8)}{items:List Tr}{h:List (List G)}(hk:Win 9 encS w (I T n kc) keys)(hw:aR 6 34 w (I B n vc) n h.flatten)(C:lU F w h items)(hl:items.length=keys.length)(K:keys.length=n)(i:Nat)(hi:i<n):
 ∃(y z d f:Nat)(k:List UInt8)(t:Tr)(kx:ByteArray)(m:Int)(o:Bool)(r:Nat)(s:ByteArray)(a:Option ac)(v x:Nat)(b:Option ac)(p q:Nat),T=J ⟨y,z,O⟩/\B=J ⟨d,f,O⟩/\encS k=V kx/\(gP keys items h)[i]?=J ((k,t),eV m o r s (I a v x) (I b p q))/\∀W,R w.heap.size w W->
  W.cell? ⟨y,z+i,O⟩=J (V kx)/\W.cell? ⟨d,f+i*6,O⟩=J (U X m)/\W.cell? ⟨d,f+i*6+1,O⟩=J (Y o)/\W.cell? ⟨d,f+i*6+2,O⟩=J (U Z r)/\W.cell? ⟨d,f+i*6+3,O⟩=J (V s)/\W.cell? ⟨d,f+i*6+4,O⟩=J (I a v x)/\W.cell? ⟨d,f+i*6+5,O⟩=J (I b p q):=by
 have hcl:=C.1;have h1:keys[i]?=J (keys[i]'(by omega)):=ai (by omega);have h2:items[i]?=J (items[i]'(by omega)):=ai (by omega);have A:h[i]?=J (h[i]'(by omega)):=ai (by omega);obtain⟨m,o,r,s,a,v,x,b,p,q,hc⟩:=(C.2 i _ _ A h2).A8;rw[hc]at A;rcases hk with⟨_,e⟩|⟨y,z,kcap,kcur,e1,N,-,-,-,P⟩
 .rw[e]at K;simp at K;omega
 injection e1 with y1 y2 y3
 subst y1
 obtain⟨d,f,l,e2⟩:∃d f l,(I B n vc)=I (J ⟨d,f,O⟩) n l:=by
  rcases hw with⟨_,⟨_,K⟩|⟨g,off,cap,c,e,_⟩⟩
  .omega
  .exact⟨g,off,cap,e⟩
 injection e2 with z1 z2 z3
 subst z1;refine⟨y,z,d,f,_,_,_,m,o,r,s,a,v,x,b,p,q,rfl,rfl,rfl,aGu h1 h2 A,λW hW=>⟨by rw[aA (keep N hW)];exact P i _ h1,?_⟩⟩
 have c:∀(j:Nat)(u:G),(eV m o r s (I a v x) (I b p q))[j]?=J u->W.cell? ⟨d,f+i*6+j,O⟩=J u:=λj u hj=>by
  have S:j<6:=(bm.1 hj).1;have:=(hw.A0 (bp (λ_=>False) hW) λ_ _=>id).B5 (j:=i*6+j) (u:=u) (by rw[oN C.U1 A S];exact hj);rw[bs];exact this
 exact⟨c 0 _ rfl,c 1 _ rfl,c 2 _ rfl,c 3 _ rfl,c 4 _ rfl,c 5 _ rfl⟩
theorem pO{a:Type}{l:List a}{i:Nat}{x:a}(h:l[i]?=J x):l.take (i+1)=l.take i++ [x]:=by
 rw[List.take_succ,h];rfl
theorem aGw.I8{w wr b w':E}{l:List dU}{i g off cap:Nat}{o:G}{x:dU}(h:aGw w l i o wr)(p:l[i]?=J x)(m:Keeps (λ_=>False) wr b)(a:aR 7 336 w' (I (J ⟨g,off,O⟩) (i+1) cap) (i+1) (((l.take i).map lD).flatten++lD x))(f:o.ownBlock=J g\/b.heap.size<=g)(q:Keeps (λk=>o.ownBlock=J k) b w'):
 aGw w l (i+1) (I (J ⟨g,off,O⟩) (i+1) cap) w':=by
 obtain⟨-,j,n⟩:=h;have c:(w.alloc (H #[U X 0,Y D,U Z 0,V ⟨#[]⟩,I O 0 0,I O 0 0] 34)).heap.size=w.heap.size+1:=by simp
 have r:=n.size;have s:=m.size;rw[c]at r;have d:i<l.length:=(bm.1 p).1;refine⟨?_,λk e=>?_,(n.trans (m.B3 (by omega) λ_=>aj)).trans (q.B3 (by omega) λk e=>j k e)⟩
 .unfold bL;rw[pO p,av,aw,dS,List.length_append,List.length_singleton,az,Nat.min_eq_left (bu d)];exact a
 .obtain rfl:g=k:=by simpa[ag]using e
  exact f.elim (j g) λe=>by omega
theorem bL.C8{w:E}{g off n cap i:Nat}{S:List dU}{x:dU}{f:Int}{m:Bool}{l:Nat}{s:ByteArray}{a b:Option ac}{r o p q:Nat}(h:bL w (I (J ⟨g,off,O⟩) n cap) S)(A:iR S)(hi:S[i]?=J x)(y:x.2=eV f m l s (I a r o) (I b p q)):
 w.cell? ⟨g,off+i*7,O⟩=J (encS x.1.1)/\w.cell? ⟨g,off+i*7+1,O⟩=J (U X f)/\w.cell? ⟨g,off+i*7+2,O⟩=J (Y m)/\w.cell? ⟨g,off+i*7+3,O⟩=J (U Z l)/\w.cell? ⟨g,off+i*7+4,O⟩=J (V s)/\w.cell? ⟨g,off+i*7+5,O⟩=J (I a r o)/\w.cell? ⟨g,off+i*7+6,O⟩=J (I b p q):=by
 have z:n=S.length:=by
  rcases h.2 with⟨d,_⟩|⟨C,e,k,v,d,_⟩
  .cases d
  .cases d;rfl
 subst z
 have c:∀(j:Nat)(u:G),(lD x)[j]?=J u->j<7->w.cell? ⟨g,off+i*7+j,O⟩=J u:=λj u B t=>by
  have:=aR.B5 h (j:=i*7+j) (u:=u) (by rw[oN (pK A) (show(S.map lD)[i]?=J (lD x) by rw[bw,hi];rfl) t];exact B);rw[bs];exact this
 unfold lD at c;rw[y]at c;exact⟨c 0 _ rfl (by decide),c 1 _ rfl (by decide),c 2 _ rfl (by decide),c 3 _ rfl (by decide),c 4 _ rfl (by decide),c 5 _ rfl (by decide),c 6 _ rfl (by decide)⟩
def aKF(c:E)(B:Nat)(S:List dU)(i:Nat)(wr:E):Prop:=∃a b:G,wr.heap[B]?=J (H #[U X 6,Y D,U Z 0,V ⟨#[]⟩,b,a] 34 (0,0))/\aR 1 9 wr a i ((S.take i).map λx=>encS x.1.1)/\aR 6 34 wr b i ((S.take i).map (·.2)).flatten/\
 (∀k,a.ownBlock=J k->c.heap.size<=k)/\(∀k,b.ownBlock=J k->c.heap.size<=k)/\Keeps (λk=>k=B) c wr
theorem aJY{w:E}{b:Nat}{m l j i n p:G}{T:TypeId}(d g c a e f:G)(h:w.heap[b]?=J (H #[m,l,j,i,n,p] T (0,0))):
 ((((((w.setCell ⟨b,0,O⟩ d).setCell ⟨b,1,O⟩ g).setCell ⟨b,2,O⟩ c).setCell ⟨b,3,O⟩ a).setCell ⟨b,4,O⟩ e).setCell ⟨b,5,O⟩ f).heap[b]?=J (H #[d,g,c,a,e,f] T (0,0))/\
 Keeps (λk=>k=b) w ((((((w.setCell ⟨b,0,O⟩ d).setCell ⟨b,1,O⟩ g).setCell ⟨b,2,O⟩ c).setCell ⟨b,3,O⟩ a).setCell ⟨b,4,O⟩ e).setCell ⟨b,5,O⟩ f):=
 ⟨aB (o:=5) (aB (o:=4) (aB (o:=3) (aB (o:=2) (aB (o:=1) (aB (o:=0) h d) g) c) a) e) f,((((((Q (λk=>k=b) w).E9 _ _).E9 _ _).E9 _ _).E9 _ _).E9 _ _).E9 _ _⟩
theorem aIt{F:Nat->Prop}{w g wr z:E}{B n:Nat}{S l:List dU}{keys:List (List UInt8)}{items:List Tr}{a:List (List G)}{h A:G}(hv:lU F w a items)(C:items.length=keys.length)(N:keys.length=n)(hr:bH keys)(P:keys.Nodup)(d:gP keys items a=l)(T:dM l=S)
 (j:aR 1 9 wr h n ((S.take n).map λx=>encS x.1.1))(m:aR 6 34 wr A n ((S.take n).map (·.2)).flatten)(o:∀k,h.ownBlock=J k->g.heap.size<=k)(p:∀k,A.ownBlock=J k->g.heap.size<=k)(b:R w.heap.size w g)(q:Keeps (λk=>k=B) g wr)(hBw:w.heap.size<B)(hBs:B<g.heap.size)(W:Keeps (λk=>k=w.heap.size) wr z)
 :ValAt (λk=>F k\/w.heap.size<=k) z (eV 6 D 0 ⟨#[]⟩ A h) (.object (cV keys) (besides keys items))/\R w.heap.size w z:=by
 have r:a.length=keys.length:=by rw[hv.1];exact C
 have hSl:S.length=n:=by rw[<-T,pN,<-d,wA C r,N]
 have f:S.take n=S:=bx (by omega);rw[f]at j m;have s:S.map (·.1)=hZ (keys.zip items):=by rw[<-T,aDR _ l (af _),<-d,aDS C r]
 obtain⟨e1,K⟩:=aJW hr P C;rw[<-s,bz]at e1 K;have u:R w.heap.size w z:=(b.trans (q.B3 b.size λk e=>by omega)).trans (W.B3 (cg b.size q.size) λk e=>by omega);have hz:=b.size;refine⟨?_,u⟩;rw[<-e1,<-K];have hk2:Win 9 encS wr h (S.map λx=>x.1.1):=aR.I4 (n:=n) (by rw[bz];exact j);have v:(S.map ((λx:Mem=>x.2)∘λx:dU=>x.1)).length=n:=by simp[hSl]
 refine .object A h (S.map (·.2)) _ _ ?_ (λk e=>.inr (by have:=p k e;omega)) ?_ (λk e=>.inr (by have:=o k e;omega)) (by simp) (by simp) ?_
 .rw[v];exact m.A0 W λk e K=>by have:=p k e;omega
 .exact hk2.A0 W λk e K=>by have:=o k e;omega
 .intro i c t y ht;rw[bw]at y ht;cases hi:S[i]? with
  | none=>rw[hi]at y;cases y
  | some x=>
   rw[hi]at y ht;cases y;cases ht
   have hx:x∈gP keys items a:=by
    rw[d];exact(nR _ l (af _)).mem_iff.1 (by rw[T];exact au hi)
   exact((tH hv x hx).A0 (bp (λ_=>False) u) λ_ _ _ a0=>a0.elim).A6 λk e _=>.inl e
theorem aGy{b wr q w1:E}{B j g1 o1 c1 g:Nat}{S:List dU}{x:dU}{l:Option ac}{m:G}{z:ByteArray}(N:S[j]?=J x)(u:encS x.1.1=V z)(K:B<b.heap.size)(A:wr.heap[B]?=J (H #[U X 6,Y D,U Z 0,V ⟨#[]⟩,m,I l j g] 34 (0,0)))
 (p:aR 1 9 wr (I l j g) j ((S.take j).map λx=>encS x.1.1))(f:aR 6 34 wr m j ((S.take j).map (·.2)).flatten)(c:∀k,(I l j g).ownBlock=J k->b.heap.size<=k)(t:∀k,m.ownBlock=J k->b.heap.size<=k)(n:Keeps (λk=>k=B) b wr)(d:Keeps (λ_=>False) wr q)
 (i:aR 1 9 w1 (I (J ⟨g1,o1,O⟩) (j+1) c1) (j+1) (((S.take j).map λx=>encS x.1.1)++ [V z]))(v:(I l j g).ownBlock=J g1\/q.heap.size<=g1)(r:Keeps (λk=>(I l j g).ownBlock=J k) q w1):
 (w1.setCell ⟨B,5,O⟩ (I (J ⟨g1,o1,O⟩) (j+1) c1)).heap[B]?=J (H #[U X 6,Y D,U Z 0,V ⟨#[]⟩,m,I (J ⟨g1,o1,O⟩) (j+1) c1] 34 (0,0))/\
 aR 1 9 (w1.setCell ⟨B,5,O⟩ (I (J ⟨g1,o1,O⟩) (j+1) c1)) (I (J ⟨g1,o1,O⟩) (j+1) c1) (j+1) ((S.take (j+1)).map λx=>encS x.1.1)/\aR 6 34 (w1.setCell ⟨B,5,O⟩ (I (J ⟨g1,o1,O⟩) (j+1) c1)) m j ((S.take j).map (·.2)).flatten/\
 (∀k,(I (J ⟨g1,o1,O⟩) (j+1) c1).ownBlock=J k->b.heap.size<=k)/\Keeps (λk=>k=B) b (w1.setCell ⟨B,5,O⟩ (I (J ⟨g1,o1,O⟩) (j+1) c1)):=by
 have T:=n.size;have P:=d.size;have w:w1.heap[B]?=_:=r.C4 (d.C4 A id) (λe=>by have:=c _ e;omega);have a:=(Q (λk=>k=B) w1).E9 5 (I (J ⟨g1,o1,O⟩) (j+1) c1);have C:b.heap.size<=g1:=v.elim (c g1) λe=>by omega
 have h:=(f.A0 d λ_ _=>id).A0 r (λk e s=>by
  obtain⟨c1,F⟩:=(p.A0 d λ_ _=>id).E4 s;obtain⟨c2,y⟩:=(f.A0 d λ_ _=>id).E4 e;rw[F]at y;cases y)
 refine⟨aB (o:=5) w _,?_,h.A0 a λk e s=>by have:=t k e;omega,λk e=>?_,?_⟩
 .rw[pO N,av,aw,u]
  exact i.A0 a λk e s=>by
   obtain rfl:g1=k:=by simpa[ag]using e
   omega
 .obtain rfl:g1=k:=by simpa[ag]using e
  exact C
 .exact(((n.B9 d λ_=>aj).B9 r λk e=>.inr (c k e))).E9 5 _
theorem aJZ(w:E)(a b c d e f:G):∀(j:Nat)(u:G),[a,b,c,d,e,f][j]?=J u->(w.alloc (H #[a,b,c,d,e,f] 34)).cell? ((⟨w.heap.size,0,O⟩:ac).add j)=J u:=λj u g=>by
 rw[cj,ck];exact(aA (ak w _)).trans (by simpa using g)
theorem aIu:kQ 31 34 6 88:=⟨underlying31,by decide,by
 have h:(prog.info? 34).map (λi=>(i.zero,i.size,i.bytes))=J (J (.agg #[U X 0,Y D,U Z 0,V ⟨#[]⟩,I O 0 0,I O 0 0]),6,88):=by kernel_rfl
 obtain⟨i,c,a,d,b⟩:=info_parts h;exact⟨i,_,c,a,d,b,rfl⟩⟩
theorem aGz{f wr u w1:E}{B j g1 o1 c1 h:Nat}{S:List dU}{x:dU}{i:Option ac}{t:G}{F:Int}{K:Bool}{N:Nat}{P:ByteArray}{a b:Option ac}{T W p q:Nat}(hx:S[j]?=J x)(v:x.2=eV F K N P (I a T W) (I b p q))(hBs:B<f.heap.size)(hb:wr.heap[B]?=J (H #[U X 6,Y D,U Z 0,V ⟨#[]⟩,I i j h,t] 34 (0,0)))
 (l:aR 1 9 wr t (j+1) ((S.take (j+1)).map λx=>encS x.1.1))(w:aR 6 34 wr (I i j h) j ((S.take j).map (·.2)).flatten)(m:∀k,t.ownBlock=J k->f.heap.size<=k)(d:∀k,(I i j h).ownBlock=J k->f.heap.size<=k)(n:Keeps (λk=>k=B) f wr)(g:Keeps (λ_=>False) wr u)
 (r:aR 6 34 w1 (I (J ⟨g1,o1,O⟩) (j+1) c1) (j+1) (((S.take j).map (·.2)).flatten++ [U X F,Y K,U Z N,V P,I a T W,I b p q]))(y:(I i j h).ownBlock=J g1\/u.heap.size<=g1)(z:Keeps (λk=>(I i j h).ownBlock=J k) u w1):
 aKF f B S (j+1) (w1.setCell ⟨B,4,O⟩ (I (J ⟨g1,o1,O⟩) (j+1) c1)):=by
 have z1:=n.size;have z2:=g.size;have A:w1.heap[B]?=_:=z.C4 (g.C4 hb id) (λe=>by have:=d _ e;omega);have c:=(Q (λk=>k=B) w1).E9 4 (I (J ⟨g1,o1,O⟩) (j+1) c1);have hg:f.heap.size<=g1:=y.elim (d g1) λe=>by omega
 have s:=(l.A0 g λ_ _=>id).A0 z (λk e C=>by
  obtain⟨c1,h1⟩:=(w.A0 g λ_ _=>id).E4 C;obtain⟨c2,h2⟩:=(l.A0 g λ_ _=>id).E4 e;rw[h1]at h2;cases h2)
 refine⟨t,_,aB (o:=4) A _,s.A0 c λk e C=>by have:=m k e;omega,?_,m,λk e=>?_,(((n.B9 g λ_=>aj).B9 z λk e=>.inr (d k e))).E9 4 _⟩
 .rw[pO hx,av,aw,dS,v]
  exact r.A0 c λk e C=>by
   obtain rfl:g1=k:=by simpa[ag]using e
   omega
 .obtain rfl:g1=k:=by simpa[ag]using e
  exact hg
theorem aGA(F:Nat->Prop)(w:E)(K a0:G)(keys:List (List UInt8))(items:List Tr)(css:List (List G))(hk:Win 9 encS w K keys)(hw:aR 6 34 w a0 items.length css.flatten)(hv:lU F w css items)(hl:items.length=keys.length)(hn:keys.length<=65536)(hr:bH keys)(hnd:keys.Nodup):
 Calls prog 171 #[K,a0] w λe w'=>∃a n m b p q,e=bk (.agg #[U X 6,Y D,U Z 0,V ⟨#[]⟩,I a n m,I b p q])/\ValAt (λk=>F k\/w.heap.size<=k) w' (eV 6 D 0 ⟨#[]⟩ (I a n m) (I b p q)) (.object (cV keys) (besides keys items))/\R w.heap.size w w':=by
 obtain⟨ka,kc,rfl⟩:=hk.A8;obtain⟨va,vc,rfl⟩:=hw.A8;obtain⟨n,f⟩:∃n,keys.length=n:=⟨_,rfl⟩;rw[hl,f]at hw;rw[f]at hk hn;have HP:=L (aGx hk hw hv hl f);have hok:iR (gP keys items css):=aGv hv λk h=>⟨(hr k h).1,by have:=(hr k h).2;omega⟩
 have hln:(gP keys items css).length=n:=by rw[wA hl (by rw[hv.1];exact hl),f]
 have HX:=L (And.intro hv (And.intro hl (And.intro f (And.intro hr hnd))));obtain⟨l,hll⟩:∃l,gP keys items css=l:=⟨_,rfl⟩;rw[hll]at hok hln HP;have HL:=L (And.intro hll (And.intro hok hln));have HM0:=L (show aGw w l 0 (I O 0 0) (w.alloc (H #[U X 0,Y D,U Z 0,V ⟨#[]⟩,I O 0 0,I O 0 0] 34))from⟨.E0 _ _ _,λk e=>(by cases e),ba _ _⟩);rw[hl,f];clear hk hw hv hl hr hnd hok hln hll f;go_enter func171,ntmps171;go_wp2_with fail
 go_loopw [5,6] (λo v wr=>∃i:Nat,v=U X i/\i<=n/\M (aGw w l i o wr)) (λ_ v _=>n-(ao v).toNat)
 case atStart=>exact⟨0,rfl,bc _,HM0⟩
 case round=>
  obtain⟨i,rfl,hi,HM⟩:=hrel;obtain⟨oa,oc,rfl⟩:=aR.A8 HM.o.1;have hto:(l.take i).length=i:=by rw[az,HL.o.2.2];omega
  rw[hto]at HM⊢;clear hto
  by_cases hin:i<n
  .have e1:(i:Int)<(n:Int):=by omega
   have e0:(0:Int)<=(i:Int):=by omega
   obtain⟨kg,ko,vg,vo,k,t,y,A,C,T,P,a,N,m1,b,p,q,rfl,rfl,hkx,hmem,hcs⟩:=HP.o i hin
   have hbw:R w.heap.size w wr:=by
    obtain⟨_,_,h3⟩:=HM.o;exact((ba w.heap.size w).alloc (af _) _).trans (h3.mono (by omega))
   obtain⟨d0,d1,d2,d3,d4,d5,d6⟩:=hcs wr hbw;have HD:=L (And.intro hkx hmem);have HCS:=L hcs;have HBL:=L (λ(w':E)(hkk:Keeps (λk=>(I oa i oc).ownBlock=J k) (wr.drew.alloc (H #[V y,U X A,Y C,U Z T,V P,I a N m1,I b p q] 336)) w')=>show R w.heap.size w w' from(hbw.trans (((Q (λ_=>False) wr).A9.A4 (H #[V y,U X A,Y C,U Z T,V P,I a N m1,I b p q] 336)).B3 hbw.size λ_=>aj)).trans (hkk.B3 (cg hbw.size (by simp)) λk e=>bu (HM.o.2.1 k e)));clear hcs hbw hkx hmem
   have HW:=L (λ(h:(l.take i).length=i)=>show aR 7 336 (wr.drew.alloc (H #[V y,U X A,Y C,U Z T,V P,I a N m1,I b p q] 336)) (I oa i oc) i ((l.take i).map lD).flatten from by
    have h2:=aR.A0 HM.o.1 ((Q (λ_=>False) wr).A9.A4 (H #[V y,U X A,Y C,U Z T,V P,I a N m1,I b p q] 336)) λ_ _=>id
    rwa[h]at h2)
   have HNW:=L (lZ wr.drew (V y) (U X A) (Y C) (U Z T) (V P) (I a N m1) (I b p q));have HTO:=L (show(l.take i).length=i by rw[az,HL.o.2.2];omega);have HBM:=L (show(i+1)*104<=140737488355328/\i+1<=ar from⟨by omega,by unfold ar;omega⟩);go_wp2_with fail
   go_region_held3 (λw'=>w'.cell? ⟨kg,ko+i,O⟩=J (V y)/\w'.cell? ⟨vg,vo+i*6,O⟩=J (U X A)/\w'.cell? ⟨vg,vo+i*6+1,O⟩=J (Y C)/\w'.cell? ⟨vg,vo+i*6+2,O⟩=J (U Z T)/\w'.cell? ⟨vg,vo+i*6+3,O⟩=J (V P)/\w'.cell? ⟨vg,vo+i*6+4,O⟩=J (I a N m1)/\w'.cell? ⟨vg,vo+i*6+5,O⟩=J (I b p q)) (first|with_reducible exact hS|go_keep)
    ((refine bO rF rfl _ _ rfl rfl (HW.o HTO.o) ⟨wr.heap.size,0,O⟩ 1 1 [V y,U X A,Y C,U Z T,V P,I a N m1,I b p q] (by rfl) (by rfl) HNW.o (by intro u hu;simp at hu;rcases hu with rfl|rfl|rfl|rfl|rfl|rfl|rfl<;>rfl) (by decide) HBM.o.1 HBM.o.2 ?_;intro g' off' cap' w' hwin hgb hkk;have hS:=HCS.o w' (HBL.o w' hkk)))
   all_goals
    have HF:=L (And.intro hwin (And.intro hgb hkk));clear hwin hgb hkk hS;go_wp2_with fail;exact⟨⟨i+1,by go_num,by omega,L (HM.o.I8 HD.o.2 ((Q (λ_=>False) wr).A9.A4 _) (by unfold lD;rw[HD.o.1];exact HF.o.1) (HF.o.2.1.imp id λh=>h.1) HF.o.2.2)⟩,by simp[ao];omega⟩
  .have e1:¬(i:Int)<(n:Int):=by omega
   have hie:i=n:=by omega
   have HMn:=L (show aGw w l n (I oa n oc) wr from hie▸HM.o);subst hie;have HO:=L (λ(hl1:l.take i=l)=>rG l.length l wr (I oa i oc) (af _) (by rw[HL.o.2.2];omega) HL.o.2.1 (by have:=HM.o.1;rwa[hl1]at this));have HLT:=L (show l.take i=l from bx (by rw[HL.o.2.2];exact af _));go_wp2_with fail;refine(HO.o HLT.o).mono ?_;rintro e w3 ⟨sa,sc,rfl,hsort⟩;rw[HL.o.2.2]at hsort⊢;have HS:=L hsort;clear hsort;go_wp2_with fail;have hSl:(dM l).length=i:=by rw[pN,HL.o.2.2]
   have hSk:=sO HL.o.2.1;have HSS:=L (And.intro hSl hSk);clear hSl hSk;obtain⟨S,hS⟩:∃S,dM l=S:=⟨_,rfl⟩;have HSE:=L hS;rw[hS]at HSS;obtain⟨B,hB⟩:∃B,w3.heap.size=B:=⟨_,rfl⟩;rw[hB];obtain⟨w0,hw0⟩:∃w0,w3.alloc (H #[U X 6,Y D,U Z 0,V ⟨#[]⟩,I O 0 0,I O 0 0] 34)=w0:=⟨_,rfl⟩;rw[hw0]
   have hSg:bL w0 (I sa i sc) S:=by
    rw[<-hw0,<-hS];exact HS.o.2.1.A0 ((Q (λ_=>False) w3).A4 _) λ_ _=>id
   have hSb:∀k,(I sa i sc).ownBlock=J k->k≠B:=λk e e2=>by
    have:=bg HS.o.2.1 e;omega
   have hwB:w0.heap[B]?=J (H #[U X 6,Y D,U Z 0,V ⟨#[]⟩,I O 0 0,I O 0 0] 34 (0,0)):=by rw[<-hw0,<-hB];exact ak w3 _
   have d:=L (And.intro hSg (And.intro hSb (And.intro hwB (And.intro hB hw0))));have HM2:=L (show aKF w0 B S 0 w0 from⟨I O 0 0,I O 0 0,hwB,.E0 _ _ _,.E0 _ _ _,λk e=>(by cases e),λk e=>(by cases e),Q _ _⟩)
   have hR4:w0.heap[w.heap.size]?=J (H #[U X 0,Y D,U Z 0,V ⟨#[]⟩,I O 0 0,I O 0 0] 34 (0,0)):=by
    rw[<-hw0];have h1:=HMn.o.2.2;have h2:=(h1.block w.heap.size (by omega)).trans (ak w _);exact((Q (λ_=>False) w3).A4 _).C4 (keep h2 HS.o.1) id
   have hB4:w.heap.size<B:=by
    have h1:=HMn.o.2.2.size;have h2:=HS.o.1.size;simp at h1;omega
   have hBw:R w.heap.size w w0:=by
    rw[<-hw0];have h1:=HMn.o.2.2;have h0:=((ba w.heap.size w).alloc (af _) (H #[U X 0,Y D,U Z 0,V ⟨#[]⟩,I O 0 0,I O 0 0] 34)).trans (h1.mono (by omega));exact(chain h0 HS.o.1).alloc (chain h0 HS.o.1).size _
   have HR4:=L (And.intro hR4 (And.intro hB4 hBw));clear hSg hSb hwB hw0 hS hB hR4 hB4 hBw
   go_loopw [8] (λv wr=>∃j:Nat,v=U X j/\j<=i/\M (aKF w0 B S j wr)) (λv _=>i-(ao v).toNat)
   case atStart=>exact⟨0,rfl,bc _,HM2⟩
   case round=>
    obtain⟨j,rfl,hj,HMJ⟩:=hrel
    by_cases hji:j<i
    .have j1:(j:Int)<(i:Int):=by omega
     have j0:(0:Int)<=(j:Int):=by omega
     obtain⟨Kv,Vv,hb,z,s,hko,hvo,r⟩:=HMJ.o;obtain⟨qa,qc,rfl⟩:=z.A8;obtain⟨ra,rc,rfl⟩:=s.A8;obtain⟨x,hx⟩:∃x,S[j]?=J x:=⟨_,ai (by rw[HSS.o.1];exact hji)⟩;obtain⟨⟨A,C,T,P,a,N,m1,b,p,q,hx2⟩,_,_⟩:=HSS.o.2 x (au hx)
     obtain⟨sg,sf,scap,hsa⟩:∃sg sf scap,(I sa i sc)=I (J ⟨sg,sf,O⟩) i scap:=by
      rcases d.o.1 with⟨_,⟨_,hn⟩|⟨g,off,cap,cur,e,_⟩⟩
      .rw[HSS.o.1]at hn;omega
      .rw[HSS.o.1]at e;exact⟨g,off,cap,e⟩
     injection hsa with z1 z2 z3
     subst z1;subst z3;clear z2;obtain⟨y,hkx⟩:∃y:ByteArray,encS x.1.1=V y:=⟨_,rfl⟩;have HCS:=L (λ(W:E)(hW:Keeps (λk=>k=B) w0 W)=>bL.C8 (d.o.1.A0 hW d.o.2.1) HSS.o.2 hx hx2);rw[hkx]at HCS;obtain⟨d0,-,-,-,-,-,-⟩:=HCS.o wr r;obtain⟨-,-,-,-,-,b5,-⟩:=bN hb;have HX2:=L (And.intro hx (And.intro hx2 hkx));have n3:¬sg=B:=d.o.2.1 sg rfl
     have c:=L (And.intro hb (And.intro z (And.intro s (And.intro hko (And.intro hvo r)))));have HBM:=L (show((j+1)*16<=140737488355328/\j+1<=ar)/\(j+1)*88<=140737488355328 from⟨⟨by omega,by unfold ar;omega⟩,by omega⟩);clear hb z s hko hvo r hx hx2 hkx;have HWX:=L (c.o.2.1.A0 ((Q (λ_=>False) wr).A9.A4 (H #[V y] 9)) λ_ _=>id)
     have HNC:=L (show ∀(j:Nat)(u:G),[V y][j]?=J u->(wr.drew.alloc (H #[V y] 9)).cell? ((⟨wr.heap.size,0,O⟩:ac).add j)=J u from λj u hj=>by
      rw[cj,ck];exact(aA (ak wr.drew _)).trans (by simpa using hj))
     have HQ:=L (show ∀w1,Keeps (λk=>(I qa j qc).ownBlock=J k) (wr.drew.alloc (H #[V y] 9)) w1->w1.heap[B]?=J (H #[U X 6,Y D,U Z 0,V ⟨#[]⟩,I ra j rc,I qa j qc] 34 (0,0))/\w1.cell? ⟨sg,sf+j*7,O⟩=J (V y)from λw1 hk=>by
      have hBs:=ah d.o.2.2.1;have hq:=(Q (λ_=>False) wr).A9.A4 (H #[V y] 9);have hsg:sg<w0.heap.size:=bg d.o.1 rfl;exact⟨hk.C4 (hq.C4 c.o.1 id) (λe=>by have:=c.o.2.2.2.1 _ e;omega),hk.B5 (hq.B5 (HCS.o wr c.o.2.2.2.2.2).1 id) (λe=>by have:=c.o.2.2.2.1 _ e;simp at this;omega)⟩)
     have HMK:=L (λ(w1:E)(g1 o1 c1:Nat)=>aGy (w1:=w1) (g1:=g1) (o1:=o1) (c1:=c1) HX2.o.1 HX2.o.2.2 (ah d.o.2.2.1) c.o.1 c.o.2.1 c.o.2.2.1 c.o.2.2.2.1 c.o.2.2.2.2.1 c.o.2.2.2.2.2 ((Q (λ_=>False) wr).A9.A4 (H #[V y] 9)));go_wp2_with fail;have a5:=((Q (λ_=>False) wr).A4 (H #[V y] 9)).B5 b5 id
     go_region_law (refine bO rA rfl _ _ rfl rfl HWX.o ⟨wr.heap.size,0,O⟩ 1 1 [V y] (by rfl) (by rfl) HNC.o (by intro u hu;simp at hu;subst hu;rfl) (by decide) HBM.o.1.1 HBM.o.1.2 ?_;intro g1 o1 c1 w1 hwin1 hgb1 hkk1;have hq1:=HQ.o w1 hkk1;obtain⟨-,-,-,-,-,f5,ff⟩:=bN hq1.1;clear hq1)
     all_goals
      have H1:=L (HMK.o w1 g1 o1 c1 hwin1 (hgb1.imp id λh=>h.1) hkk1);clear hwin1 hgb1 hkk1 a5 f5 ff b5 d0;go_wp2_with fail;obtain⟨W1,hW1⟩:∃W1,w1.setCell ⟨B,5,O⟩ (I (J ⟨g1,o1,O⟩) (j+1) c1)=W1:=⟨_,rfl⟩;have h1:=H1.o;rw[hW1]at h1⊢;obtain⟨hb1,hkw1,hvw1,hko1,hkp1⟩:=h1;obtain⟨_,d1,d2,d3,d4,d5,d6⟩:=HCS.o W1 hkp1;obtain⟨-,-,-,-,b4,-,-⟩:=bN hb1;have H2:=L (And.intro hb1 (And.intro hkw1 (And.intro hvw1 (And.intro hko1 hkp1))));have HWY:=L (hvw1.A0 ((Q (λ_=>False) W1).A9.A4 (H #[U X A,Y C,U Z T,V P,I a N m1,I b p q] 34)) λ_ _=>id);have HNY:=L (aJZ W1.drew (U X A) (Y C) (U Z T) (V P) (I a N m1) (I b p q))
      have HQY:=L (show ∀w',Keeps (λk=>(I ra j rc).ownBlock=J k) (W1.drew.alloc (H #[U X A,Y C,U Z T,V P,I a N m1,I b p q] 34)) w'->w'.heap[B]?=J (H #[U X 6,Y D,U Z 0,V ⟨#[]⟩,I ra j rc,I (J ⟨g1,o1,O⟩) (j+1) c1] 34 (0,0))/\w'.cell? ⟨sg,sf+j*7+1,O⟩=J (U X A)/\w'.cell? ⟨sg,sf+j*7+2,O⟩=J (Y C)/\w'.cell? ⟨sg,sf+j*7+3,O⟩=J (U Z T)/\w'.cell? ⟨sg,sf+j*7+4,O⟩=J (V P)/\w'.cell? ⟨sg,sf+j*7+5,O⟩=J (I a N m1)/\w'.cell? ⟨sg,sf+j*7+6,O⟩=J (I b p q)from λw' hk=>by
       have hBs:=ah d.o.2.2.1;have hq:=(Q (λ_=>False) W1).A9.A4 (H #[U X A,Y C,U Z T,V P,I a N m1,I b p q] 34);have hsg:sg<w0.heap.size:=bg d.o.1 rfl;have hF:¬(I ra j rc).ownBlock=J sg:=λe=>by have:=c.o.2.2.2.2.1 _ e;omega
       obtain⟨_,d1,d2,d3,d4,d5,d6⟩:=HCS.o W1 H2.o.2.2.2.2;exact⟨hk.C4 (hq.C4 H2.o.1 id) (λe=>by have:=c.o.2.2.2.2.1 _ e;omega),hk.B5 (hq.B5 d1 id) hF,hk.B5 (hq.B5 d2 id) hF,hk.B5 (hq.B5 d3 id) hF,hk.B5 (hq.B5 d4 id) hF,hk.B5 (hq.B5 d5 id) hF,hk.B5 (hq.B5 d6 id) hF⟩)
      have HMV:=L (λ(w':E)(g' o' c':Nat)=>aGz (w1:=w') (g1:=g') (o1:=o') (c1:=c') HX2.o.1 HX2.o.2.1 (ah d.o.2.2.1) H2.o.1 H2.o.2.1 H2.o.2.2.1 H2.o.2.2.2.1 c.o.2.2.2.2.1 H2.o.2.2.2.2 ((Q (λ_=>False) W1).A9.A4 (H #[U X A,Y C,U Z T,V P,I a N m1,I b p q] 34)));clear hb1 hkw1 hvw1 hko1 hkp1 hW1;have a4:=((Q (λ_=>False) W1).A4 (H #[U X A,Y C,U Z T,V P,I a N m1,I b p q] 34)).B5 b4 id
      go_region_law (refine bO aIu rfl _ _ rfl rfl HWY.o ⟨W1.heap.size,0,O⟩ 1 1 [U X A,Y C,U Z T,V P,I a N m1,I b p q] (by rfl) (by rfl) HNY.o (by intro u hu;simp at hu;rcases hu with rfl|rfl|rfl|rfl|rfl|rfl<;>rfl) (by decide) HBM.o.2 HBM.o.1.2 ?_;intro g2 o2 c2 w2 hwin2 hgb2 hkk2;have hq2:=HQY.o w2 hkk2;obtain⟨-,-,-,-,f4,-,ff⟩:=bN hq2.1;clear hq2)
      all_goals
       have H3:=L (HMV.o w2 g2 o2 c2 hwin2 (hgb2.imp id λh=>h.1) hkk2);clear hwin2 hgb2 hkk2 f4 ff;go_wp2_with fail
       go_roundw
       case rel=>exact⟨j+1,by go_num,by omega,H3⟩
       case measure=>simp[ao];omega
    .have j1:¬(j:Int)<(i:Int):=by omega
     obtain rfl:j=i:=by omega
     obtain⟨Kv,Vv,hb,z,s,hko,hvo,r⟩:=HMJ.o;obtain⟨qa,qc,rfl⟩:=z.A8;obtain⟨ra,rc,rfl⟩:=s.A8;obtain⟨b0,b1,b2,b3,b4,b5,-⟩:=bN hb;have h4:=r.C4 HR4.o.1 (by have:=HR4.o.2.1;omega);obtain⟨r0,r1,r2,r3,r4,r5,rf⟩:=bN h4;have HP6:=L (aJY (U X 6) (Y D) (U Z 0) (V ⟨#[]⟩) (I ra j rc) (I qa j qc) h4)
     have c:=L (And.intro z (And.intro s (And.intro hko (And.intro hvo r))));clear hb z s hko hvo r h4;go_wp2_with fail;obtain⟨s0,s1,s2,s3,s4,s5,_⟩:=bN HP6.o.1;obtain⟨z,s,hko,hvo,r⟩:=c.o;obtain⟨hv,hl,f,hr,hnd⟩:=HX.o;have hfin:=aIt hv hl f hr hnd HL.o.1 HSE.o z s hko hvo HR4.o.2.2 r HR4.o.2.1 (ah d.o.2.2.1) HP6.o.2;exact bodyPost_ret (v:=.agg #[U X 6,Y D,U Z 0,V ⟨#[]⟩,I ra j rc,I qa j qc]) (by simp[results,results171,go_sem,s0,s1,s2,s3,s4,s5]) rfl ⟨ra,j,rc,qa,j,qc,rfl,hfin.1,hfin.2⟩

theorem yR{x y:Ps}{c:UInt8}(h:x.E2 c=.ok y):y.place=x.place:=by
 unfold Ps.E2 at h;split at h
 .injection h with h;rw[<-h]
 .exact(iI h).2.1
theorem aFe{x y:Ps}{c:UInt8}(f:eY x)(h:x.B0 po c=.ok y):x.place≠16777216/\y.place=x.place+1:=by
 have a:x.B0 po c=mS c (x.lex.B0 c) (co po {x with lex:=(x.lex.B0 c).1} (x.lex.B0 c).2.1):=rfl;rw[a]at h;cases d:co po {x with lex:=(x.lex.B0 c).1} (x.lex.B0 c).2.1 with
 | error e=>rw[d]at h;cases h
 | ok z=>
  rw[d]at h;have i:z.place=x.place:=(lL d).2;unfold mS at h;simp only at h;split at h
  .cases h
  .rename_i g;refine⟨λj=>g ?_,?_⟩
   .unfold Lx.B0;rw[if_pos (by rw[<-f.place];exact j)]
    show(3:Nat)≠0
    decide
   .split at h
    .cases h
    .rename_i q b;injection h with h
     rw[<-h]
     show q.place+1=x.place+1
     split at b
     .rw[yR b,i]
     .injection b with b;rw[<-b,i]
theorem aBk{p q:Ps}{c:UInt8}{t:List UInt8}(h:p.B0 po c=.ok q):p.D7 po (c::t)=q.D7 po t:=by
 unfold cr;rw[ct,h];rfl
theorem yS{p:Ps}{c:UInt8}{t:List UInt8}{e:Nat×Nat}(h:p.B0 po c=bh e):p.D7 po (c::t)=bh e:=by
 unfold cr;rw[ct,h];rfl
theorem xO:∀{l:List UInt8}{x y:Ps},eY x->x.place<=16777216->x.D7 po l=.ok y->x.place+l.length<=16777216
 | [],x,y,_,d,_=>by simpa using d
 | c::l,x,y,a,d,h=>by
  cases b:x.B0 po c with
  | error e=>rw[yS b]at h;cases h
  | ok z=>
   rw[aBk b]at h;obtain⟨g,f⟩:=aFe a b;have:=xO (a.B0 b) (by omega) h;simp only[List.length_cons];omega
theorem aDc{l:List UInt8}{d:Nat}(b:d<=512)(h:16777216<l.length):∃e,jW l d=bh e:=by
 have c:jW l d=oneOf (cu po l d):=rfl;cases a:(Ps.I0 d).D7 po l with
 | error e=>exact⟨e,by rw[c];unfold cu;rw[a];rfl⟩
 | ok y=>
  have:=xO (oQ d b) (bc _) a;have f:(Ps.I0 d).place=0:=rfl;omega
end Go.Proofs.YtakkmiomhackiaaGreatDoor
