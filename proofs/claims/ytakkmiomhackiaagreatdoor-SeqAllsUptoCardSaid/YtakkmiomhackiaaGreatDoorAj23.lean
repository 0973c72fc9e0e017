/-
  The program, one part of its walk. Conditions: none.
-/
import Derived.Test.YtakkmiomhackiaaGreatDoorAj20
import Derived.Test.YtakkmiomhackiaaGreatDoorAj22
set_option linter.all false
set_option maxRecDepth 100000
set_option maxHeartbeats 16000000
open Go.Proofs.Tryz
open Bool renaming false->D,true->C
open Except renaming error->az
open Go renaming Addr->bh,Calls->ah,TypeId->cu,Value->Z,World->K,lt_of_block->dp,maxLen->bk
open Go.Proofs.Tryz renaming func65->bw,func96->bm,ntmps65->bx,ntmps96->bp,prog->ac
open List renaming getElem?_of_mem->cz,getElem?_zip_eq_some->aw
open Option renaming none->I,some->S
open Or renaming inl->U,inr->L
namespace Go.Proofs.YtakkmiomhackiaaGreatDoor
open Go.RowKit
open Addr renaming add->dj
open Ending renaming returned->ai
open Instr renaming typeAssert->dq
open IntKind renaming i64->J
open Lib renaming bytesOf->dw,indexByte->av
open Obj renaming cells->E
open Keeps renaming A2->bz,A4->ak
open RowKit renaming Below->bg
open Value renaming agg->ae,bool->P,iface->aj,int->O,nilIface->af,pointer->Q,slice->R,tuple->au
open World renaming setCell->cg
variable {keys:List Oo}{a:List Tr}{b:List (List Z)}{F G:Nat->Prop}{w w':K}{v:Z}{l:Oo}{r:Nat}
def aMF(b:Bool)(d a:Nat)(c:List UInt8):Option (Nat×Nat):=
 if b=D then S (260,0)else if 16777216<a then S (3,d+16777216)else if c.getLast?≠S 10 then S (261,d+a)else I
def aOE(o:Option (Nat×Nat)):Z:=match o with
 | some (no,a)=>cU no a
 | none=>af
def aM7(w:K)(r h b:Nat)(i:Bool)(B F G H k:Z)(l:Oo)(y:w.heap[r]?=S (E #[B,F,i,G,k,h,b,H] 159 (0,0)))(p:aQ 1 5 w k l.length (l.map bZ))(X:1<=b)(Y:l.length=min b 16777217)
 (hf:h<=4611686018427387904)(hz:b<=4611686018427387904):
 ah ac 96 #[Q r] w λe w'=>e=ai (aOE (aMF i h b l))/\bg w w w':=by
 obtain⟨-,-,c2,-,N,c5,c6,-,-⟩:=aMA y;unfold aMF;cases i with
 | false=>
  rw[pz rfl];clear y p;go_enter bm,bp;go_wp2;go_ret;exact⟨rfl,dk _ _⟩
 | true=>
  rw[py (by decide)];by_cases f:16777216<b
  .rw[pz f];have T:(16777216:Int)<(b:Int):=(by omega);have v:J.wrap ((h:Int)+16777216)=(h:Int)+16777216:=(by rw[b9];omega);clear y p f;go_enter bm,bp;go_wp2;go_ret;exact⟨rfl,dk _ _⟩
  .rw[py f];have T:(b:Int)<=16777216:=(by omega);have t:l.length=b:=(by omega);obtain⟨a,tc,x⟩:=p.A8;subst x
   obtain⟨g,off,rfl⟩:∃g off,a=S ⟨g,off,I⟩:=by
    rcases p.2 with⟨_,q⟩|⟨g,off,cap,o,j,_⟩
    .omega
    .injection j with m _ _;exact⟨g,off,m⟩
   obtain⟨n,u⟩:∃n,l.length=n+1:=⟨l.length-1,by omega⟩
   have q:∃c,l.getLast?=S c/\w.cell? ⟨g,off+n,I⟩=S (O .u8 ((c.toNat:Nat):Int)):=by
    have m:n<l.length:=(by omega);refine⟨l[n],by rw[List.getLast?_eq_getElem?,u,Nat.add_sub_cancel,bf m],?_⟩;rcases p.2 with⟨j,_⟩|⟨W,s,z,o,j,V,hc,ho,hm,hi⟩
    .cases j
    .cases j;rw[aA V];refine hi n _ ?_;rw[ed,bf m];rfl
   obtain⟨c,o,s⟩:=q;rw[u]at N;have z:J.wrap ((n:Int)+1-1)=(n:Int):=(by rw[b9];omega);have V:n<=16777216:=(by omega);have W:J.wrap (n:Int)=(n:Int):=(by rw[b9];omega);have v:J.wrap ((h:Int)+(b:Int))=(h:Int)+(b:Int):=(by rw[b9];omega);by_cases j:c=10
   .have m:¬l.getLast?≠S 10:=(by rw[o,j];simp);rw[py m];rw[j]at s;clear y p f o m u t j;go_enter bm,bp;go_wp2;go_region;go_wp2;go_ret;exact⟨rfl,(dk _ _).drew⟩
   .have m:l.getLast?≠S 10:=(by rw[o];intro e;exact j (mz e));rw[pz m];obtain⟨-,-,n3⟩:=aD (c:=c) (d:=10) (n:=10) j rfl;clear y p f o m u t j;go_enter bm,bp;go_wp2;go_region;go_wp2;go_region;go_wp2;go_ret;exact⟨rfl,(dk _ _).drew.drew⟩
def gR(keys:List (List UInt8))(a:List Tr)(b:List (List Z)):List eA:=(keys.zip a).zip b
def aHO{i:Nat}{k:Oo}{t:Tr}{c:List Z}(e:keys[i]?=S k)(d:a[i]?=S t)(f:b[i]?=S c):(gR keys a b)[i]?=S ((k,t),c):=by
 unfold gR;rw[aw,aw];exact⟨⟨e,d⟩,f⟩
def yQ(d:a.length=keys.length)(c:b.length=keys.length):(gR keys a b).length=keys.length:=by
 unfold gR;simp;omega
def aFl(d:a.length=keys.length)(c:b.length=keys.length):(gR keys a b).map (·.1)=keys.zip a:=by
 unfold gR;exact List.map_fst_zip (by simp;omega)
def aLo(F:Nat->Prop)(w:K)(l:List eA):Prop:=∀x∈l,ValAt F w x.2 x.1.2
def vJ(h:l5 F w b a):aLo F w (gR keys a b):=by
 intro x c;obtain⟨i,hi⟩:=cz c;unfold gR at hi;rw[aw,aw]at hi;exact h.2 i _ _ hi.2 hi.1.2
def aHP(h:l5 F w b a)(f:∀k∈keys,aV k=C/\k.length<=1073741824):iZ (gR keys a b):=by
 intro x c;have e:=vJ (keys:=keys) h x c;obtain⟨i,hi⟩:=cz c;unfold gR at hi;rw[aw,aw]at hi;have d:x.1.1∈keys:=List.mem_of_getElem? hi.1.1;exact⟨e.A8,f _ d⟩
def aHQ(w:K)(l:List eA)(i:Nat)(o:Z)(wr:K):Prop:=bN wr o (l.take i)/\(∀k,o.ownBlock=S k->w.heap.size<k)/\bg (w.heap.size+1) (w.alloc (E #[O J 0,P D,O .u64 0,"",(),()] 34)) wr
def s6:∀(N:Nat)(l:List eA)(w:K)(V:Z),l.length<=N->l.length<=65536->iZ l->bN w V l->ah ac 192 #[V] w λe w'=>∃a c,e=ai (R a l.length c)/\qZ w V l (R a l.length c) w'
 | 0,l,w,V,j,_,_,b=>oT l w V (by omega) b
 | N+1,l,w,V,j,h,k,b=>by
  by_cases d:l.length<2
  .exact oT l w V d b
  .exact aAk l w V d h k b λm W g n i f=>s6 N m W g (by omega) (by omega) i f
def aNc:lB 157 162 2 24:=⟨underlying157,by decide,by
 have h:(ac.info? 162).map (λi=>(i.zero,i.size,i.bytes))=S (S (ae #[Q I,af]),2,24):=by kernel_rfl
 obtain⟨i,c,a,d,b⟩:=info_parts h;exact⟨i,_,c,a,d,b,rfl⟩⟩
def aMH(w:K)(a b:Z):Except (Nat×Nat) Tr->Prop
 | .error (no,c)=>a=Q I/\b=cU no c
 | .ok t=>b=af/\∃T v,a=Q (S ⟨T,0,I⟩)/\w.heap[T]?=S (E #[v] 176 (0,0))/\cS (λ_=>True) w v t
def aMS(w:K)(r n:Nat)(f:Z)(h:List Z)(g:Except (Nat×Nat) Tr)(c:Z->Array Z)(e:Ending)(w':K):Prop:=
 e=ai (au #[])/\∃d a b,w'.heap[r]?=S (E (c d) 159 (0,0))/\aQ 2 162 w' d (n+1) (h++ [a,b])/\aMH w' a b g/\(∀k,d.ownBlock=S k->f.ownBlock=S k\/(w.heap.size<=k/\k<w'.heap.size))/\Keeps (λk=>k=r\/f.ownBlock=S k) w w'
def aNs(w:K)(r:Nat)(d c b a f g i:Z)(h:w.heap[r]?=S (E #[d,c,b,a,f,g,O J 0,i] 159 (0,0))):ah ac 65 #[Q r] w λe w'=>e=ai (au #[])/\w'=w:=by
 obtain⟨-,-,-,-,-,-,j,-,-⟩:=aMA h;clear h;go_enter bw,bx;go_wp2_with fail;exact bb (md rfl _ _ _) rfl ⟨rfl,rfl⟩
def aNh(w:K)(r f a n no c:Nat)(b:Bool)(X Y v3 o d:Z)(l:Oo)(cs:List Z)(y:w.heap[r]?=S (E #[X,Y,b,v3,d,f,a,o] 159 (0,0)))(q:aQ 1 5 w d l.length (l.map bZ))(s:1<=a)(t:l.length=min a 16777217)
 (hf:f<=4611686018427387904)(hz:a<=4611686018427387904)(m:aQ 2 162 w o n cs)(hn:n<=1073741824)(i:aMF b f a l=S (no,c)):
 ah ac 65 #[Q r] w λe w'=>aMS w r n o cs (az (no,c)) (λu=> #[X,Y,b,v3,d,f,a,u]) e w':=by
 have h:=aM7 w r f a b _ _ _ _ _ l y q s t hf hz;rw[i]at h;have h:ah ac 96 #[Q r] w λe w'=>e=ai (aj 151 (ae #[no,c]))/\bg w w w':=h;obtain⟨-,-,-,-,-,-,T,V,-⟩:=aMA y;have e0:((a:Int)==0)=D:=by simp;omega
 have z:=A h;have H:=A y;have HR:=A m;have B:=A (m.ne y (by decide));obtain⟨ta,tc,F⟩:=m.A8;subst F;clear y q i h m s t;go_enter bw,bx;go_wp2_with fail;refine(z.o).mono ?_;rintro e w1 ⟨rfl,q⟩;have x:=keep H.o q;obtain⟨-,-,-,-,-,-,-,d7,-⟩:=aMA x;have i:Keeps (λ_=>False) w (w1.alloc (E #[Q I,aj 151 (ae #[no,c])] 162)):=(bz _ q).A5 _;have s:=A i;have G:=A (HR.o.A0 i (λ_ _=>id));have HH:=A (i.B4 H.o id)
 have t:∀j u,([Q I,aj 151 (ae #[no,c])]:List Z)[j]?=S u->(w1.alloc (E #[Q I,aj 151 (ae #[no,c])] 162)).cell? ((⟨w1.heap.size,0,I⟩:bh).add j)=S u:=by
  intro j u v;have m:(⟨w1.heap.size,0,I⟩:bh).add j=⟨w1.heap.size,0+j,I⟩:=by unfold dj;split<;>simp_all
  rw[m,aA (aL w1 _),jw];simpa using v
 have N:=A t
 have v:=A (show ∀u∈([Q I,aj 151 (ae #[no,c])]:List Z),u.oneCell'=C from λu hu=>by
  simp at hu;rcases hu with rfl|rfl<;>rfl)
 clear q x i t T V;go_wp2_with (at_builtin;refine bC aNc rfl _ _ rfl rfl G.o w1 1 1 [Q I,aj 151 (ae #[no,c])] rfl rfl N.o v.o (hU _) ?_ ?_ ?_)
 .omega
 .unfold bk;omega
 intro g off cap w' i t q;have m:=q.B4 HH.o B.o;obtain⟨-,-,-,-,-,-,-,e7,ef⟩:=aMA m;have HB:=A m;have x:=A i;have T:=A t;have V:=A q;have W:=A (i.ne m (by decide));clear m i t q d7;go_wp2_with fail;refine bb (md rfl _ _ _) rfl ?_;have i:Keeps (λk=>k=r) w' (w'.setCell ⟨r,7,I⟩ (R (g,off) (n+1) cap)):=(ak (λk=>k=r) w').A3 (p:=⟨r,7,I⟩) (U rfl) _;have m:Keeps (λk=>k=r\/(R ta n tc).ownBlock=S k) w w':=(s.o.mono (λ_ y=>y.elim)).trans V.o (λk e=>U (L e));refine⟨rfl,R (g,off) (n+1) cap,_,_,aB HB.o _,x.o.A0 i (λk e t=>W.o (e.trans (congrArg S t))),⟨rfl,rfl⟩,?_,m.same (i.mono λk e=>U e)⟩;intro k' q;cases q;exact T.o.imp id (λy=>⟨bo s.o.size (by rw[World.size_alloc];exact y.1),a7 y.2 i.size⟩)
def aMK(b:Nat)(c:Except (Nat×Nat) Tr):Except (Nat×Nat) Tr:=match c with
 | .error (no,a)=>az (no,a+b)
 | .ok t=>.ok t
def aNB{X:K}{n':Nat}{a b:Z}(h:n'=X.heap.size):∀(j:Nat)(u:Z),([a,b]:List Z)[j]?=S u->(X.alloc (E #[a,b] 162)).cell? ((⟨n',0,I⟩:bh).add j)=S u:=by
 intro j u d;have c:(⟨n',0,I⟩:bh).add j=⟨n',0+j,I⟩:=by unfold dj;split<;>simp_all
 subst h;rw[c,aA (aL X _),jw];simpa using d
def aNi{T:cu}(p:Option bh):(∀u∈([Q p,aj T v]:List Z),u.oneCell'=C)/\(∀u∈([Q p,af]:List Z),u.oneCell'=C):=
 ⟨λu a=>(by simp at a;rcases a with rfl|rfl<;>rfl),λu a=>(by simp at a;rcases a with rfl|rfl<;>rfl)⟩
def aNj{d no a:Nat}(c:d<=512)(h:mP l d=az (no,a)):a<=16777216:=by
 unfold mP oneOf at h;cases b:Ps.F5 po l d with
 | error e=>obtain⟨f,a2⟩:=e;rw[b]at h;cases h;exact aOe c b
 | ok y=>rw[b]at h;cases h
def aNt(h:aQ 1 5 w v l.length (l.map bZ))(c:∀k,v.ownBlock=S k->¬F k):BytesIn F w v l:=by
 rcases h.2 with⟨rfl,a⟩|⟨g,off,cap,d,rfl,b,j,-,f,hi⟩
 .exact⟨I,0,by rw[a],by omega,dr _,U (eb a)⟩
 .refine⟨_,cap,rfl,j,f,L ⟨g,off,rfl,c g rfl,λi x e=>?_⟩⟩;rw[aA b];refine hi i _ ?_;rw[ed,e];rfl
def aNu(w:K)(r f i n d:Nat)(v1 v3 h6 q:Z)(l:Oo)(cs:List Z)(a0:w.heap[r]?=S (E #[d,v1,P C,v3,q,f,i,h6] 159 (0,0)))(j:aQ 1 5 w q l.length (l.map bZ))(x:1<=i)(y:l.length=min i 16777217)
 (hf:f<=4611686018427387904)(hz:i<=4611686018427387904)(s:aQ 2 162 w h6 n cs)(hn:n<=1073741824)(m:aMF C f i l=I)(h1:1<=d)(h2:d<=512):
 ah ac 65 #[Q r] w λe w'=>aMS w r n h6 cs (aMK f (mP l d)) (λu=> #[d,v1,P C,v3,q,f,i,u]) e w':=by
 have h0:∀no c,mP l d=az (no,c)->c<=1073741824:=λno c a0=>bo (aNj h2 a0) (by decide);have V:=aM7 w r f i C _ _ _ _ _ l a0 j x y hf hz;rw[m]at V;have V:ah ac 96 #[Q r] w λe w'=>e=ai af/\bg w w w':=V;have i8:=A (λ(w1:K)(hb:bg w w w1)=>aEe w1.drew l d q h1 h2 (aNt (j.A0 (bz (λ_=>False) hb.drew) (λ_ _=>id)) (λk hk=>by have:=j.lt hk;have h3:=hb.size;show ¬w1.heap.size<=k;omega)) (by omega));obtain⟨-,-,-,-,c4,-,c6,c7,-⟩:=aMA a0;have e0:((i:Int)==0)=D:=by simp;omega
 have i9:=A V;have H:=A a0;have HR:=A s;have j8:=dp a0;have j0:=A (s.ne a0 (by decide));obtain⟨ta,tc,j3⟩:=s.A8;subst j3;obtain⟨oa,oc,j4⟩:=j.A8;subst j4;obtain⟨tr,h⟩:∃tr,mP l d=tr:=⟨_,rfl⟩;rw[h]at h0⊢;have j1:=A h;clear a0 j m V s x y h;cases tr with
 | error er=>
  obtain⟨no,c⟩:=er;have j7:=h0 no c rfl;have j5:∀w:K,(dq (aj 151 (ae #[O J no,O J c])) 26 151 C).run ac w=.ok (au #[ae #[O J no,O J c],P C]) w:=λ_=>by kernel_rfl
  have j9:J.wrap ((c:Int)+(f:Int))=(c:Int)+(f:Int):=by rw[b9];omega
  clear h0;go_enter bw,bx;go_wp2_with fail;refine(i9.o).mono ?_;rintro e w1 ⟨rfl,s⟩;have W:=keep H.o s;obtain⟨d0,-,-,-,d4,-,-,-,-⟩:=aMA W;have F:=A s;have N:=i8.o w1 s;rw[j1.o]at N;have i0:=A N;clear s W c4 c6 c7 N;go_wp2
  go_region_with (go_at_call 12;refine(i0.o).mono ?_;rintro e w2 ⟨h,he⟩;unfold cU at he;subst he)
  all_goals
   have j:Keeps (λ_=>False) w w2:=(bz _ F.o).same ⟨h.os,h.tape,h.output,h.size,h.block⟩;have m:=j.B4 H.o id;have k0:r<w2.heap.size:=dp m;have x:Keeps (λ_=>False) w (w2.alloc (E #[O J no,O J c] 151)):=j.A5 _;have Y:=x.B4 H.o id;have y:=aL w2 (E #[O J no,O J c] 151);have B:(w2.alloc (E #[O J no,O J c] 151)).cell? w2=S (O J no):=aA y;have s1:(w2.alloc (E #[O J no,O J c] 151)).cell? ⟨w2.heap.size,1,I⟩=S (O J c):=aA y;have sf:∀o,(w2.alloc (E #[O J no,O J c] 151)).frozen? ⟨w2.heap.size,o,I⟩=D:=free_at y;have r5:(w2.alloc (E #[O J no,O J c] 151)).cell? ⟨r,5,I⟩=S (O J f):=aA Y;have h5:=A j;have HS:=A y;clear h j m x Y y;go_wp2_with fail;have m:Keeps (λ_=>False) w (w2.alloc (E #[O J no,O J c] 151)):=h5.o.A5 _;have y:(w2.alloc (E #[O J no,O J c] 151)).heap.size=w2.heap.size+1:=(by simp);have x:w.heap.size<=w2.heap.size:=h5.o.size;generalize w2.alloc (E #[O J no,O J c] 151)=W3 at*;have j2:=A m;have j6:=A x;clear m y x;go_region;have x:Keeps (λ_=>False) w ((W3.setCell ⟨w2.heap.size,1,I⟩ (O J ((c:Int)+(f:Int)))).alloc (E #[Q I,aj 151 (ae #[O J no,O J ((c:Int)+(f:Int))])] 162)).drew:=((j2.o.A3 (p:=⟨w2.heap.size,1,I⟩) (L j6.o) _).A5 _).B0;have g7:=A x;have i1:=A (HR.o.A0 x (λ_ _=>id));have i2:=A (x.B4 H.o id);have m:(W3.setCell ⟨w2.heap.size,1,I⟩ (O J ((c:Int)+(f:Int)))).heap[w2.heap.size]?=S (E #[O J no,O J ((c:Int)+(f:Int))] 151 (0,0)):=aB HS.o _;have t0:(W3.setCell ⟨w2.heap.size,1,I⟩ (O J ((c:Int)+(f:Int)))).cell? w2=S (O J no):=aA m;have t1:(W3.setCell ⟨w2.heap.size,1,I⟩ (O J ((c:Int)+(f:Int)))).cell? ⟨w2.heap.size,1,I⟩=S (O J ((c:Int)+(f:Int))):=aA m;have y:W3.heap[r]?=_:=j2.o.B4 H.o id;have z:(W3.setCell ⟨w2.heap.size,1,I⟩ (O J ((c:Int)+(f:Int)))).heap[r]?=_:=(aE _ (by omega)).trans y;obtain⟨-,-,-,-,-,-,-,q7,-⟩:=aMA z;clear x m y z B s1 sf r5 d0 d4;have i3:=A (aNB (X:=W3.setCell ⟨w2.heap.size,1,I⟩ (O J ((c:Int)+(f:Int)))) (n':=W3.heap.size) (a:=Q I) (b:=aj 151 (ae #[O J no,O J ((c:Int)+(f:Int))])) (aJe _ _ _).symm);go_wp2_with (at_builtin;refine bC aNc rfl _ _ rfl rfl i1.o W3 1 1 [Q I,aj 151 (ae #[O J no,O J ((c:Int)+(f:Int))])] rfl rfl i3.o (aNi I).1 (hU _) ?_ ?_ ?_)
   .omega
   .unfold bk;omega
   intro g off cap w' m g8 B;have y:=B.B4 i2.o j0.o;obtain⟨-,-,-,-,-,-,-,e7,ef⟩:=aMA y;have HB:=A y;have g9:=A m;have i4:=A g8;have h4:=A B;have i5:=A (m.ne y (by decide));clear y m g8 B q7 t0 t1;go_wp2;go_end0;have z:Keeps (λk=>k=r) w' (w'.setCell ⟨r,7,I⟩ (R (g,off) (n+1) cap)):=(ak (λk=>k=r) w').A3 (p:=⟨r,7,I⟩) (U rfl) _;have i6:Keeps (λk=>k=r\/(R ta n tc).ownBlock=S k) w w':=(g7.o.mono (λ_ a0=>a0.elim)).trans h4.o (λk e=>U (L e));refine⟨rfl,R (g,off) (n+1) cap,_,_,aB HB.o _,g9.o.A0 z (λk e hk=>i5.o (e.trans (congrArg S hk))),⟨rfl,rfl⟩,?_,i6.same (z.mono λk e=>U e)⟩;intro k' i7;cases i7;exact i4.o.imp id (λa0=>⟨bo g7.o.size (by have h3:=a0.1;first|exact h3|(simpa[cg]using h3)),a7 a0.2 z.size⟩)
 | ok t=>
  have j5:∀w:K,(dq af 26 151 C).run ac w=.ok (au #[ae #[O J 0,O J 0],P D]) w:=λ_=>by kernel_rfl
  clear h0;go_enter bw,bx;go_wp2_with fail;refine(i9.o).mono ?_;rintro e w1 ⟨rfl,s⟩;have W:=keep H.o s;obtain⟨d0,-,-,-,d4,-,-,-,-⟩:=aMA W;have F:=A s;have N:=i8.o w1 s;rw[j1.o]at N;have i0:=A N;clear s W c4 c6 c7 N;go_wp2
  go_region_with (go_at_call 12;refine(i0.o).mono ?_;rintro e w2 ⟨h,s,tv,rfl,W,h0,j2⟩)
  all_goals
   have j:Keeps (λ_=>False) w w2:=(bz _ F.o).same ⟨h.os,h.tape,h.output,h.size,h.block⟩;have x:Keeps (λ_=>False) w ((w2.alloc (E #[O J 0,O J 0] 151)).alloc (E #[Q s,af] 162)):=(j.A5 _).A5 _;have Y:=(j.A5 (E #[O J 0,O J 0] 151)).B4 H.o id;obtain⟨-,-,-,-,-,-,-,q7,-⟩:=aMA Y;have g7:=A x;have i1:=A (HR.o.A0 x (λ_ _=>id));have i2:=A (x.B4 H.o id);have i3:=A (aNB (X:=w2.alloc (E #[O J 0,O J 0] 151)) (n':=w2.heap.size+1) (a:=Q s) (b:=af) (by simp));have N:Keeps (λ_=>False) w2 ((w2.alloc (E #[O J 0,O J 0] 151)).alloc (E #[Q s,af] 162)):=((ak _ w2).A5 _).A5 _;have j6:=A (N.B4 W id);have j7:=A ((h0.A0 N (λ_ _=>id)).mono (G:=λk=>w1.heap.size<=k) (λk a0=>a0.elim False.elim (λa0=>a0.1)));have h5:=A (show w1.heap.size<=s from j2);clear h j x Y N W h0 d0 d4;go_wp2_with (at_builtin;refine bC aNc rfl _ _ rfl rfl i1.o ⟨w2.heap.size+1,0,I⟩ 1 1 [Q s,af] rfl rfl i3.o (aNi (T:=0) (v:=af) (S ⟨s,0,I⟩)).2 (hU _) ?_ ?_ ?_)
   .omega
   .unfold bk;omega
   intro g off cap w' m g8 B;have y:=B.B4 i2.o j0.o;obtain⟨-,-,-,-,-,-,-,e7,ef⟩:=aMA y;have HB:=A y;have g9:=A m;have i4:=A g8;have h4:=A B;have i5:=A (m.ne y (by decide));have h:=A (B.B4 j6.o (λe=>by have x:=HR.o.lt e;have j:=F.o.size;have N:=h5.o;omega));clear y m g8 B q7;go_wp2;go_end0;have z:Keeps (λk=>k=r) w' (w'.setCell ⟨r,7,I⟩ (R (g,off) (n+1) cap)):=(ak (λk=>k=r) w').A3 (p:=⟨r,7,I⟩) (U rfl) _;have i6:Keeps (λk=>k=r\/(R ta n tc).ownBlock=S k) w w':=(g7.o.mono (λ_ a0=>a0.elim)).trans h4.o (λk e=>U (L e));refine⟨rfl,R (g,off) (n+1) cap,_,_,aB HB.o _,g9.o.A0 z (λk e hk=>i5.o (e.trans (congrArg S hk))),⟨rfl,s,tv,rfl,?_,?_⟩,?_,i6.same (z.mono λk e=>U e)⟩
   .exact z.B4 h.o (λe=>by have j:=F.o.size;have N:=h5.o;omega)
   .exact((j7.o.A0 h4.o (λk hk e=>by have x:=HR.o.lt e;have j:=F.o.size;omega)).A0 z (λk hk e=>by have j:=F.o.size;omega)).mono (λ_ _=>trivial)
   intro k' i7;cases i7;exact i4.o.imp id (λa0=>⟨bo g7.o.size (by have h3:=a0.1;first|exact h3|(simpa[cg]using h3)),a7 a0.2 z.size⟩)
structure Rd where
 h:Nat
 a:Nat
 d:Bool
 c:List UInt8
 e:Nat
 size:Nat
 b:List (Except (Nat×Nat) Tr)
def Rd.F6(x:Rd)(b:List UInt8):Rd:={x with c:=x.c++b.take (16777217-x.c.length),size:=x.size+b.length,a:=x.a+b.length}
def Rd.I5(x:Rd):Except (Nat×Nat) Tr:=match aMF x.d x.e x.size x.c with
 | some e=>az e
 | none=>aMK x.e (mP x.c x.h)
def Rd.whole(x:Rd):Rd:=if x.size=0 then x else{x with b:=x.b++ [x.I5]}
def Rd.G5(x:Rd):Rd:={x with a:=x.a+1,d:=C,c:= [],e:=x.a+1,size:=0}
def Rd.J5(x:Rd)(c:UInt8):Rd:=if c=30 then(x.whole).G5 else x.F6 [c]
def Rd.C4(x:Rd)(b:List UInt8):Rd:=b.foldl (λy c=>y.J5 c) x
def Rd.E9(d:Nat):Rd:=⟨d,0,D,[],0,0,[]⟩
def Rd.P3(x:Rd):x.F6 []=x:=by simp[Rd.F6]
def Rd.S1(x:Rd)(c:UInt8)(b:Oo):(x.F6 [c]).F6 b=x.F6 (c::b):=by
 unfold Rd.F6;by_cases h:16777217-x.c.length=0
 .simp[h];omega
 .obtain⟨n,d⟩:∃n,16777217-x.c.length=n+1:=⟨16777217-x.c.length-1,by omega⟩;have a:16777217-(x.c++ [c]).length=n:=by simp;omega
  simp only[d,List.take_succ_cons,List.take_nil,List.length_cons,List.length_nil];rw[a];simp;omega
def Rd.J9{b:Oo}:∀(x:Rd),(∀c∈b,c≠30)->x.C4 b=x.F6 b:=by
 induction b with
 | nil=>intro x _;rw[Rd.P3];rfl
 | cons c b d=>
  intro x h;have e:x.J5 c=x.F6 [c]:=by unfold Rd.J5;rw[py (h c (List.mem_cons_self ..))]
  show Rd.C4 (x.J5 c) b=_;rw[e,d _ (λc a=>h c (List.mem_cons_of_mem _ a)),Rd.S1]
def Rd.I8(x:Rd)(a b:Oo):x.C4 (a++b)=(x.C4 a).C4 b:=by unfold Rd.C4;rw[List.foldl_append]
def Rd.N0(x:Rd)(a b:Oo)(h:∀c∈a,c≠30):x.C4 (a++30::b)=(((x.F6 a).whole).G5).C4 b:=by
 rw[Rd.I8,Rd.J9 x h];show Rd.C4 ((x.F6 a).J5 30) b=_;unfold Rd.J5;rw[pz rfl]
def TT5(T:cu):Prop:=T=176\/T=186\/T=189\/T=97\/T=9
instance (T:cu):Decidable (TT5 T):=by unfold TT5;infer_instance
def aNY(w:K)(e:List Z)(d:List (Except (Nat×Nat) Tr)):Prop:=∀(i:Nat)(c:Except (Nat×Nat) Tr),d[i]?=S c->∃a b,e[2*i]?=S a/\e[2*i+1]?=S b/\aMH w a b c
def aMC(F:Nat->Prop)(w:K)(r:Nat)(x:Rd)(c:Bool):Prop:=
 F r/\(∀k,F k->k<w.heap.size)/\∃a b d,w.heap[r]?=S (E #[x.h,x.a,x.d,c,a,x.e,x.size,b] 159 (0,0))/\
  aQ 1 5 w a x.c.length (x.c.map bZ)/\(∀k,a.ownBlock=S k->F k)/\aQ 2 162 w b x.b.length d/\(∀k,b.ownBlock=S k->F k)/\aNY w d x.b
structure aMP(x:Rd):Prop where
 a:1<=x.h
 c:x.h<=512
 d:x.c.length=min x.size 16777217
 size:x.size<=x.a
 e:x.e<=x.a
 b:x.b.length+x.size<=x.a
def aMH.A0{a b:Z}{d:Except (Nat×Nat) Tr}(h:aMH w a b d)(f:Keeps F w w')(g:∀k c T,TT5 T->w.heap[k]?=S (E c T (0,0))->¬F k):aMH w' a b d:=by
 cases d with
 | error e=>exact h
 | ok t=>
  obtain⟨n,T,v,j,i,l⟩:=h;refine⟨n,T,v,j,f.B4 i (g T _ _ (U rfl) i),(l.D5.A0 f ?_).mono (λ_ _=>trivial)⟩;rintro k ⟨_,c,o,p,m⟩;exact g k c o (by unfold TT5;exact L m) p
def aNY.A0{f:List Z}{d:List (Except (Nat×Nat) Tr)}(h:aNY w f d)(j:Keeps F w w')(m:∀k c T,TT5 T->w.heap[k]?=S (E c T (0,0))->¬F k):aNY w' f d:=by
 intro i e n;obtain⟨a,b,l,g,o⟩:=h i e n;exact⟨a,b,l,g,o.A0 j m⟩
def aNC{l:Array Z}{a b:Z}{n m:Nat}{j g:List Z}(i:w.heap[r]?=S (E l 159 (0,0)))(o:aQ 1 5 w a n j)(p:aQ 2 162 w b m g):∀k c T,TT5 T->w.heap[k]?=S (E c T (0,0))->¬(k=r\/a.ownBlock=S k\/b.ownBlock=S k):=by
 rintro k c T f d (rfl|h|h)
 .rw[i]at d;cases d;exact absurd f (by decide)
 .exact o.ne d (λe=>by subst e;exact absurd f (by decide)) h
 .exact p.ne d (λe=>by subst e;exact absurd f (by decide)) h
def aMT{e:Array Z}(d:w.heap[r]?=S (E e 159 (0,0))):∀k c T,TT5 T->w.heap[k]?=S (E c T (0,0))->¬k=r:=by
 rintro k c T b a rfl;rw[d]at a;cases a;exact absurd b (by decide)
def aM2{s e f d:Nat}{b:Z}{n n':Nat}{m a:List Z}(h:aQ s e w v n m)(j:aQ f d w b n' a)(l:e≠d){k:Nat}(c:v.ownBlock=S k):b.ownBlock≠S k:=by
 rcases h.2 with⟨rfl,_⟩|⟨g,off,cap,o,rfl,i,_⟩
 .cases c
 .cases c;exact j.ne i l
def aND(F:Nat->Prop)(w:K)(r:Nat)(x:Rd)(b:Oo)(p:Z)(m:aMC F w r x D)(n:aMP x)(X:x.a<=4611686018427387904)(Y:BytesIn F w p b)(t:b.length<=4294967296):
 ah ac 64 #[Q r,p] w λe w'=>e=ai (au #[])/\Keeps F w w'/\aMC (Since F w w') w' r (x.F6 b) D:=by
 obtain⟨u,v,f,y,cs,i,z,j,q,B,l⟩:=m
 have G:BytesIn (λk=>k=r\/f.ownBlock=S k) w p b:=by
  obtain⟨a,cap,d,h,o,s⟩:=Y;exact⟨a,cap,d,h,o,s.imp id (λ⟨g,off,H,N,V⟩=>⟨g,off,H,λm=>N (m.elim (λe=>e▸u) (λe=>j g e)),V⟩)⟩
 refine(aNX w r x.a x.size _ _ _ _ _ f p x.c b i z (by rw[n.d];omega) G t X (bo n.size X)).mono ?_;rintro e w' ⟨rfl,h,H,N,o,s⟩;have V:Keeps F w w':=s.mono λk m=>m.elim (λe=>e▸u) (λe=>j k e);have W:=aNC i z q;refine⟨rfl,V,U u,aF v s.size,h,y,cs,H,N,λk d=>(o k d).elim (λe=>U (j k e)) L,q.A0 s ?_,λk d=>U (B k d),l.A0 s (λk c T hT hc m=>W k c T hT hc (m.imp id U))⟩;intro k d m;rcases m with rfl|m
 .exact q.ne i (by decide) d
 .exact aM2 q z (by decide) d m
def Rd.R5{x:Rd}(h:aMP x)(b:Oo):aMP (x.F6 b):=by
 refine⟨h.a,h.c,?_,?_,?_,?_⟩
 .show(x.c++b.take (16777217-x.c.length)).length=min (x.size+b.length) 16777217;rw[List.length_append,List.length_take,h.d];omega
 .show x.size+b.length<=x.a+b.length;have:=h.size;omega
 .show x.e<=x.a+b.length;have:=h.e;omega
 .show x.b.length+(x.size+b.length)<=x.a+b.length;have:=h.b;omega
def aNk{x:Rd}{d g:Z}{l:List Z}{m:Except (Nat×Nat) Tr}{e:Ending}(Y:F r)(v:∀k,F k->k<w.heap.size)(n:w.heap[r]?=S (E #[x.h,x.a,x.d,P D,d,x.e,x.size,g] 159 (0,0)))
 (q:aQ 1 5 w d x.c.length (x.c.map bZ))(y:∀k,d.ownBlock=S k->F k)(z:aQ 2 162 w g x.b.length l)(o:∀k,g.ownBlock=S k->F k)(h:aNY w l x.b)
 (s:aMS w r x.b.length g l m (λu=> #[x.h,x.a,x.d,P D,d,x.e,x.size,u]) e w'):
 e=ai (au #[])/\Keeps F w w'/\aMC (Since F w w') w' r {x with b:=x.b++ [m]} D:=by
 obtain⟨he,j,a,b,B,G,H,p,t⟩:=s;have N:Keeps F w w':=t.mono λk s=>s.elim (λe=>e▸Y) (λe=>o k e);have V:=aNC n q z;refine⟨he,N,U Y,aF v t.size,d,j,l++ [a,b],B,q.A0 t ?_,λk f=>U (y k f),by simpa using G,λk f=>(p k f).elim (λe=>U (o k e)) L,?_⟩
 .intro k f s;rcases s with rfl|s
  .exact q.ne n (by decide) f
  .exact aM2 q z (by decide) f s
 .intro i rc hi;have g0:=z.1;by_cases W:i<x.b.length
  .rw[ec W]at hi;obtain⟨X,b',h1,h2,h3⟩:=h i rc hi;exact⟨X,b',by rw[ec (by omega)];exact h1,by rw[ec (by omega)];exact h2,h3.A0 t (λk c T hT hc s=>V k c T hT hc (s.imp id L))⟩
  .rw[cL (by omega)]at hi
   have X:i=x.b.length:=by
    have:=(bt.1 hi).1;simp at this;omega
   subst X;simp at hi;subst hi;refine⟨a,b,?_,?_,H⟩
   .rw[cL (by omega),show 2*x.b.length-l.length=0 by omega];rfl
   .rw[cL (by omega),show 2*x.b.length+1-l.length=1 by omega];rfl
def aNl(F:Nat->Prop)(w:K)(r:Nat)(x:Rd)(h:aMC F w r x D)(f:aMP x)(X:x.a<=1073741824):
 ah ac 65 #[Q r] w λe w'=>e=ai (au #[])/\Keeps F w w'/\aMC (Since F w w') w' r (x.whole) D:=by
 have V:=h;obtain⟨z,j,a,i,v,g,q,l,t,n,d⟩:=h;by_cases G:x.size=0
 .have o:x.whole=x:=by unfold Rd.whole;rw[pz G]
  rw[o];have b:=g;rw[G]at b;refine(aNs w r _ _ _ _ _ _ _ b).mono ?_;rintro e w' ⟨rfl,rfl⟩;exact⟨rfl,ak _ _,U z,aF j (hU _),a,i,v,g,q,λk h=>U (l k h),t,λk h=>U (n k h),d⟩
 .have o:x.whole={x with b:=x.b++ [x.I5]}:=by unfold Rd.whole;rw[py G]
  rw[o];have W:=f.size;have T:=f.e;have Y:=f.b;cases c:aMF x.d x.e x.size x.c with
  | some H=>
   obtain⟨no,p⟩:=H;have m:x.I5=az (no,p):=(by unfold Rd.I5;rw[c]);rw[m];exact(aNh w r x.e x.size x.b.length no p x.d _ _ _ i a x.c v g q (by omega) f.d (by omega) (by omega) t (by omega) c).mono λe w' y=>aNk z j g q l t n d y
  | none=>
   have m:x.I5=aMK x.e (mP x.c x.h):=by unfold Rd.I5;rw[c]
   have s:x.d=C:=by
    cases N:x.d with
    | true=>rfl
    | false=>rw[N]at c;simp[aMF]at c
   rw[m];have b:=g;rw[s]at b c
   exact(aNu w r x.e x.size x.b.length x.h _ _ i a x.c v b q (by omega) f.d (by omega) (by omega) t (by omega) c f.a f.c).mono λe w' y=>by
    have B:aMS w r x.b.length i v (aMK x.e (mP x.c x.h)) (λu=> #[x.h,x.a,x.d,P D,a,x.e,x.size,u]) e w':=(by rw[s];exact y);exact aNk z j g q l t n d B
def Rd.P4{x:Rd}(h:aMP x):aMP (x.whole).G5:=by
 unfold Rd.whole;split
 .exact⟨h.a,h.c,by simp[Rd.G5],by simp[Rd.G5],by simp[Rd.G5],by have:=h.b;simp[Rd.G5];omega⟩
 .exact⟨h.a,h.c,by simp[Rd.G5],by simp[Rd.G5],by simp[Rd.G5],by have:=h.b;simp[Rd.G5];omega⟩
def aNm(l:Oo)(s:UInt8):(av l s= -1/\∀c∈l,c≠s)\/∃a d,l=a++s::d/\(∀c∈a,c≠s)/\av l s=(a.length:Int):=by
 induction l with
 | nil=>exact U ⟨rfl,λc h=>by simp at h⟩
 | cons b l m=>
  by_cases f:b=s
  .subst f;exact L ⟨[],l,rfl,λc h=>by simp at h,by simp[av]⟩
  .have e:(b==s)=D:=(by simpa using f);rcases m with⟨j,g⟩|⟨a,d,j,g,k⟩
   .refine U ⟨by simp[av,e,j],λc h=>?_⟩;rcases ma.1 h with rfl|h
    .exact f
    .exact g c h
   .refine L ⟨b::a,d,by rw[j];rfl,λc h=>?_,?_⟩
    .rcases ma.1 h with rfl|h
     .exact f
     .exact g c h
    .have i:(av l s== -1)=D:=(by rw[k];simp);simp[av,e,i,k]
def aMD(F:Nat->Prop)(w:K)(v:Z)(l:List UInt8):Prop:=BytesIn F w v l/\(v=R I 0 0\/∃g off n c,v=R (S ⟨g,off,I⟩) n c)
def aMD.A0(h:aMD F w v l)(m:Keeps F w w')(p:∀k,k<w.heap.size->G k->F k):aMD G w' v l:=by
 obtain⟨⟨a,cap,r,o,s,u⟩,f⟩:=h;refine⟨⟨a,cap,r,o,s,?_⟩,f⟩;by_cases b:l= []
 .exact U b
 .obtain⟨g,off,n,d,e⟩:=u.resolve_left b;obtain⟨c,t,rfl⟩:=List.exists_cons_of_ne_nil b;have j:g<w.heap.size:=kj w _ (e 0 c rfl);exact L ⟨g,off,n,λh=>d (p g j h),λi x q=>m.B6 (e i x q) d⟩
def aOh(F:Nat->Prop)(w:K)(v:Z)(l:Oo)(h:aMD F w v l):ah ac 63 #[v,O .u8 30] w λe w'=>e=ai (O J (av l 30))/\w'=w:=by
 obtain⟨⟨a,cap,rfl,z,G,x⟩,b⟩:=h;rcases b with b|⟨g,off,n,c,b⟩
 .injection b with f k m;have r:l= []:=eb k;subst r;subst f;subst m;exact Tryz.L9 30 w
 .injection b with f k m;subst f
  have o:=Tryz.N4 g off l.length cap (l.map λc=>(c.toNat:Int)) 30 w (by simp) (λi hi=>by
   rcases x with p|⟨y,j,d,B,u⟩
   .subst p;simp at hi
   .injection d with d;injection d with d s _
    subst d;subst s;rw[u i l[i] (bf hi)];simp[List.getD,ed,bf hi])
  have q:dw (l.map λc=>(c.toNat:Int))=l:=by
   have t:((λn:Int=>UInt8.ofNat n.toNat)∘λc:UInt8=>(c.toNat:Int))=id:=(by funext c;simp);unfold dw;rw[List.map_map,t,List.map_id]
  rw[q]at o;exact o
def aNZ(F:Nat->Prop)(w:K)(r:Nat)(x:Rd)(b:List UInt8)(v:Z)(wr:K):Prop:=
 Keeps F w wr/\∃done a,b=done++a/\aMC (Since F w wr) wr r (x.C4 done) D/\aMP (x.C4 done)/\(x.C4 done).a+a.length=x.a+b.length/\aMD (Since F w wr) wr v a
def aMC.mono{x:Rd}{d:Bool}(h:aMC F w r x d)(i:∀k,F k->G k)(c:∀k,G k->k<w.heap.size):aMC G w r x d:=by
 obtain⟨m,_,b,j,l,g,n,e,o,f,a⟩:=h;exact⟨i _ m,c,b,j,l,g,n,λk h=>i k (e k h),o,λk h=>i k (f k h),a⟩
def aMD.N6{wr:K}(h:aMD F w v l)(a:Keeps F w wr):aMD (Since F w wr) wr v l:=h.A0 a (λk a h=>h.elim id (λh=>absurd a (Nat.not_lt.2 h.1)))
def aNE{x:Rd}(h:aMC G w r x D):aMC G (((((w.setCell ⟨r,1,I⟩ (O J ((x.a:Int)+1))).setCell ⟨r,2,I⟩ (P C)).setCell ⟨r,4,I⟩ (R I 0 0)).setCell ⟨r,5,I⟩ (O J ((x.a:Int)+1))).setCell ⟨r,6,I⟩ (O J 0)) r x.G5 D:=by
 obtain⟨m,d,f,i,l,b,-,-,j,g,a⟩:=h
 have c:Keeps (λk=>k=r) w (((((w.setCell ⟨r,1,I⟩ (O J ((x.a:Int)+1))).setCell ⟨r,2,I⟩ (P C)).setCell ⟨r,4,I⟩ (R I 0 0)).setCell ⟨r,5,I⟩ (O J ((x.a:Int)+1))).setCell ⟨r,6,I⟩ (O J 0)):=
  (((((ak (λk=>k=r) w).A3 (p:=⟨r,1,I⟩) (U rfl) _).A3 (p:=⟨r,2,I⟩) (U rfl) _).A3 (p:=⟨r,4,I⟩) (U rfl) _).A3 (p:=⟨r,5,I⟩) (U rfl) _).A3 (p:=⟨r,6,I⟩) (U rfl) _
 exact⟨m,λk h=>a7 (d k h) c.size,R I 0 0,i,l,aB (aB (aB (aB (aB b _) _) _) _) _,.nil _ _ _,λk h=>(by cases h),j.A0 c (λk e c=>j.ne b (by decide) (e.trans (congrArg S c))),g,a.A0 c (aMT b)⟩
def aNn(F:Nat->Prop)(w:K)(r:Nat)(x:Rd)(b:Oo)(bV:Z)(f:aMC F w r x D)(d:aMP x)(hp:x.a+b.length<=1073741824)(X:aMD F w bV b):
 ah ac 27 #[Q r,bV] w λe w'=>e=ai af/\Keeps F w w'/\aMC (Since F w w') w' r (x.C4 b) D:=by
 have h6:=A f.2.1;have j:=A f.1
 have c3:w.cell? ⟨r,3,I⟩=S (P D):=by
  obtain⟨_,_,c,l,m,h,_⟩:=f;rw[aA h];rfl
 have h:=A (show aNZ F w r x b bV w from⟨ak _ _,[],b,rfl,f.mono (λk f=>U f) (aF f.2.1 (hU _)),d,rfl,X.N6 (ak _ _)⟩);have j8:b.length<=1073741824:=by omega
 obtain⟨h7,c⟩:∃h7,x.C4 b=h7:=⟨_,rfl⟩;rw[c];have i6:=A c;obtain⟨ba,bc,j2,_⟩:=X.1;subst j2;clear f d X c;go_enter func27,ntmps27;go_wp2;go_loopw [1] (λv wr=>M (aNZ F w r x b v wr)) (λv _=>match v with| .slice _ n _=>n|_=>0)
 case atStart=>exact h
 case round=>
  obtain⟨g6,done,d,X,H,z,h8,h0⟩:=hrel.o;clear hrel h;obtain⟨y,hy⟩:∃y,x.C4 done=y:=⟨_,rfl⟩;rw[hy]at H z h8;have V:=A (aOh _ wr _ d h0);rcases aNm d 30 with⟨hi,T⟩|⟨a,c,B,T,hi⟩
  .rw[hi]at V;have h:=aND _ wr r y d _ H z (by omega) h0.1 (by omega);have m:h7=y.F6 d:=(by rw[<-i6.o,X,Rd.I8,hy,Rd.J9 y T]);have h1:=A h;have t:=A m;have l:=A g6;clear g6 H z h8 h0 h m hi T X c3;go_wp2_with fail;refine(V.o).mono ?_;rintro e w1 ⟨rfl,rfl⟩;go_wp2_with fail;refine(h1.o).mono ?_;rintro e w2 ⟨rfl,o,q⟩;have s:=A o;have m:=A q;clear o q;go_wp2;go_ret;rw[t.o];have u:=l.o.C3 s.o;exact⟨rfl,u,m.o.mono (λk f=>f.trans l.o.size s.o.size) (aF h6.o u.size)⟩
  .obtain⟨⟨sa,sc,j3,g9,t,i5⟩,g7⟩:=h0;have g8:d.length=a.length+1+c.length:=(by rw[B];simp;omega);obtain⟨g,off,j4,h9,m⟩:=i5.resolve_left (λe=>by rw[e]at g8;simp at g8;omega);subst j4;subst j3;rw[hi]at V;have j5:b.length=done.length+d.length:=(by rw[X];simp);have i7:BytesIn (Since F w wr) wr (R (g,off) a.length sc) a:=⟨_,sc,rfl,by omega,t,L ⟨g,off,rfl,h9,λi x hx=>m i x (by rw[B,ec (bt.1 hx).1];exact hx)⟩⟩;have h:=aND _ wr r y a _ H z (by omega) i7 (by omega);have i8:(x.C4 (done++a))=y.F6 a:=(by rw[Rd.I8,hy,Rd.J9 y T]);have W:aMP (y.F6 a):=Rd.R5 z a;have j9:(y.F6 a).a=y.a+a.length:=rfl;have i0:=A (λ(G:Nat->Prop)(w2:K)(h2:aMC G w2 r (y.F6 a) D)=>aNl G w2 r (y.F6 a) h2 W (by omega));have i1:=Rd.P4 W
   have i2:x.C4 (done++a++ [30])=((y.F6 a).whole).G5:=by
    rw[Rd.I8,i8];show Rd.J5 _ 30=_;unfold Rd.J5;rw[pz rfl]
   have i9:((y.F6 a).whole).a=y.a+a.length:=by
    unfold Rd.whole;split<;>rfl
   obtain⟨Y,hY⟩:∃Y,(y.F6 a).whole=Y:=⟨_,rfl⟩;rw[hY]at i0 i1 i2 i9;have k0:Y.a<=1073741824:=(by omega);have HP:=A (show Y.G5.a+c.length=x.a+b.length by show Y.a+1+c.length=_;omega);have h1:=A h;have l:=A g6;have j0:=A i1;have N:=A i2;have HB:=A (show b=(done++a++ [30])++c by rw[X,B];simp);have k1:a.length<=1073741824:=(by omega);have k2:(0:Int)<=(a.length:Int):=(by omega);have k3:(a.length:Int)<=(sc:Int):=(by omega);have k4:(0:Int)<=(a.length:Int)+1:=(by omega);have k5:(a.length:Int)+1<=(d.length:Int):=(by omega);have j6:sc<=9223372036854775807:=(by unfold bk at t;omega);have h4:d.length-(a.length+1)=c.length:=(by omega);have h5:=A h4;have k6:J.wrap ((Y.a:Int)+1)=(Y.a:Int)+1:=(by rw[b9];omega);have k7:J.wrap ((a.length:Int)+1)=(a.length:Int)+1:=by rw[b9];omega
   have u:∀i x,c[i]?=S x->wr.cell? ⟨g,off+(a.length+1)+i,I⟩=S (O .u8 ((x.toNat:Nat):Int)):=by
    intro i x hx;have:=m (a.length+1+i) x (by rw[B,cL (by omega),show a.length+1+i-a.length=i+1 by omega];simpa using hx);rw[show off+(a.length+1)+i=off+(a.length+1+i) by omega];exact this
   have i3:=A u;have j7:=A (kj wr _ (m a.length 30 (by rw[B];simp)));have i4:=A h9;have j1:=A t;have h3:=A (And.intro g9 g8);clear g6 H z h8 i7 h i8 W i1 i2 i9 hY hi T X B g7 i5 m u h9 t h4 g8 j5 g9;by_cases i8:sc=a.length+1
   .subst i8;go_wp2_with fail;refine(V.o).mono ?_;rintro e w1 ⟨rfl,rfl⟩;go_wp2_with fail;refine(h1.o).mono ?_;rintro e w2 ⟨rfl,o,q⟩;have h8:=A (i0.o _ w2 q);have s:=A o;clear o q;go_wp2_with fail;refine(h8.o).mono ?_;rintro e W ⟨rfl,X,B⟩;have g6:=A X;have h9:=A (aNE B);have g7:=B;obtain⟨-,-,h4,i1,i9,h,_⟩:=g7;obtain⟨-,d1,d2,-,d4,d5,d6,-,df⟩:=aMA h;clear X B h c3;go_wp2_with fail;have i2:Keeps (Since F w w1) w1 W:=s.o.C3 g6.o;have m:=i2.same (((((((ak (Since F w w1) W).A3 (p:=⟨r,1,I⟩) (U (U j.o)) (O J ((Y.a:Int)+1))).A3 (p:=⟨r,2,I⟩) (U (U j.o)) (P C)).A3 (p:=⟨r,4,I⟩) (U (U j.o)) (R I 0 0)).A3 (p:=⟨r,5,I⟩) (U (U j.o)) (O J ((Y.a:Int)+1))).A3 (p:=⟨r,6,I⟩) (U (U j.o)) (O J 0)));have H:W.heap.size=(((((W.setCell ⟨r,1,I⟩ (O J ((Y.a:Int)+1))).setCell ⟨r,2,I⟩ (P C)).setCell ⟨r,4,I⟩ (R I 0 0)).setCell ⟨r,5,I⟩ (O J ((Y.a:Int)+1))).setCell ⟨r,6,I⟩ (O J 0)).heap.size:=(by simp[cg]);obtain⟨T,i5⟩:∃T,(((((W.setCell ⟨r,1,I⟩ (O J ((Y.a:Int)+1))).setCell ⟨r,2,I⟩ (P C)).setCell ⟨r,4,I⟩ (R I 0 0)).setCell ⟨r,5,I⟩ (O J ((Y.a:Int)+1))).setCell ⟨r,6,I⟩ (O J 0))=T:=⟨_,rfl⟩;have g8:=h9.o;rw[i5]at m H g8⊢;have g9:Keeps F w T:=l.o.C3 m
    have t:aMC (Since F w T) T r Y.G5 D:=g8.mono (λk f=>by
     rcases f with f|f
     .rcases f with f|f
      .rcases f with f|f
       .exact U f
       .exact L ⟨f.1,a7 f.2 m.size⟩
      .exact L ⟨bo l.o.size f.1,by rw[<-H];exact a7 f.2 g6.o.size⟩
     .exact L ⟨bo l.o.size (bo s.o.size f.1),by rw[<-H];exact f.2⟩) (aF h6.o g9.size)
    rw[<-N.o]at t;have u:=j0.o;rw[<-N.o]at u;have z:=HP.o;rw[<-N.o]at z;have i7:c= []:=eb (by have:=h3.o;omega);refine⟨A ⟨g9,done++a++ [30],c,HB.o,t,u,z,⟨⟨_,_,by rw[h5.o],by rw[i7];exact dr _,by unfold bk;omega,U i7⟩,L ⟨_,_,_,_,rfl⟩⟩⟩,?_⟩;show d.length-(a.length+1)<d.length;have:=h3.o;omega
   .go_wp2_with fail;refine(V.o).mono ?_;rintro e w1 ⟨rfl,rfl⟩;go_wp2_with fail;refine(h1.o).mono ?_;rintro e w2 ⟨rfl,o,q⟩;have h8:=A (i0.o _ w2 q);have s:=A o;clear o q;go_wp2_with fail;refine(h8.o).mono ?_;rintro e W ⟨rfl,X,B⟩;have g6:=A X;have h9:=A (aNE B);have g7:=B;obtain⟨-,-,h4,i1,i9,h,_⟩:=g7;obtain⟨-,d1,d2,-,d4,d5,d6,-,df⟩:=aMA h;clear X B h c3;go_wp2_with fail;have i2:Keeps (Since F w w1) w1 W:=s.o.C3 g6.o;have m:=i2.same (((((((ak (Since F w w1) W).A3 (p:=⟨r,1,I⟩) (U (U j.o)) (O J ((Y.a:Int)+1))).A3 (p:=⟨r,2,I⟩) (U (U j.o)) (P C)).A3 (p:=⟨r,4,I⟩) (U (U j.o)) (R I 0 0)).A3 (p:=⟨r,5,I⟩) (U (U j.o)) (O J ((Y.a:Int)+1))).A3 (p:=⟨r,6,I⟩) (U (U j.o)) (O J 0)));have H:W.heap.size=(((((W.setCell ⟨r,1,I⟩ (O J ((Y.a:Int)+1))).setCell ⟨r,2,I⟩ (P C)).setCell ⟨r,4,I⟩ (R I 0 0)).setCell ⟨r,5,I⟩ (O J ((Y.a:Int)+1))).setCell ⟨r,6,I⟩ (O J 0)).heap.size:=(by simp[cg]);obtain⟨T,i5⟩:∃T,(((((W.setCell ⟨r,1,I⟩ (O J ((Y.a:Int)+1))).setCell ⟨r,2,I⟩ (P C)).setCell ⟨r,4,I⟩ (R I 0 0)).setCell ⟨r,5,I⟩ (O J ((Y.a:Int)+1))).setCell ⟨r,6,I⟩ (O J 0))=T:=⟨_,rfl⟩;have g8:=h9.o;rw[i5]at m H g8⊢;have g9:Keeps F w T:=l.o.C3 m
    have t:aMC (Since F w T) T r Y.G5 D:=g8.mono (λk f=>by
     rcases f with f|f
     .rcases f with f|f
      .rcases f with f|f
       .exact U f
       .exact L ⟨f.1,a7 f.2 m.size⟩
      .exact L ⟨bo l.o.size f.1,by rw[<-H];exact a7 f.2 g6.o.size⟩
     .exact L ⟨bo l.o.size (bo s.o.size f.1),by rw[<-H];exact f.2⟩) (aF h6.o g9.size)
    rw[<-N.o]at t;have u:=j0.o;rw[<-N.o]at u;have z:=HP.o;rw[<-N.o]at z;have h:¬Since F w T g:=λf=>f.elim (λf=>i4.o (U f)) (λf=>i4.o (L ⟨f.1,j7.o⟩));refine⟨A ⟨g9,done++a++ [30],c,HB.o,t,u,z,⟨⟨_,sc-(a.length+1),by rw[h5.o],by have:=h3.o;omega,bo (Nat.sub_le _ _) j1.o,L ⟨g,off+(a.length+1),rfl,h,λi x hx=>m.B6 (i3.o i x hx) i4.o⟩⟩,L ⟨_,_,_,_,rfl⟩⟩⟩,?_⟩;show d.length-(a.length+1)<d.length;have:=h3.o;omega
