/-
  The program, one part of its walk. Conditions: none.
-/
import Derived.Test.YtakkmiomhackiaaGreatDoorAj10
set_option linter.all false
set_option maxRecDepth 100000
set_option maxHeartbeats 16000000
open Go.Proofs.Tryz
open Bool renaming false->S,true->X
open Go renaming Calls->ae,Ending->au,Value->W,World->V,lt_of_block->bh
open Go.Proofs.Tryz renaming func104->ak,ntmps104->ao,prog->af
open Option renaming none->N,some->U
open Or renaming inl->J,inr->ai
namespace Go.Proofs.YtakkmiomhackiaaGreatDoor
open Go.RowKit
open Ending renaming returned->aj
open Fn renaming func->E
open IntKind renaming i32->ac,i64->O,u8->D
open Obj renaming cells->ag
open Keeps renaming A2->bp,A4->aw
open Value renaming bool->Y,func->K,int->I,nilIface->ar,pointer->Z,slice->ah
open World renaming setCell->az
variable {c:UInt8}{pl:Nat}{a i:W}{e:au}{y:Lx}
def aAu(w:V)(b:Nat)(a:UInt8)(d:aI a=X):ae af 104 #[Z b,I D a.toNat] w λe w'=>e=aj (I O 0)/\w'=w:=by
 have c:=A (iK a);rw[d]at c;clear d;go_enter ak,ao;go_wp2_with fail;refine(c.o _).mono ?_;rintro e w1 ⟨rfl,rfl⟩;go_wp2;go_ret;exact⟨rfl,rfl⟩
def aFE(h:48<=c.toNat):aI c=S:=by
 have d:¬c=32:=by intro e;subst e;simp at h
 have a:¬c=9:=by intro e;subst e;simp at h
 have f:¬c=10:=by intro e;subst e;simp at h
 have b:¬c=13:=by intro e;subst e;simp at h
 simp[aI,d,a,f,b]
def eN(w:V)(b pl:Nat):V:=(((w.setCell ⟨b,4,N⟩ (Y X)).setCell ⟨b,5,N⟩ (I O pl)).setCell ⟨b,6,N⟩ (ah N 0 0)).setCell ⟨b,7,N⟩ (I O 0)
def mG{w:V}{b:Nat}{l f g c r p n q m d e k j:W}(h:w.heap[b]?=U (ag #[l,f,g,c,r,p,n,q,m,d,i,e,k,j] 228 (0,0))):
 (eN w b pl).heap[b]?=U (ag #[l,f,g,c,Y X,pl,(),I O 0,m,d,i,e,k,j] 228 (0,0)):=by
 have a:=aB (aB (aB (aB h (o:=4) (Y X)) (o:=5) (I O pl)) (o:=6) (ah N 0 0)) (o:=7) (I O 0);simp only[jy,kL,la]at a;exact a
def gD(w:V)(b pl:Nat):Keeps (λk=>k=b) w (eN w b pl):=
 ((((aw (λk=>k=b) w).A3 (p:=⟨b,4,N⟩) (J rfl) _).A3 (p:=⟨b,5,N⟩) (J rfl) _).A3 (p:=⟨b,6,N⟩) (J rfl) _).A3 (p:=⟨b,7,N⟩) (J rfl) _
def iH(w:V)(b pl:Nat):(eN w b pl).heap.size=w.heap.size:=by simp[eN,az]
def jQ.X1{w w':V}{b:Nat}{t v:W}{toks:List W}{c:W->Array W}(h:jQ (eN w b pl) b a toks t c v e w'):jQ w b a toks t c v e w':=by
 obtain⟨j,g,off,cap,f,m,d,l⟩:=h;refine⟨j,g,off,cap,f,m,?_,((gD w b pl).mono (λk i=>J i)).same l⟩;rw[iH]at d;exact d
def aB3(w:V)(b pl:Nat)(t u L P Q R T x y z B C a:W)(m:UInt8)(F:m=123\/m=125\/m=91\/m=93\/m=58\/m=44)(toks:List W)(s:w.heap[b]?=U (ag #[pl,t,u,L,P,Q,R,T,x,y,z,B,C,a] 228 (0,0)))
 (h:Win 232 id w a toks)(i:toks.length<=1000)(h0:pl<=1073741823):
 ae af 104 #[Z b,I D m.toNat] w λe w'=>jQ w b a toks (bU (.mark pl m)) (λv=> #[pl,t,u,K (E 104) #[] #[],Y S,pl,(),I O 0,x,y,z,B,C,v]) (I O 0) e w':=by
 obtain⟨c0,c1,c2,c3,c4,c5,c6,c7,c8,c9,ca,cb,cc,cd,cf⟩:=aN s;have j:=A (iK m);rw[show aI m=S by rcases F with rfl|rfl|rfl|rfl|rfl|rfl<;>rfl]at j;have c:=mG (pl:=pl) s;have l:=A (h.ne s (by decide));have f:=h.A0 (gD w b pl) (λk e hk=>l.o (e.trans (congrArg U hk)));have n:=A (rX (eN w b pl) b _ pl (pl+1) c rfl (by omega) (by omega));have G:=A (λw'(d:Below (eN w b pl).heap.size (eN w b pl) w')=>rY w' b _ _ _ _ _ _ _ _ _ _ _ _ _ a 238 (.agg #[pl,I O 1,I D m.toNat]) toks (keep c d) (f.A0 (bp (λ_=>False) d) (λ_ _=>id)) i);rw[show pl+1-pl=1 by omega,show((pl+1:Nat):Int)=(pl:Int)+1 by omega]at n;unfold eN at n;rcases F with rfl|rfl|rfl|rfl|rfl|rfl
 all_goals
  clear s c h f;simp only[UInt8.reduceToNat,Int.cast_ofNat_Int]at j G⊢;go_enter ak,ao;go_wp2_with fail;refine(j.o _).mono ?_;rintro e w1 ⟨rfl,rfl⟩;go_wp2_with fail;refine(n.o).mono ?_;rintro e w2 ⟨rfl,d⟩;have o:=A (G.o w2 d);have c:=A d;clear d;go_wp2_with fail;refine(o.o).mono ?_;rintro e w3 ⟨rfl,g,off,cap,H,d,f,h⟩;have H3:=A H;have p:=A d;have q:=A f;have r:=A h;clear H d f h;go_wp2;go_ret;exact jQ.X1 (pl:=pl) ⟨rfl,g,off,cap,H3.o,p.o,q.o.elim J (λs=>ai (bo c.o.size s)),(bp _ c.o).same r.o⟩
def aAv(w:V)(b pl:Nat)(r s v x y z B C F G H L t:W)(j:w.heap[b]?=U (ag #[pl,r,s,v,x,y,z,B,C,F,G,H,L,t] 228 (0,0))):
 ae af 104 #[Z b,I D 34] w λe w'=>e=aj (I O 0)/\∃f,w.heap.size<=f/\f<w'.heap.size/\w'.heap[b]?=U (ag #[pl,r,s,K (E 138) #[] #[],Y X,pl,(),I O 0,Z (U ⟨f,0,N⟩),(),I O 0,I ac 0,I ac 0,t] 228 (0,0))/\
  Feeds w' f 0 []/\Keeps (λk=>k=b) w w':=by
 obtain⟨P,c1,c2,Q,R,T,c6,c7,c8,c9,ca,cb,cc,cd,cf⟩:=aN j;have u:=A (iK 34);rw[show(((34:UInt8).toNat:Nat):Int)=34 from rfl,show aI 34=S from rfl]at u;have a:=mG (pl:=pl) j;have m:=A a;obtain⟨f,h⟩:∃f,w.heap.size=f:=⟨_,rfl⟩;have i:=newFeeder_any (eN w b pl);rw[iH,h]at i;have d:=A (iH w b pl);have g:=A h;have c:=bh j;rw[h]at c;have n:=A (gD w b pl);unfold eN at i;have HF:=A i;clear j a h i;go_enter ak,ao;go_wp2_with fail;refine(u.o _).mono ?_;rintro e w1 ⟨rfl,rfl⟩;go_wp2_with fail;refine(HF.o).mono ?_;rintro e w2 ⟨rfl,h,i,-⟩;have a:Below (eN w1 b pl).heap.size (eN w1 b pl) w2:=by rw[d.o,g.o];exact i
 have j:=keep m.o a;obtain⟨-,-,-,d3,-,-,-,-,d8,d9,da,db,dc,-,df⟩:=aN j;have H2:=A j;have l:=A h;have o:=A a;have q:=A c;clear j h i a c P c1 c2 Q R T c6 c7 c8 c9 ca cb cc cd cf;go_wp2;go_ret;have a:f≠b:=by have:=q.o;omega
 have c:Keeps (λk=>k=b) w2 _:=((((((aw (λk=>k=b) w2).A3 (p:=⟨b,8,N⟩) (J rfl) (Z (U ⟨f,0,N⟩))).A3 (p:=⟨b,9,N⟩) (J rfl) (ah N 0 0)).A3 (p:=⟨b,10,N⟩) (J rfl) (I O 0)).A3 (p:=⟨b,11,N⟩) (J rfl) (I ac 0)).A3 (p:=⟨b,12,N⟩) (J rfl) (I ac 0)).A3 (p:=⟨b,3,N⟩) (J rfl) (K (E 138) #[] #[]);have h:f<w2.heap.size:=by obtain⟨_,i,a1,a2,a3,j,_⟩:=l.o;exact bh j
 exact⟨rfl,f,Nat.le_of_eq g.o,Nat.lt_of_lt_of_le h c.size,aB (aB (aB (aB (aB (aB H2.o _) _) _) _) _) _,l.o.A0 c a,((n.o.A7 (by have:=o.o;rwa[d.o]at this)).same c)⟩
def aB4(w:V)(b pl:Nat)(B C v3 v4 v5 v6 v7 F L P Q R T:W)(a:UInt8)(f:a=110\/a=116\/a=102)(z:w.heap[b]?=U (ag #[pl,B,C,v3,v4,v5,v6,v7,F,L,P,Q,R,T] 228 (0,0))):
 ae af 104 #[Z b,I D a.toNat] w λe w'=>oX w b (ah N 0 0) [a] (λv=> #[pl,B,C,K (E 141) #[] #[],Y X,pl,v,I O 0,F,L,P,Q,R,T]) e w':=by
 obtain⟨c0,c1,c2,c3,c4,c5,c6,c7,c8,c9,ca,cb,cc,cd,cf⟩:=aN z;have r:=A (iK a);rw[show aI a=S by rcases f with rfl|rfl|rfl<;>rfl]at r;obtain⟨h2,h3,h4⟩:=aD (c:=a) (d:=123) (n:=123) (by rintro rfl;revert f;decide) rfl;obtain⟨h5,h6,h7⟩:=aD (c:=a) (d:=125) (n:=125) (by rintro rfl;revert f;decide) rfl;obtain⟨h8,h9,i0⟩:=aD (c:=a) (d:=91) (n:=91) (by rintro rfl;revert f;decide) rfl;obtain⟨i1,i2,i3⟩:=aD (c:=a) (d:=93) (n:=93) (by rintro rfl;revert f;decide) rfl;obtain⟨i4,i5,i6⟩:=aD (c:=a) (d:=58) (n:=58) (by rintro rfl;revert f;decide) rfl;obtain⟨i7,i8,i9⟩:=aD (c:=a) (d:=44) (n:=44) (by rintro rfl;revert f;decide) rfl;obtain⟨j0,j1,j2⟩:=aD (c:=a) (d:=34) (n:=34) (by rintro rfl;revert f;decide) rfl;obtain⟨j3,j4,j5⟩:=aD (c:=a) (d:=45) (n:=45) (by rintro rfl;revert f;decide) rfl;have j6:(48:Int)<=(a.toNat:Int):=by rcases f with rfl|rfl|rfl<;>decide
 have j7:¬(a.toNat:Int)<=57:=by rcases f with rfl|rfl|rfl<;>decide
 have m:=A (lN a);obtain⟨s,h⟩:∃s:ByteArray,(⟨(aH a).toArray⟩:ByteArray)=s:=⟨_,rfl⟩;have j8:s.toList.isEmpty=S:=by rw[<-h,Lib.toList_data];rcases f with rfl|rfl|rfl<;>decide
 have j9:(s==⟨#[]⟩)=S:=by rw[<-h];rcases f with rfl|rfl|rfl<;>decide
 have k0:(s !=⟨#[]⟩)=X:=by rw[<-h];rcases f with rfl|rfl|rfl<;>decide
 rw[h]at m;have i:=mG (pl:=pl) z;have H:=A i;have t:=A (gD w b pl);have u:=A (iH w b pl);have k1:=bh z;have HR:=A (show Win 5 bZ ((eN w b pl).alloc (ag #[bZ a] 5)) (ah N 0 0) []from .nil _ _ _);unfold eN at HR;clear z i h f;go_enter ak,ao;go_wp2_with fail;refine(r.o _).mono ?_;rintro e w1 ⟨rfl,rfl⟩;go_wp2_with fail;refine(m.o _).mono ?_;rintro e w1 ⟨rfl,rfl⟩;go_wp2_with (at_builtin;refine dE nY rfl _ _ rfl rfl HR.o w1 1 a rfl ?_ rfl ?_ ?_ ?_)
 .exact fQ (iH w1 b pl).symm
 .first|decide|simp
 .first|decide|simp[maxLen]
 intro g off cap w' h j l;have i:=(l.block b (by rw[World.size_alloc];have:=u.o;unfold eN at this;omega) (λe=>by cases e)).trans ((Below.heap_alloc _ _ _ (bh H.o)).trans H.o);have x:=A (h.ne i (by decide));have o:w1.heap.size<=g:=j.elim (λe=>by cases e) (λz=>bo (by simp[az]) z.1);have y:=A o;have HK:=A (((t.o.mono (G:=λk=>k=b\/(ah N 0 0).ownBlock=U k) (λk f=>J f)).A5 (ag #[bZ a] 5)).G0 l (λk e=>by cases e));have q:=A h;obtain⟨-,-,-,d3,-,-,d6,-,-,-,-,-,-,-,df⟩:=aN i;have r:=A i;clear i h o j l c0 c1 c2 c3 c4 c5 c6 c7 c8 c9 ca cb cc cd cf;go_wp2;go_ret;refine⟨rfl,g,off,cap,?_,?_,ai y.o,(HK.o.A3 (p:=⟨b,6,N⟩) (J (J rfl)) _).A3 (p:=⟨b,3,N⟩) (J (J rfl)) _⟩
 .exact aB (aB r.o _) _
 .exact q.o.A0 (((aw (λk=>k=b) w').A3 (p:=⟨b,6,N⟩) (J rfl) _).A3 (p:=⟨b,3,N⟩) (J rfl) _) (λk e f=>x.o (e.trans (congrArg U f)))
def aAw(w:V)(b pl f:Nat)(m n C F G H L q r s t u x:W)(y:w.heap[b]?=U (ag #[pl,m,n,C,F,G,H,L,q,r,s,t,u,x] 228 (0,0)))(i:aR 0 45=U f):
 ae af 104 #[Z b,I D 45] w λe w'=>oX w b (ah N 0 0) [45] (λv=> #[pl,m,n,K (E 139) #[] #[],Y X,pl,v,f,q,r,s,t,u,x]) e w':=by
 obtain⟨T,c1,c2,c3,c4,c5,c6,c7,c8,c9,ca,cb,cc,cd,cf⟩:=aN y;have z:=A (iK 45);rw[show(((45:UInt8).toNat:Nat):Int)=45 from rfl,show aI 45=S from rfl]at z;have c:=mG (pl:=pl) y;have a:=aB c (o:=3) (K (E 139) #[] #[]);simp only[jy,kL,la]at a;have d:=rE _ b 0 f _ _ _ _ _ _ _ _ _ _ _ _ (ah N 0 0) 45 [] a (by decide) i (.nil _ _ _) (by decide);simp only[mq,gL]at d;rw[show(((45:UInt8).toNat:Nat):Int)=45 from rfl]at d;have h:=A ((gD w b pl).A3 (p:=⟨b,3,N⟩) (J rfl) (K (E 139) #[] #[]));have P:=A (iH w b pl);unfold eN at d;have Q:=A d;clear y c a d i;go_enter ak,ao;go_wp2_with fail;refine(z.o _).mono ?_;rintro e w1 ⟨rfl,rfl⟩;go_wp2_with fail;refine(Q.o).mono ?_;rintro e w2 ⟨rfl,g,off,cap,B,a,c,d⟩;have R:=A B;have i:=A a;have j:=A c;have l:=A d;clear B a c d;go_wp2;go_ret;refine⟨rfl,g,off,cap,R.o,i.o,j.o.elim J (λy=>ai (bo (by simp[az]) y)),(h.o.mono (λk a=>J a)).same l.o⟩
def aB5(w:V)(b pl m:Nat)(s t v3 v4 v5 v6 v7 u x y z B C:W)(h:UInt8)(F:w.heap[b]?=U (ag #[pl,s,t,v3,v4,v5,v6,v7,u,x,y,z,B,C] 228 (0,0)))(a:48<=h.toNat)(f:h.toNat<=57)(r:aR 0 h=U m):
 ae af 104 #[Z b,I D h.toNat] w λe w'=>oX w b (ah N 0 0) [h] (λv=> #[pl,s,t,K (E 139) #[] #[],Y X,pl,v,m,u,x,y,z,B,C]) e w':=by
 obtain⟨c0,c1,c2,c3,c4,c5,c6,c7,c8,c9,ca,cb,cc,cd,cf⟩:=aN F;have G:=A (iK h);rw[aFE a]at G;obtain⟨H,L,P⟩:=aD (c:=h) (d:=123) (n:=123) (by intro e;subst e;simp at a f) rfl;obtain⟨Q,R,T⟩:=aD (c:=h) (d:=125) (n:=125) (by intro e;subst e;simp at a f) rfl;obtain⟨h0,h1,h3⟩:=aD (c:=h) (d:=91) (n:=91) (by intro e;subst e;simp at a f) rfl;obtain⟨h4,h5,h6⟩:=aD (c:=h) (d:=93) (n:=93) (by intro e;subst e;simp at a f) rfl;obtain⟨h7,h8,h9⟩:=aD (c:=h) (d:=58) (n:=58) (by intro e;subst e;simp at a f) rfl;obtain⟨i0,i1,i2⟩:=aD (c:=h) (d:=44) (n:=44) (by intro e;subst e;simp at a f) rfl;obtain⟨i3,i4,i5⟩:=aD (c:=h) (d:=34) (n:=34) (by intro e;subst e;simp at a f) rfl;obtain⟨-,i6,-⟩:=aD (c:=h) (d:=45) (n:=45) (by intro e;subst e;simp at a f) rfl;have i7:(48:Int)<=(h.toNat:Int):=by omega
 have i8:(h.toNat:Int)<=57:=by omega
 have j:=mG (pl:=pl) F;have i:=aB j (o:=3) (K (E 139) #[] #[]);simp only[jy,kL,la]at i;have l:=rE _ b 0 m _ _ _ _ _ _ _ _ _ _ _ _ (ah N 0 0) h [] i (by decide) r (.nil _ _ _) (by decide);simp only[mq,gL]at l;clear a f;have q:=A ((gD w b pl).A3 (p:=⟨b,3,N⟩) (J rfl) (K (E 139) #[] #[]));have i9:=A (iH w b pl);unfold eN at l;have HN:=A l;clear F j i l r;go_enter ak,ao;go_wp2_with fail;refine(G.o _).mono ?_;rintro e w1 ⟨rfl,rfl⟩;go_wp2_with fail;refine(HN.o).mono ?_;rintro e w2 ⟨rfl,g,off,cap,h2,a,f,i⟩;have H2:=A h2;have j:=A a;have l:=A f;have r:=A i;clear h2 a f i;go_wp2;go_ret;refine⟨rfl,g,off,cap,H2.o,j.o,l.o.elim J (λF=>ai (bo (by simp[az]) F)),(q.o.mono (λk a=>J a)).same r.o⟩
def zD(w:V)(b pl:Nat)(t u v x y z B C F G H L P:W)(f:UInt8)(a0:w.heap[b]?=U (ag #[pl,t,u,v,x,y,z,B,C,F,G,H,L,P] 228 (0,0)))(k:aI f=S)(g:aY f=S)(h:f≠34)(a:f≠45)(Q:f.toNat<48)(i:aH f= []):
 ae af 104 #[Z b,I D f.toNat] w λe w'=>e=aj (I O 94)/\w'=eN w b pl:=by
 obtain⟨c0,c1,c2,c3,c4,c5,c6,c7,c8,c9,ca,cb,cc,cd,cf⟩:=aN a0;have l:=A (iK f);rw[k]at l;have j:=A (lN f);rw[i]at j;obtain⟨m,o,p⟩:=aD (c:=f) (d:=123) (n:=123) (by intro e;subst e;simp[aY]at g h a) rfl;obtain⟨q,r,s⟩:=aD (c:=f) (d:=125) (n:=125) (by intro e;subst e;simp[aY]at g h a) rfl;obtain⟨R,T,h0⟩:=aD (c:=f) (d:=91) (n:=91) (by intro e;subst e;simp[aY]at g h a) rfl;obtain⟨h1,h2,h3⟩:=aD (c:=f) (d:=93) (n:=93) (by intro e;subst e;simp[aY]at g h a) rfl;obtain⟨h4,h5,h6⟩:=aD (c:=f) (d:=58) (n:=58) (by intro e;subst e;simp[aY]at g h a) rfl;obtain⟨h7,h8,h9⟩:=aD (c:=f) (d:=44) (n:=44) (by intro e;subst e;simp[aY]at g h a) rfl;obtain⟨i0,i1,i2⟩:=aD (c:=f) (d:=34) (n:=34) (by intro e;subst e;simp[aY]at g h a) rfl;obtain⟨-,i3,-⟩:=aD (c:=f) (d:=45) (n:=45) (by intro e;subst e;simp[aY]at g h a) rfl;have i4:¬(48:Int)<=(f.toNat:Int):=by omega
 clear a0 k g h a Q i;go_enter ak,ao;go_wp2_with fail;refine(l.o _).mono ?_;rintro e w1 ⟨rfl,rfl⟩;go_wp2_with fail;refine(j.o _).mono ?_;rintro e w1 ⟨rfl,rfl⟩;go_wp2;go_ret;exact⟨rfl,rfl⟩
def aAx(w:V)(b pl:Nat)(t u v x y z B C F G H L P:W)(a:UInt8)(a0:w.heap[b]?=U (ag #[pl,t,u,v,x,y,z,B,C,F,G,H,L,P] 228 (0,0)))(k:aI a=S)(g:aY a=S)(h:a≠34)(f:a≠45)(Q:57<a.toNat)(i:aH a= []):
 ae af 104 #[Z b,I D a.toNat] w λe w'=>e=aj (I O 94)/\w'=eN w b pl:=by
 obtain⟨c0,c1,c2,c3,c4,c5,c6,c7,c8,c9,ca,cb,cc,cd,cf⟩:=aN a0;have l:=A (iK a);rw[k]at l;have j:=A (lN a);rw[i]at j;obtain⟨m,o,p⟩:=aD (c:=a) (d:=123) (n:=123) (by intro e;subst e;simp[aY]at g h f) rfl;obtain⟨q,r,s⟩:=aD (c:=a) (d:=125) (n:=125) (by intro e;subst e;simp[aY]at g h f) rfl;obtain⟨R,T,h0⟩:=aD (c:=a) (d:=91) (n:=91) (by intro e;subst e;simp[aY]at g h f) rfl;obtain⟨h1,h2,h3⟩:=aD (c:=a) (d:=93) (n:=93) (by intro e;subst e;simp[aY]at g h f) rfl;obtain⟨h4,h5,h6⟩:=aD (c:=a) (d:=58) (n:=58) (by intro e;subst e;simp[aY]at g h f) rfl;obtain⟨h7,h8,h9⟩:=aD (c:=a) (d:=44) (n:=44) (by intro e;subst e;simp[aY]at g h f) rfl;obtain⟨i0,i1,i2⟩:=aD (c:=a) (d:=34) (n:=34) (by intro e;subst e;simp[aY]at g h f) rfl;obtain⟨-,i3,-⟩:=aD (c:=a) (d:=45) (n:=45) (by intro e;subst e;simp[aY]at g h f) rfl;have i4:(48:Int)<=(a.toNat:Int):=by omega
 have i5:¬(a.toNat:Int)<=57:=by omega
 clear a0 k g h f Q i;go_enter ak,ao;go_wp2_with fail;refine(l.o _).mono ?_;rintro e w1 ⟨rfl,rfl⟩;go_wp2_with fail;refine(j.o _).mono ?_;rintro e w1 ⟨rfl,rfl⟩;go_wp2;go_ret;exact⟨rfl,rfl⟩
section
section
variable {F G:Nat->Prop} {w w':V} {b:Nat} {x:Lx} {dn:Bool} {toks:List Tok}
def cG.mono(h:cG F w b x dn toks)(g:∀k,F k->G k)(e:∀k,G k->k<w.heap.size):cG G w b x dn toks:=by
 obtain⟨j,_,d,f,a,c,i,l,m⟩:=h;exact⟨g _ j,e,d,f,a,c,i,l.mono g,m.mono g⟩
def dU.mono{f:Nat}(h:dU F w b pl f a toks)(e:∀k,F k->G k)(d:∀k,G k->k<w.heap.size):dU G w b pl f a toks:=by
 obtain⟨o,_,q,g,s,i,n,u,j,r,m,t,c,l,p⟩:=h;exact⟨e _ o,d,q,g,s,i,n,u,j,r,m,t,c,l,p.mono e⟩
def cG.H8(h:cG F w b x dn toks):dU F w b x.a x.b ar toks:=by
 obtain⟨j,c,e,g,d,a,i,f,-⟩:=h;exact⟨j,c,_,_,_,_,_,_,_,_,_,_,a,i,f⟩
def cG.block(h:cG F w b x dn toks):F b:=h.1
def cG.lt(h:cG F w b x dn toks):∀k,F k->k<w.heap.size:=h.2.1
end
def eV(F:Nat->Prop)(w:V)(b:Nat)(pl:Nat)(toks:List Tok)(r:nH)(e:au)(w':V):Prop:=
 e=aj (I O r.b)/\Keeps F w w'/\(r.b=0->cG (Since F w w') w' b r.c S (toks++r.a))/\(r.b≠0->dU (Since F w w') w' b pl r.c.b ar (toks++r.a))
def eV.I0{F:Nat->Prop}{w w':V}{b:Nat}{toks:List Tok}{a:List Tok}(d:e=aj (I O 0))(c:Keeps F w w')(h:cG (Since F w w') w' b y S (toks++a)):eV F w b pl toks ⟨y,a,0⟩ e w':=
 ⟨d,c,λ_=>h,λf=>absurd rfl f⟩
def eV.N7{F:Nat->Prop}{w w':V}{b no:Nat}{toks:List Tok}{c:List Tok}(a:no≠0)(f:e=aj (I O no))(d:Keeps F w w')(h:dU (Since F w w') w' b pl y.b ar (toks++c)):eV F w b pl toks ⟨y,c,no⟩ e w':=
 ⟨f,d,λg=>absurd g a,λ_=>h⟩
def aB6{F:Nat->Prop}{w w':V}{b:Nat}{d t v:W}{toks:List Tok}{tok:Tok}{m:W}(s:F b)(o:∀k,F k->k<w.heap.size)(x:eK F 232 id w d (toks.map bU))(z:t=bU tok)(j:y.h=.outside){c:W->Array W}
 (H:∀u,c u= #[I O y.a,ar,Y S,K (E 104) #[] #[],Y y.e,I O y.b,i,I O y.number,m,a,I O y.c,I ac y.code,I ac y.g,u])
 (h:jQ w b d (toks.map bU) t c v e w'):e=aj v/\Keeps F w w'/\cG (Since F w w') w' b y S (toks++ [tok]):=by
 obtain⟨G,g,off,cap,B,f,C,p⟩:=h;have l:Keeps F w w':=p.mono λk p=>p.elim (λe=>e▸s) (λe=>x.2 k e);refine⟨G,l,J s,aF o l.size,i,m,a,_,by rw[B,H,j];rfl,⟨?_,?_⟩,⟨λn=>?_,λn=>?_⟩⟩
 .rw[List.map_append,List.map_cons,List.map_nil,<-z];exact f
 .intro k q;cases q;exact C.elim (λe=>J (x.2 _ e)) (λr=>ai ⟨r,f.lt rfl⟩)
 .rw[j]at n;exact absurd n (by decide)
 .rw[j]at n;exact absurd n (by decide)
def aB7{F:Nat->Prop}{w w':V}{b:Nat}{toks:List Tok}{l:Oo}{p f:W}(C:F b)(r:∀k,F k->k<w.heap.size)(t:eK F 232 id w a (toks.map bU))(G:∀k,i.ownBlock=U k->F k)(j:y.h=.letter\/y.h=.numeral)(Q:y.d=l){c:W->Array W}
 (s:∃B,w.heap[b]?=U (ag B 228 (0,0)))(x:∀k,i.ownBlock=U k->a.ownBlock≠U k)
 (T:∀u,c u= #[I O y.a,ar,Y S,K (E (qJ y.h)) #[] #[],Y y.e,I O y.b,u,I O y.number,p,f,I O y.c,I ac y.code,I ac y.g,a])
 (h:oX w b i l c e w'):e=aj (I O 0)/\Keeps F w w'/\cG (Since F w w') w' b y S toks:=by
 obtain⟨R,g,off,cap,L,m,P,q⟩:=h;have o:Keeps F w w':=q.mono λk q=>q.elim (λe=>e▸C) (λe=>G k e);obtain⟨B,v⟩:=s;refine⟨R,o,J C,aF r o.size,_,p,f,a,by rw[L,T],⟨t.1.A0 q ?_,λk d=>J (t.2 k d)⟩,⟨λ_=>⟨by rw[Q];exact m,?_⟩,λH=>?_⟩⟩
 .intro k d n;rcases n with rfl|n
  .exact t.1.ne v (by decide) d
  .exact x k n d
 .intro k d;cases d;exact P.elim (λe=>J (G _ e)) (λz=>ai ⟨z,m.lt rfl⟩)
 .rcases j with j|j<;>(rw[j]at H;exact absurd H (by decide))
def aFH(h:aH c≠ []):c=110\/c=116\/c=102:=by
 unfold aH at h;split at h
 .exact J ‹_›
 .split at h
  .exact ai (J ‹_›)
  .split at h
   .exact ai (ai ‹_›)
   .exact absurd rfl h
def aFI(h:aY c=X):c=123\/c=125\/c=91\/c=93\/c=58\/c=44:=by
 simpa[aY,or_assoc]using h
def tH(F:Nat->Prop)(w:V)(b:Nat)(x:Lx)(toks:List Tok)(c:UInt8)(a0:cG F w b x S toks)(g0:x.h=.outside)(g1:x.a<=16777216)(R:toks.length<=1000):
 ae af 104 #[Z b,I D c.toNat] w λe w'=>eV F w b x.a toks (aP x c) e w':=by
 have h0:=a0;obtain⟨t,j,T,z,h,a,l,q,hs⟩:=a0;have B:(toks.map bU).length<=1000:=by simpa using R
 unfold aP;by_cases m:aI c=X
 .rw[pz m];refine(aAu w b c m).mono ?_;rintro e w' ⟨rfl,rfl⟩;exact .I0 rfl (aw _ _) (by rw[jz];exact h0.mono (λk g=>J g) (aF j (Nat.le_refl _)))
 rw[py m];simp only[];by_cases P:aY c=X
 .rw[pz P]
  have i:ae af 104 #[Z b,I D c.toNat] w λe w'=>jQ w b a (toks.map bU) (bU (.mark x.a c)) (λv=> #[x.a,ar,Y S,K (E 104) #[] #[],Y S,x.a,(),I O 0,z,h,x.c,I ac x.code,I ac x.g,v]) (I O 0) e w':=by
   exact aB3 w b x.a _ _ _ _ _ _ _ _ _ _ _ _ a c (aFI P) _ l q.1 B (by omega)
  refine i.mono λe w' s=>?_;obtain⟨C,g,H⟩:=aB6 (y:=Lx.F4 {x with e:=X,b:=x.a,d:= [],number:=0}) (tok:=.mark x.a c) t j q rfl rfl (λu=>rfl) s;exact .I0 C g H
 rw[py P];by_cases L:c=34
 .rw[pz L];subst L;refine(aAv w b x.a _ _ _ _ _ _ _ _ _ _ _ _ a l).mono ?_;rintro e w' ⟨rfl,f,d,n,o,p,g⟩;have r:Keeps F w w':=g.mono (λk e=>e▸t);exact .I0 rfl r ⟨J t,aF j g.size,_,_,_,a,o,by rw[jz];exact q.A0 (G:=λk=>k=b) g (λk e g=>q.1.ne l (by decide) (e.trans (congrArg U g))),⟨λhs=>absurd hs (by simp),λ_=>⟨.nil _ _ _ _,f,0,rfl,p,ai ⟨d,n⟩,Nat.zero_le _⟩⟩⟩
 rw[py L];by_cases d:c=45\/isD c=X
 .rw[pz d]
  obtain⟨r,p⟩:∃r,aR 0 c=U r:=by
   rcases d with rfl|Q
   .exact⟨1,rfl⟩
   .by_cases n:c=48
    .subst n;exact⟨2,rfl⟩
    .have o:c≠45:=(by intro e;subst e;exact absurd Q (by decide));exact⟨3,by simp[aR,n,o,Q]⟩
  unfold kX;rw[p]
  have i:ae af 104 #[Z b,I D c.toNat] w λe w'=>oX w b (ah N 0 0) [c] (λv=> #[x.a,ar,Y S,K (E 139) #[] #[],Y X,x.a,v,I O r,z,h,x.c,I ac x.code,I ac x.g,a]) e w':=by
   rcases d with rfl|Q
   .exact aAw w b x.a r _ _ _ _ _ _ _ _ _ _ _ _ _ l p
   .have:48<=c.toNat/\c.toNat<=57:=(by simpa[isD]using Q);exact aB5 w b x.a r _ _ _ _ _ _ _ _ _ _ _ _ _ c l this.1 this.2 p
  refine i.mono λe w' s=>?_;obtain⟨C,g,H⟩:=aB7 (y:={x with e:=X,b:=x.a,h:=.numeral,number:=r,d:= [c]}) t j q (λk e=>by cases e) (ai rfl) rfl ⟨_,l⟩ (λk e=>by cases e) (λu=>rfl) s;exact .I0 C g (by rw[jz];exact H)
 rw[py d];by_cases p:aH c≠ []
 .rw[pz p]
  have i:ae af 104 #[Z b,I D c.toNat] w λe w'=>oX w b (ah N 0 0) [c] (λv=> #[x.a,ar,Y S,K (E 141) #[] #[],Y X,x.a,v,I O 0,z,h,x.c,I ac x.code,I ac x.g,a]) e w':=by
   exact aB4 w b x.a _ _ _ _ _ _ _ _ _ _ _ _ _ c (aFH p) l
  refine i.mono λe w' s=>?_;obtain⟨C,g,H⟩:=aB7 (y:={x with e:=X,b:=x.a,number:=0,h:=.letter,d:= [c]}) t j q (λk e=>by cases e) (J rfl) rfl ⟨_,l⟩ (λk e=>by cases e) (λu=>rfl) s;exact .I0 C g (by rw[jz];exact H)
 rw[py p];have r:aH c= []:=by simpa using p
 have s:aI c=S:=by simpa using m
 have C:aY c=S:=by simpa using P
 have o:c≠45:=λe=>d (J e)
 have i:ae af 104 #[Z b,I D c.toNat] w λe w'=>e=aj (I O 94)/\w'=eN w b x.a:=by
  by_cases n:c.toNat<48
  .exact zD w b x.a _ _ _ _ _ _ _ _ _ _ _ _ _ c l s C L o n r
  .have H:57<c.toNat:=by
    apply Nat.lt_of_not_le;intro Q;exact d (ai (by simp[isD];omega))
   exact aAx w b x.a _ _ _ _ _ _ _ _ _ _ _ _ _ c l s C L o H r
 refine i.mono ?_;rintro e w' ⟨rfl,rfl⟩;have g:Keeps (λk=>k=b) w (eN w b x.a):=gD w b x.a;exact .N7 (by decide) rfl (g.mono (λk e=>e▸t)) ⟨J t,aF j g.size,_,_,_,_,_,_,_,_,_,_,a,mG l,by rw[jz];exact q.A0 (G:=λk=>k=b) g (λk e g=>q.1.ne l (by decide) (e.trans (congrArg U g)))⟩
end
