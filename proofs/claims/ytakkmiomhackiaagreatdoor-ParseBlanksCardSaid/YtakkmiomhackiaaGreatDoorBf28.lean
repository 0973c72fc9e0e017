/-
  The program, one part of its walk. Conditions: none.
-/
import Derived.Test.YtakkmiomhackiaaGreatDoorBf26
set_option linter.all false
set_option maxRecDepth 100000
set_option maxHeartbeats 16000000
open Go.Proofs.Tryz
open Bool renaming false->E,true->D
open Except renaming error->ak
open Go renaming Addr->Q,Ending->ao,Value->Z,World->U,maxLen->au
open Go.Ending renaming returned->ai
open Go.IntKind renaming i64->V,u64->Y
open Go.Obj renaming cells->S
open Go.Proofs.YtakkmiomhackiaaGreatDoor.Keeps renaming A0->ar,A8->ae
open Go.Proofs.YtakkmiomhackiaaGreatDoor.Rr renaming K8->ah
open Go.Proofs.YtakkmiomhackiaaGreatDoor.Tr renaming T8->aj
open Go.Proofs.YtakkmiomhackiaaGreatDoor.Win renaming nil->ag
open Go.Proofs.YtakkmiomhackiaaGreatDoor.cK renaming J8->bc
open Go.RowKit renaming Below->ac
open Go.RowKit.Below renaming refl->aw
open Go.Value renaming bool->G,int->O,slice->J,string->H
open List renaming getElem?_eq_getElem->af,getElem?_eq_some_iff->av,length_append->bh,length_singleton->bj
open Nat renaming le_trans->ba
open Option renaming none->I,some->N
namespace Go.Proofs.YtakkmiomhackiaaGreatDoor
open Go.RowKit
variable {s:ByteArray}{w:U}{v:Z}{b d i:Nat}{r:Rr}
def aQ.U0{s e n:Nat}{b:List Z}(h:aQ s e w v n b)(c:0<n):∃g off cap,v=J (N ⟨g,off,I⟩) n cap:=by
 rcases h with⟨_,⟨_,c⟩|⟨g,off,cap,a,rfl,_⟩⟩
 .omega
 .exact⟨g,off,cap,rfl⟩
def aFB(w:U)(L:List Stp)(e:ao)(w':U):Prop:=∃a,e=ai a/\cK 149 w' a L/\ac w w w'/\∀k,a.ownBlock=N k->w.heap.size<=k
def uO(t:Tr):Prop:=∀(F:Nat->Prop)(w:U)(d:Int)(f:Bool)(c:Nat)(g:ByteArray)(a:Option Q)(n m:Nat)(b:Option Q)(p q:Nat),ValAt F w (eQ d f c g (J a n m) (J b p q)) t->t.T8.length<=1048576->
 Calls prog 60 #[.agg #[d,f,O Y c,g,J a n m,J b p q]] w λe w'=>aFB w t.T8 e w'
def aLC{b:List (List Z)}{L:List Stp}(j:b.length=L.length)(h:∀(i:Nat)(c:List Z)(s:Stp),b[i]?=N c->L[i]?=N s->nK w c s):∀u∈b.flatten,u.oneCell'=D:=by
 intro u f;obtain⟨c,g,d⟩:=List.mem_flatten.1 f;obtain⟨i,hi,rfl⟩:=List.getElem_of_mem g;obtain⟨a,m,e,_⟩:=h i b[i] (L[i]'(by omega)) (af hi) (af (by omega));rw[e]at d;simp[aId]at d;rcases d with rfl|rfl|rfl|rfl|rfl|rfl<;>rfl
def aLW(w a:U)(l:List Tr)(i:Nat)(o:Z)(wr:U):Prop:=cK 149 wr o (dX (l.take i))/\ac a a wr/\∀k,o.ownBlock=N k->a.heap.size<=k
def aFC{F:Nat->Prop}{a:Option Q}{n m:Nat}{d:List (List Z)}{l:List Tr}(hn:l.length=n)(R:aQ 6 34 w (J a n m) n d.flatten)(B:d.length=l.length)(T:∀(i:Nat)(c:List Z)(t:Tr),d[i]?=N c->l[i]?=N t->ValAt F w c t)(ih:∀t∈l,uO t)
 (i:Nat)(hi:i<n):∃(t:Tr)(g off:Nat)(h:Int)(k:Bool)(o:Nat)(r:ByteArray)(s:Option Q)(v x:Nat)(b:Option Q)(p q:Nat),l[i]?=N t/\a=N ⟨g,off,I⟩/\∀W,ac w w W->
  (W.cell? ⟨g,off+i*6,I⟩=N (O V h)/\W.cell? ⟨g,off+i*6+1,I⟩=N (G k)/\W.cell? ⟨g,off+i*6+2,I⟩=N (O Y o)/\W.cell? ⟨g,off+i*6+3,I⟩=N (H r)/\W.cell? ⟨g,off+i*6+4,I⟩=N (J s v x)/\W.cell? ⟨g,off+i*6+5,I⟩=N (J b p q))/\
  (t.T8.length<=1048576->Calls prog 60 #[.agg #[h,k,O Y o,r,J s v x,J b p q]] W λe w'=>aFB W t.T8 e w'):=by
 have X:l[i]?=N (l[i]'(by omega)):=af (by omega);have C:d[i]?=N (d[i]'(by omega)):=af (by omega);have K:=T i _ _ C X;obtain⟨h,k,o,r,s,v,x,b,p,q,L⟩:=K.A7;rw[L]at C K;obtain⟨g2,o2,g1,e2⟩:=R.U0 (by omega);injection e2 with y1 y2 y3
 subst y1
 have y:∀c∈d,c.length=6:=by
  intro c L;obtain⟨j,z⟩:=List.getElem?_of_mem L;have f:j<l.length:=by rw[<-B];exact(av.1 z).1
  exact(T j c _ z (af f)).O4
 refine⟨_,g2,o2,h,k,o,r,s,v,x,b,p,q,X,rfl,λW hW=>⟨?_,λhl=>ih _ (List.getElem_mem _) F W _ _ _ _ _ _ _ _ _ _ (K.A2 (ar (λ_=>False) hW) λ_ _ _ a0=>a0.elim) hl⟩⟩
 have f:∀(j:Nat)(u:Z),(eQ h k o r (J s v x) (J b p q))[j]?=N u->W.cell? ⟨g2,o2+i*6+j,I⟩=N u:=λj u z=>by
  have P:j<6:=(av.1 z).1;have:=(R.A2 (ar (λ_=>False) hW) λ_ _=>id).B3 (j:=i*6+j) (u:=u) (by rw[pH y C P];exact z);rw[Nat.add_assoc];exact this
 exact⟨f 0 _ rfl,f 1 _ rfl,f 2 _ rfl,f 3 _ rfl,f 4 _ rfl,f 5 _ rfl⟩
def iP(F:Nat->Prop)(w:U)(L:Nat)(x:Bool)(y:Nat)(z:Oo)(a:Option Q)(m:Nat)(b:Option Q)(p q:Nat)(l:List Tr)(h9:List (List Z))(s:List Oo)
 (P:aQ 6 34 w (J a l.length m) l.length h9.flatten)(B:h9.length=l.length)(R:∀(i:Nat)(c:List Z)(t:Tr),h9[i]?=N c->l[i]?=N t->ValAt F w c t)(W:Win 9 encS w (J b p q) s)(X:∀t∈l,uO t)(f:(dX l).length+1<=1048576):
 Calls prog 60 #[.agg #[L,x,O Y y,H ⟨z.toArray⟩,J a l.length m,J b p q]] w λe w'=>aFB w (dX l++ [⟨L,x,y,z,if L=5 then l.length else 0,s⟩]) e w':=by
 obtain rfl:p=s.length:=by
  obtain⟨d,h,e⟩:=W.A7;injection e
 obtain⟨n,K⟩:∃n,l.length=n:=⟨_,rfl⟩;have C:=tE l;rw[K]at P⊢;have h:=heap_alloc_new w (S #[L,x,O Y y,H ⟨z.toArray⟩,J a n m,J b s.length q] 34);have r:=(aw w w).alloc (Nat.le_refl _) (S #[L,x,O Y y,H ⟨z.toArray⟩,J a n m,J b s.length q] 34);have HT:=A (aFC K P B R X);have HK:=A W;have HN:=A (And.intro K (And.intro C f));have j0:n<=1048576:=by omega
 obtain⟨W0,d⟩:∃W0,w.alloc (S #[L,x,O Y y,H ⟨z.toArray⟩,J a n m,J b s.length q] 34)=W0:=⟨_,rfl⟩;rw[d]at h r;have T:=A (And.intro h r);have i2:=A (show aLW w W0 l 0 (J I 0 0) W0 from⟨cK.nil _ _,aw _ _,λk e=>by cases e⟩);clear P B R X r C f W K h;have i4:=A d;rw[<-d]at i2;clear d;go_enter func60,ntmps60;go_wp2
 go_loopw [4,3] (λv o wr=>∃i:Nat,v=O V i/\i<=n/\M (aLW w W0 l i o wr)) (λv _ _=>n-(intOf v).toNat)
 case atStart=>exact⟨0,rfl,Nat.zero_le _,i4.o▸i2⟩
 case round=>
  obtain⟨i,rfl,hi,HL⟩:=hrel;obtain⟨hs,P,ho⟩:=HL.o;obtain⟨oa,oc,rfl⟩:=hs.A7;obtain⟨c0,c1,c2,c3,c4,c5,-⟩:=bJ (keep T.o.1 P)
  by_cases i5:i<n
  .have e1:(i:Int)<(n:Int):=by omega
   have i0:(0:Int)<=(i:Int):=by omega
   obtain⟨t,g,off,j1,j2,j3,j4,a1,n1,m1,b1,p1,q1,h8,rfl,h⟩:=HT.o i i5;obtain⟨⟨d0,d1,d2,d3,d4,d5⟩,d⟩:=h wr (chain T.o.2 P);have f:=aA7 h8;have HC:=A (d (by have:=HN.o.2.2;omega));have HM:=A (And.intro h8 f);clear h d h8 f hs P ho;go_wp2_with fail;refine HC.o.mono ?_;rintro e w3 ⟨V2,rfl,⟨css2,B,r,C⟩,X,K⟩;obtain⟨g2,o2,c2,rfl⟩:=r.U0 (aBV t);obtain⟨i3,d,h,f⟩:=HL.o.1.A4 X;have HW:=A h;have i6:=A (show ∀(j:Nat)(u:Z),css2.flatten[j]?=N u->w3.cell? ((⟨g2,o2,I⟩:Q).add j)=N u from λj u hj=>by rw[Addr.add_lit];exact r.B3 hj);have HX:=A (And.intro d (And.intro f (And.intro B (And.intro r (And.intro C X)))));have i7:=A (aLC B C);have j5:(dX (l.take i)).length+t.T8.length<=1048576:=by have:=HM.o.2;have:=HN.o.2.2;omega
   clear d h f B r C X K
   go_wp2_with (at_builtin;refine bC zA rfl _ _ rfl rfl HW.o ⟨g2,o2,I⟩ _ c2 css2.flatten rfl HX.o.2.2.2.1.1 i6.o i7.o (aBV t) ?_ ?_ ?_)
   .omega
   .unfold au;omega
   intro g' i8 i9 w' r K W;have R:=A (And.intro r (And.intro K W));clear r K W;go_wp2_with fail;obtain⟨d,f,B,_,C,X⟩:=HX.o;have i1:=chain HL.o.2.1 X;refine⟨⟨i+1,by go_num,by omega,A ⟨?_,i1.trans (R.o.2.2.C6 i1.size HL.o.2.2),λk e=>?_⟩⟩,by simp[intOf];omega⟩
   .rw[uN HM.o.1];exact cK.S8 (by decide) d HW.o f B C R.o.2.2 R.o.1
   .cases e;exact R.o.2.1.elim (HL.o.2.2 _) λa0=>ba i1.size a0.1
  .have e1:¬(i:Int)<(n:Int):=by omega
   have i1:i=n:=by omega
   have B:l.take i=l:=by rw[i1,<-HN.o.1,List.take_length]
   rw[B];have h8:=lt_of_block (keep T.o.1 P)
   have C:=HL.o.1;rw[B]at C;obtain⟨i3,d,h,f⟩:=C;obtain⟨i6,-,-⟩:=h.A7;have HX:=A (And.intro d (And.intro h (And.intro f (And.intro (chain T.o.2 P) λk e=>ba T.o.2.size (HL.o.2.2 k (by rw[B];exact e))))));have X:=A (HK.o.A2 (ar (λ_=>False) (chain T.o.2 P)) λ_ _=>id);have i7:(dX l).length+1<=1048576:=HN.o.2.2;clear hs P ho d f B
   by_cases h5:L=5
   .subst h5;have A1:=A (lU (wr.alloc (S #[O V 5,x,O Y y,H ⟨z.toArray⟩,O V n,J b s.length q] 149)) (O V 5) (G x) (O Y y) (H ⟨z.toArray⟩) (O V n) (J b s.length q) 149);have B:=A (show ∀(j:Nat)(u:Z),[O V 5,G x,O Y y,H ⟨z.toArray⟩,O V n,J b s.length q][j]?=N u->((wr.alloc (S #[O V 5,x,O Y y,H ⟨z.toArray⟩,O V n,J b s.length q] 149)).alloc (S #[O V 5,x,O Y y,H ⟨z.toArray⟩,O V n,J b s.length q] 149)).cell? ((⟨wr.heap.size+1,0,I⟩:Q).add j)=N u from λj u hj=>by have:=A1.o j u hj;simpa using this);have HW:=A (h.A2 (((ae (λ_=>False) wr).A6 (S #[O V 5,x,O Y y,H ⟨z.toArray⟩,O V n,J b s.length q] 149)).A6 (S #[O V 5,x,O Y y,H ⟨z.toArray⟩,O V n,J b s.length q] 149)) λ_ _=>id);clear h
    go_wp2_with (at_builtin;refine bC zA rfl _ _ rfl rfl HW.o ⟨wr.heap.size+1,0,I⟩ 1 1 _ rfl rfl B.o (by intro u hu;simp at hu;rcases hu with rfl|rfl|rfl|rfl|rfl|rfl<;>rfl) (by decide) ?_ ?_ ?_)
    .omega
    .unfold au;omega
    intro g off cap w4 r K W;have R:=A (And.intro r (And.intro K W));clear r K W;go_wp2;go_ret;obtain⟨d,h,f,P,ho⟩:=HX.o;refine⟨_,rfl,bc (by decide) d h f ⟨b,q,rfl,X.o⟩ ((((ae _ wr).A6 _).A6 _).same R.o.2.2) R.o.1,P.trans ((((ae _ wr).A6 _).A6 _).same R.o.2.2 |>.C6 P.size λk e=>ho k e),λk e=>?_⟩;cases e;exact R.o.2.1.elim (λa0=>ho _ a0) λa0=>by have:=a0.1;have:=P.size;simp at*;show w.heap.size<=g;omega
   .have e5:((L:Int)==5)=E:=by simp;omega
    have A1:=A (lU (wr.alloc (S #[L,x,O Y y,H ⟨z.toArray⟩,O V 0,J b s.length q] 149)) (O V L) (G x) (O Y y) (H ⟨z.toArray⟩) (O V 0) (J b s.length q) 149);have B:=A (show ∀(j:Nat)(u:Z),[O V L,G x,O Y y,H ⟨z.toArray⟩,O V 0,J b s.length q][j]?=N u->((wr.alloc (S #[L,x,O Y y,H ⟨z.toArray⟩,O V 0,J b s.length q] 149)).alloc (S #[L,x,O Y y,H ⟨z.toArray⟩,O V 0,J b s.length q] 149)).cell? ((⟨wr.heap.size+1,0,I⟩:Q).add j)=N u from λj u hj=>by have:=A1.o j u hj;simpa using this);have HW:=A (h.A2 (((ae (λ_=>False) wr).A6 (S #[L,x,O Y y,H ⟨z.toArray⟩,O V 0,J b s.length q] 149)).A6 (S #[L,x,O Y y,H ⟨z.toArray⟩,O V 0,J b s.length q] 149)) λ_ _=>id);clear h
    go_wp2_with (at_builtin;refine bC zA rfl _ _ rfl rfl HW.o ⟨wr.heap.size+1,0,I⟩ 1 1 _ rfl rfl B.o (by intro u hu;simp at hu;rcases hu with rfl|rfl|rfl|rfl|rfl|rfl<;>rfl) (by decide) ?_ ?_ ?_)
    .omega
    .unfold au;omega
    intro g off cap w4 r K W;have R:=A (And.intro r (And.intro K W));clear r K W;go_wp2;go_ret;obtain⟨d,h,f,P,ho⟩:=HX.o;refine⟨_,rfl,bc (by decide) d h f ⟨b,q,rfl,X.o⟩ ((((ae _ wr).A6 _).A6 _).same R.o.2.2) R.o.1,P.trans ((((ae _ wr).A6 _).A6 _).same R.o.2.2 |>.C6 P.size λk e=>ho k e),λk e=>?_⟩;cases e;exact R.o.2.1.elim (λa0=>ho _ a0) λa0=>by have:=a0.1;have:=P.size;simp at*;show w.heap.size<=g;omega
def aAt{t:Tr}(h:Small t):uO t:=by
 induction h with
 | null=>
  intro F w f k g o a n m b p q d j;generalize r:eQ f k g o (J a n m) (J b p q)=c at d;cases d;cases r;rw[aj];exact iP F w 1 E 0 [] I 0 I 0 0 [] [] [] (.nil _ _ _) rfl (λi c t h=>by simp at h) (ag _ _ _) (λt h=>by simp at h) (by simp[dX])
 | flag x=>
  intro F w f k g o a n m b p q d j;generalize r:eQ f k g o (J a n m) (J b p q)=c at d;cases d;cases r;rw[aj];exact iP F w 2 x 0 [] I 0 I 0 0 [] [] [] (.nil _ _ _) rfl (λi c t h=>by simp at h) (ag _ _ _) (λt h=>by simp at h) (by simp[dX])
 | num x=>
  intro F w f k g o a n m b p q d j;generalize r:eQ f k g o (J a n m) (J b p q)=c at d;cases d;cases r;rw[aj];exact iP F w 3 E x [] I 0 I 0 0 [] [] [] (.nil _ _ _) rfl (λi c t h=>by simp at h) (ag _ _ _) (λt h=>by simp at h) (by simp[dX])
 | text s=>
  intro F w f k g o a n m b p q d j;generalize r:eQ f k g o (J a n m) (J b p q)=c at d;cases d;cases r;rw[aj];exact iP F w 4 E 0 s I 0 I 0 0 [] [] [] (.nil _ _ _) rfl (λi c t h=>by simp at h) (ag _ _ _) (λt h=>by simp at h) (by simp[dX])
 | list l z h L=>
  intro F w f k g o a n m b p q d j;generalize r:eQ f k g o (J a n m) (J b p q)=c at d;rw[tD]at j⊢;rw[bh,bj]at j;cases d with
  | list X u l y R v C=>
   cases r;obtain⟨_,_,e⟩:=y.A7;cases e;exact iP F w 5 E 0 [] a m I 0 0 l u [] y v C (ag _ _ _) L j
 | object keys l W z h L=>
  intro F w f k g o a n m b p q d j;generalize r:eQ f k g o (J a n m) (J b p q)=c at d;rw[nE]at j⊢;rw[bh,bj]at j;cases d with
  | object X K u keys l y R B T v P C=>
   cases r;obtain⟨_,_,e⟩:=y.A7;cases e;exact iP F w 6 E 0 [] a m b p q l u keys y v C B L j
def aDI(s:ByteArray):(s !=s)=E:=by
 rcases s with⟨d⟩
 show(!(d==d))=E
 simp
def LG(s:ByteArray)(d:Nat)(en:Bool)(X:Except (Nat×Nat) Tr)(i:Nat)(r:Rr):Prop:=i<=s.size/\(∃p,Alike p r d i)/\(en=D->X=ah d r i (s.data.toList.drop i))
def aGx(w1:U)(c:Nat)(s:ByteArray)(d:Nat)(en:Bool)(X:Except (Nat×Nat) Tr)(v:Z)(wr:U):Prop:=ac c w1 wr/\
 ((v = G D /\ ∃ i r b, aU wr c s d i r b /\ LG s d en X i r) \/ (v = G E /\ (∃ i r b, aU wr c s d i r b) /\ (en = D -> X = ak (95, s.size))) \/
   (v=G D/\∃no a:Nat,no≠0/\zR wr c no a/\(en=D->X=ak (no,a))))
def placeOf(a:Nat)(wr:U):Nat:=match wr.cell? ⟨a,2,I⟩with
 | some (O _ i)=>i.toNat
 | _=>0
def zW(a:Nat)(v:Z)(wr:U):Bool:=match v,wr.cell? ⟨a,13,I⟩with
 | .bool D,N (O _ n)=>n==0
 | _,_=>E
def mOf(s:ByteArray)(a:Nat)(v:Z)(wr:U):Nat:=if zW a v wr=D then s.size+2-placeOf a wr else 0
def lK(no a f:Int)(b:Int)(d:Bool)(e:Int)(g:Bool)(c:Nat)(h:ByteArray)(i K:Z):Z:=.agg #[no,a,f,b,d,e,g,O Y c,h,i,K]
def aMv(w:U)(en:Bool)(X:Except (Nat×Nat) Tr)(e:ao)(w':U):Prop:=∃(no a f q:Int)(p:Bool)(c:Int)(i:Bool)(g:Nat)(o:ByteArray)(h:Option Q)(j m:Nat)(b:Option Q)(d l:Nat),e=ai (lK no a f q p c i g o (J h j m) (J b d l))/\ac w w w'/\
 (en=D->match X with
  | .error (n,_)=>no=(n:Int)/\n≠0
  | .ok t=>no=0/\ValAt (λk=>w.heap.size<=k) w' (eQ c i g o (J h j m) (J b d l)) t)
def eB{i f d c j k e m a l g:Z}{T:TypeId}(h:w.heap[b]?=N (S #[i,f,d,c,j,k,e,m,a,l,g] T (0,0))):
 w.cell? b=N i/\w.cell? ⟨b,1,I⟩=N f/\w.cell? ⟨b,2,I⟩=N d/\w.cell? ⟨b,3,I⟩=N c/\w.cell? ⟨b,4,I⟩=N j/\w.cell? ⟨b,5,I⟩=N k/\w.cell? ⟨b,6,I⟩=N e/\w.cell? ⟨b,7,I⟩=N m/\w.cell? ⟨b,8,I⟩=N a/\w.cell? ⟨b,9,I⟩=N l/\w.cell? ⟨b,10,I⟩=N g/\∀o,w.frozen? ⟨b,o,I⟩=E:=
 ⟨aA h,aA h,aA h,aA h,aA h,aA h,aA h,aA h,aA h,aA h,aA h,free_at h⟩
def kQ{C B y x s r p n l j:Z}{t:TypeId}(a c d e f g h i m q u:Z)(a0:w.heap[b]?=N (S #[C,B,y,x,v,s,r,p,n,l,j] t (0,0))):
 (((((((((((w.setCell b a).setCell ⟨b,1,I⟩ c).setCell ⟨b,2,I⟩ d).setCell ⟨b,3,I⟩ e).setCell ⟨b,4,I⟩ f).setCell ⟨b,5,I⟩ g).setCell ⟨b,6,I⟩ h).setCell ⟨b,7,I⟩ i).setCell ⟨b,8,I⟩ m).setCell ⟨b,9,I⟩ q).setCell ⟨b,10,I⟩ u).heap[b]?=N (S #[a,c,d,e,f,g,h,i,m,q,u] t (0,0))/\
 Keeps (λk=>k=b) w (((((((((((w.setCell b a).setCell ⟨b,1,I⟩ c).setCell ⟨b,2,I⟩ d).setCell ⟨b,3,I⟩ e).setCell ⟨b,4,I⟩ f).setCell ⟨b,5,I⟩ g).setCell ⟨b,6,I⟩ h).setCell ⟨b,7,I⟩ i).setCell ⟨b,8,I⟩ m).setCell ⟨b,9,I⟩ q).setCell ⟨b,10,I⟩ u):=by
 have F:(w.setCell b a).heap[b]?=N (S #[a,B,y,x,v,s,r,p,n,l,j] t (0,0)):=aB (o:=0) a0 a;have K:((w.setCell b a).setCell ⟨b,1,I⟩ c).heap[b]?=N (S #[a,c,y,x,v,s,r,p,n,l,j] t (0,0)):=aB (o:=1) F c;have L:(((w.setCell b a).setCell ⟨b,1,I⟩ c).setCell ⟨b,2,I⟩ d).heap[b]?=N (S #[a,c,d,x,v,s,r,p,n,l,j] t (0,0)):=aB (o:=2) K d;have P:((((w.setCell b a).setCell ⟨b,1,I⟩ c).setCell ⟨b,2,I⟩ d).setCell ⟨b,3,I⟩ e).heap[b]?=N (S #[a,c,d,e,v,s,r,p,n,l,j] t (0,0)):=aB (o:=3) L e;have R:(((((w.setCell b a).setCell ⟨b,1,I⟩ c).setCell ⟨b,2,I⟩ d).setCell ⟨b,3,I⟩ e).setCell ⟨b,4,I⟩ f).heap[b]?=N (S #[a,c,d,e,f,s,r,p,n,l,j] t (0,0)):=aB (o:=4) P f;have T:((((((w.setCell b a).setCell ⟨b,1,I⟩ c).setCell ⟨b,2,I⟩ d).setCell ⟨b,3,I⟩ e).setCell ⟨b,4,I⟩ f).setCell ⟨b,5,I⟩ g).heap[b]?=N (S #[a,c,d,e,f,g,r,p,n,l,j] t (0,0)):=aB (o:=5) R g;have W:(((((((w.setCell b a).setCell ⟨b,1,I⟩ c).setCell ⟨b,2,I⟩ d).setCell ⟨b,3,I⟩ e).setCell ⟨b,4,I⟩ f).setCell ⟨b,5,I⟩ g).setCell ⟨b,6,I⟩ h).heap[b]?=N (S #[a,c,d,e,f,g,h,p,n,l,j] t (0,0)):=aB (o:=6) T h;have X:((((((((w.setCell b a).setCell ⟨b,1,I⟩ c).setCell ⟨b,2,I⟩ d).setCell ⟨b,3,I⟩ e).setCell ⟨b,4,I⟩ f).setCell ⟨b,5,I⟩ g).setCell ⟨b,6,I⟩ h).setCell ⟨b,7,I⟩ i).heap[b]?=N (S #[a,c,d,e,f,g,h,i,n,l,j] t (0,0)):=aB (o:=7) W i;have h8:(((((((((w.setCell b a).setCell ⟨b,1,I⟩ c).setCell ⟨b,2,I⟩ d).setCell ⟨b,3,I⟩ e).setCell ⟨b,4,I⟩ f).setCell ⟨b,5,I⟩ g).setCell ⟨b,6,I⟩ h).setCell ⟨b,7,I⟩ i).setCell ⟨b,8,I⟩ m).heap[b]?=N (S #[a,c,d,e,f,g,h,i,m,l,j] t (0,0)):=aB (o:=8) X m;have h9:((((((((((w.setCell b a).setCell ⟨b,1,I⟩ c).setCell ⟨b,2,I⟩ d).setCell ⟨b,3,I⟩ e).setCell ⟨b,4,I⟩ f).setCell ⟨b,5,I⟩ g).setCell ⟨b,6,I⟩ h).setCell ⟨b,7,I⟩ i).setCell ⟨b,8,I⟩ m).setCell ⟨b,9,I⟩ q).heap[b]?=N (S #[a,c,d,e,f,g,h,i,m,q,j] t (0,0)):=aB (o:=9) h8 q;have z:(((((((((((w.setCell b a).setCell ⟨b,1,I⟩ c).setCell ⟨b,2,I⟩ d).setCell ⟨b,3,I⟩ e).setCell ⟨b,4,I⟩ f).setCell ⟨b,5,I⟩ g).setCell ⟨b,6,I⟩ h).setCell ⟨b,7,I⟩ i).setCell ⟨b,8,I⟩ m).setCell ⟨b,9,I⟩ q).setCell ⟨b,10,I⟩ u).heap[b]?=N (S #[a,c,d,e,f,g,h,i,m,q,u] t (0,0)):=aB (o:=10) h9 u;exact⟨z,(((((((((((ae (λk=>k=b) w).own _ _).own _ _).own _ _).own _ _).own _ _).own _ _).own _ _).own _ _).own _ _).own _ _).own _ _⟩
def aMe(w1:U)(b:Nat)(s:ByteArray)(d:Nat)(en:Bool)(X:Except (Nat×Nat) Tr)(c:Nat)(r:Rr)(wr:U):Prop:=ac b w1 wr/\∃i a,c<=i/\aU wr b s d i r a/\LG s d en X i r
def LG.U1{en:Bool}{X:Except (Nat×Nat) Tr}(h:LG s d en X i r)(f:s.size<=16777216)(hi:i<s.size)(a:aI s[i]=D):LG s d en X (i+1) r:=by
 obtain⟨_,⟨p,b⟩,c⟩:=h;refine⟨hi,vU b a (by omega),λe=>?_⟩;rw[c e,bA hi,ah,if_pos a]
def aMf{a:Nat}(h:aU w b s d i r a):mOf s b (G D) w=s.size+2-i:=by
 obtain⟨P,e,k,m,l,p,a1,o,n,a2,q,j,c,-⟩:=h;obtain⟨⟨_,_,g,_⟩,⟨_,_,_,_,_,f,_⟩,_⟩:=dF c;unfold mOf zW placeOf;rw[f,g];simp
def aLM{a:Nat}:mOf s a (G E) w=0:=by
 unfold mOf zW;simp
def aLN{c no:Nat}{a:Int}(h:zR w c no a)(d:no≠0):mOf s c (G D) w=0:=by
 obtain⟨g,m,r,u,P,b,bytes,j,n,l,t,a1,q,o,a2,k,i,p,e⟩:=h;obtain⟨_,⟨_,_,_,_,_,f,_⟩,_⟩:=dF e;unfold mOf zW;rw[f];have:(((no:Nat):Int)==0)=E:=by simp;omega
 simp[this]
def lJ.J5{w':U}{c:Nat}{R:Ra}{e:ao}(h:lJ w c s d i R e w'):∃b,e=ai (G b):=by
 obtain⟨_,h⟩:=h;cases R with
 | on n r=>exact⟨_,h.1⟩
 | cut=>exact⟨_,h.1⟩
 | bad no a=>exact⟨_,h.1⟩
def aIM{w1 wr u:U}{q:Nat}{en v:Bool}{X:Except (Nat×Nat) Tr}(k:ac q w1 wr)(w:LG s d en X b r)(hi:b<s.size)(P:s.size<=16777216)(y:aI s[b]=E)(z:q<=wr.heap.size)(c:lJ wr q s d b (r.T7 en d s[b] (s.data.toList.drop (b+1))) (ai (G v)) u)(B:i<=b):
 aGx w1 q s d en X (G v) u/\mOf s q (G v) u<s.size+2-i:=by
 obtain⟨_,⟨p,C⟩,F⟩:=w;have l:(s.data.toList.drop (b+1)).length=s.size-(b+1):=by simp
 have g:en=D->X=match r.B4 d s[b] (s.data.toList.drop (b+1))with
  | .cut=>ak (95,b+((s.data.toList.drop (b+1)).length+1))
  | .bad no a=>ak (no,b+a)
  | .on n f=>ah d f (b+n) ((s.data.toList.drop (b+1)).drop (n-1)):=λe=>by
  rw[F e,bA hi,ah,if_neg (by rw[y];simp)];cases r.B4 d s[b] (s.data.toList.drop (b+1))<;>rfl
 obtain⟨m,c⟩:=c;cases h:r.T7 en d s[b] (s.data.toList.drop (b+1))with
 | on n t=>
  rw[h]at c;obtain⟨f,o,j⟩:=c;obtain⟨R,K,L,x⟩:=zV C y (by rw[l];omega) h;rw[l]at K;injection f with f
  injection f with f
  subst f;refine⟨⟨k.trans m,.inl ⟨rfl,b+n,t,o,j,by omega,⟨L,x⟩,λe=>?_⟩⟩,by rw[aMf j];omega⟩;rw[g e,aEr h]
  show ah d t (b+n) ((s.data.toList.drop (b+1)).drop (n-1))=_
  rw[List.drop_drop,show b+1+(n-1)=b+n by omega]
 | cut=>
  rw[h]at c;obtain⟨f,t,o,j⟩:=c;injection f with f
  injection f with f
  subst f;refine⟨⟨k.trans m,.inr (.inl ⟨rfl,⟨b,t,o,j⟩,λe=>?_⟩)⟩,by rw[aLM];omega⟩;subst e;rw[rK]at h;rw[g rfl,h,l,show b+(s.size-(b+1)+1)=s.size by omega]
 | bad no a=>
  rw[h]at c;obtain⟨f,j⟩:=c;have o:=aKP h;injection f with f
  injection f with f
  subst f;refine⟨⟨k.trans m,.inr (.inr ⟨rfl,no,b+a,o,j,λe=>?_⟩)⟩,by rw[aLN j o];omega⟩;subst e;rw[rK]at h;rw[g rfl,h]
def aBo(w:U)(s:ByteArray)(d:Nat)(en:Bool)(hd:d<=512)(hs:s.size<=16777216):Calls prog 48 #[s,d,en] w λe w'=>aMv w en (jR s.data.toList d) e w':=by
 obtain⟨X,m⟩:∃X,jR s.data.toList d=X:=⟨_,rfl⟩;obtain⟨h,g⟩:∃h,w.heap.size+1=h:=⟨_,rfl⟩;obtain⟨w1,c⟩:∃w1,(w.alloc (S #[O V 0,O V 0,O V 0,O V 0,G E,O V 0,G E,O Y 0,"",(),()] 36)).alloc (S (rdC s d 0 0 (J I 0 0) 0 0 0 E 0 ⟨#[]⟩ (J I 0 0) (J I 0 0) 0 0 0) 172)=w1:=⟨_,rfl⟩
 have f:w1.heap[h]?=N (S (rdC s d 0 0 (J I 0 0) 0 0 0 E 0 ⟨#[]⟩ (J I 0 0) (J I 0 0) 0 0 0) 172 (0,0)):=by
  rw[<-c,<-g];have:=heap_alloc_new (w.alloc (S #[O V 0,O V 0,O V 0,O V 0,G E,O V 0,G E,O Y 0,"",(),()] 36)) (S (rdC s d 0 0 (J I 0 0) 0 0 0 E 0 ⟨#[]⟩ (J I 0 0) (J I 0 0) 0 0 0) 172);rw[World.size_alloc]at this;exact this
 have j:aU w1 h s d 0 ⟨0,[],0,0,.null⟩ h:=⟨J I 0 0,[],0,E,0,⟨#[]⟩,I,0,0,I,0,0,f,Nat.le_of_lt (lt_of_block f),.nil _ _ _,λk e=>(by cases e),.nil _ _ (Nat.le_refl _),λe=>(by cases e)⟩;have i3:=A (show aGx w1 h s d en X (G D) w1 from⟨aw _ _,.inl ⟨rfl,0,_,_,j,Nat.zero_le _,⟨_,uW hd⟩,λ_=>by rw[<-m];rfl⟩⟩)
 have l:w1.heap[w.heap.size]?=N (S #[O V 0,O V 0,O V 0,O V 0,G E,O V 0,G E,O Y 0,"",(),()] 36 (0,0)):=by
  rw[<-c];exact(Below.heap_alloc _ _ _ (by simp)).trans (heap_alloc_new w _)
 have b:=A (show w1.heap[w.heap.size]?=N (S #[O V 0,O V 0,O V 0,O V 0,G E,O V 0,G E,O Y 0,"",(),()] 36 (0,0))/\ac w w w1/\w.heap.size+1=h from⟨l,by rw[<-c];exact((aw w w).alloc (Nat.le_refl _) _).alloc (by simp) _,g⟩);rw[m];have h7:=A (lt_of_block f);clear f j l m;go_enter func48,ntmps48;go_wp2_with fail;have f:(w.alloc (S #[O V 0,O V 0,O V 0,O V 0,G E,O V 0,G E,O Y 0,"",(),()] 36)).alloc (S #[s,d,O V 0,O V 0,(),O V 0,O V 0,O V 0,G E,O Y 0,"",(),(),O V 0,O V 0,O V 0] 172)=w1:=c;rw[f];clear c f g
 go_loopw [8] (λv wr=>M (aGx w1 h s d en X v wr)) (λv wr=>mOf s h v wr)
 case atStart=>exact i3
 case round=>
  obtain⟨f,u⟩:=hrel.o;rcases u with⟨rfl,i,r,h8,q,g⟩|⟨rfl,⟨i,r,h8,q⟩,hx⟩|⟨rfl,no,a,h9,q,hx⟩
  .have i7:=A g;have c:=q;obtain⟨P,h1,so,fl,bi,tx,a1,n1,m1,a2,n2,m2,n,-⟩:=q;obtain⟨⟨-,-,q2,-,-,-,-,-⟩,⟨-,-,-,-,-,qd,-,-⟩,-⟩:=dF n;have i4:=A (show mOf s h (G D) wr=s.size+2-i from by unfold mOf zW placeOf;rw[qd,q2];simp);have i5:=A (show aMe w1 h s d en X i r wr from⟨f,i,h8,Nat.le_refl _,c,g⟩);clear n c g f;go_wp2
   go_loopw [18] (λ_ wi=>M (aMe w1 h s d en X i r wi)) (λ_ wi=>s.size-placeOf h wi)
   case atStart=>exact i5
   case round=>
    obtain⟨f,j,g9,z,c,g⟩:=hrel.o;have h0:=A (And.intro c (And.intro g z));have l:=A f
    by_cases h3:j<s.size
    .have e1:(j:Int)<(s.size:Int):=by omega
     have L:(0:Int)<=(j:Int):=by omega
     have o:=A (λW=>xQ W s[j]);obtain⟨R,c2,T⟩:=c.cells;have t:h<wr.heap.size:=by obtain⟨P,h1,so,fl,bi,tx,a1,n1,m1,a2,n2,m2,n,-⟩:=c;exact lt_of_block n
     have y:=A t;have x:placeOf h wr=j:=by unfold placeOf;rw[c2];simp
     have B:=A x;cases m:aI s[j]with
     | true=>
      rw[m]at o;have j1:V.wrap ((j:Int)+1)=((j+1:Nat):Int):=by rw[IntKind.wrap_i64];omega
      have C:=A (show aMe w1 h s d en X i r (wr.setCell ⟨h,2,I⟩ (O V ((j:Int)+1)))from⟨f.trans (((ae (λk=>k=h) wr).own 2 _).C6 (ba (Nat.le_of_lt h7.o) f.size) λk e=>by omega),j+1,g9,by omega,c.B4 (j+1) _ (by simp),g.U1 hs h3 m⟩)
      have F:=A (show placeOf h (wr.setCell ⟨h,2,I⟩ (O V ((j:Int)+1)))=j+1 from by
       have K:=(c.B4 (j+1) ((j:Int)+1) (by simp)).cells.2.1;unfold placeOf;rw[K];simp)
      clear c g f x m t;go_wp2_with fail;refine(o.o _).mono ?_;rintro e w2 ⟨rfl,rfl⟩;go_wp2_with fail;exact⟨A C.o,by rw[F.o,B.o];omega⟩
     | false=>
      rw[m]at o;have C:=A (aGt wr h s d j g9 r c (by obtain⟨_,⟨p,K⟩,_⟩:=g;exact aBn K hd) en h3 hs);have F:=A m;clear f x t c g m;go_wp2_with fail;refine(o.o _).mono ?_;rintro e w2 ⟨rfl,rfl⟩;go_wp2_with fail;refine C.o.mono ?_;rintro e x u;obtain⟨bv,rfl⟩:=lJ.J5 u;have t:=A u;clear u;go_wp2_with fail;have m:=aIM l.o h0.o.2.1 h3 hs F.o (Nat.le_of_lt y.o) t.o h0.o.2.2;exact⟨A m.1,by rw[i4.o];exact m.2⟩
    .have e1:¬(j:Int)<(s.size:Int):=by omega
     have e2:(s.size:Int)<=(j:Int):=by omega
     have m:j=s.size:=by have:=g.1;omega
     have i0:=A (show en=D->X=if r.a=6 then .ok r.done else ak (95,s.size)from λa0=>by
      rw[g.2.2 a0,m,List.drop_of_length_le (by simp),ah])
     obtain⟨P,h1,so,fl,bi,tx,a1,n1,m1,a2,n2,m2,n,t⟩:=c;obtain⟨pa,pc,rfl⟩:=t.a.A7;obtain⟨x,y⟩:∃x,r.e.length=x:=⟨_,rfl⟩;rw[y]at n;obtain⟨⟨-,-,q2,q3,q4,-,-,q7⟩,⟨q8,q9,qa,qb,qc,qd,-,-⟩,-⟩:=dF n;have h4:=A n;have i6:=A t.done;clear n t y g f m z;cases en with
     | true=>
      by_cases o:r.a=6
      .have k6:((r.a:Int)!=6)=E:=by simp;omega
       have g7:=A (And.intro (i6.o o) (show X=.ok r.done by rw[i0.o rfl,if_pos o]));have g:=(l.o.block w.heap.size (by have:=b.o.2.2;omega)).trans b.o.1;have m:=A (kQ (O V 0) (O V 0) (O V 0) (O V 0) (G D) (O V so) (G fl) (O Y bi) (H tx) (J a1 n1 m1) (J a2 n2 m2) g);obtain⟨p0,p1,p2,p3,p4,p5,p6,p7,p8,p9,i1,pf⟩:=eB g;have n5:¬h=w.heap.size:=by have:=b.o.2.2;omega
       clear g o;go_wp2_with fail;obtain⟨z,B,C,F,K,L,R,T,r8,r9,ra,_⟩:=eB m.o.1;refine bodyPost_ret (v:=lK 0 0 0 0 D so fl bi tx (J a1 n1 m1) (J a2 n2 m2)) (by simp[results,results48,go_sem,lK,z,B,C,F,K,L,R,T,r8,r9,ra]) rfl ⟨0,0,0,0,D,so,fl,bi,tx,a1,n1,m1,a2,n2,m2,rfl,?_,λa0=>?_⟩
       .exact(b.o.2.1.trans (l.o.mono (by have:=b.o.2.2;omega))).trans (m.o.2.C6 (ba b.o.2.1.size l.o.size) λk e=>by omega)
       .rw[g7.o.2];refine⟨rfl,(g7.o.1.A2 m.o.2 λk e _ e2=>by have:=b.o.2.2;omega).mono λk e _=>by have:=b.o.2.2;omega⟩
      .have k6:((r.a:Int)!=6)=D:=by simp;omega
       have h5:=A (show D=D->X=ak (95,s.size)from λa0=>by rw[i0.o a0,if_neg o]);clear o;go_wp2_with fail;refine(sG wr h 95 s.size s.size s d _ r.a _ _ _ _ _ _ _ _ _ h4.o).mono ?_;rintro e w5 ⟨rfl,o,g7⟩;obtain⟨⟨-,-,-,-,-,-,-,-⟩,⟨-,-,-,-,-,zd,ze,zf⟩,_⟩:=dF g7;have g:=o.B7 ((l.o.block w.heap.size (by have:=b.o.2.2;omega)).trans b.o.1) (by have:=b.o.2.2;omega);have m:=A (kQ (O V 95) (O V s.size) (O V s.size) (O V 0) (G E) (O V 0) (G E) (O Y 0) (H ⟨#[]⟩) (J I 0 0) (J I 0 0) g);obtain⟨p0,p1,p2,p3,p4,p5,p6,p7,p8,p9,pa,pf⟩:=eB g;have g8:=A o;clear o g7 g;go_wp2_with fail;obtain⟨z,B,C,F,K,L,R,T,r8,r9,ra,_⟩:=eB m.o.1;refine bodyPost_ret (v:=lK 95 s.size s.size 0 E 0 E 0 ⟨#[]⟩ (J I 0 0) (J I 0 0)) (by simp[results,results48,go_sem,lK,z,B,C,F,K,L,R,T,r8,r9,ra]) rfl ⟨95,s.size,s.size,0,E,0,E,0,⟨#[]⟩,I,0,0,I,0,0,rfl,?_,λa0=>?_⟩
       .exact((b.o.2.1.trans (l.o.mono (by have:=b.o.2.2;omega))).trans (g8.o.C6 (ba b.o.2.1.size l.o.size) λk e=>by have:=b.o.2.2;omega)).trans (m.o.2.C6 (ba (ba b.o.2.1.size l.o.size) g8.o.size) λk e=>by omega)
       .rw[h5.o (by first|exact a0|trivial)];exact⟨rfl,by decide⟩
     | false=>
      have g:=(l.o.block w.heap.size (by have:=b.o.2.2;omega)).trans b.o.1;have m:=A (kQ (O V 0) (O V 0) (O V 0) (O V x) (G E) (O V 0) (G E) (O Y 0) (H ⟨#[]⟩) (J I 0 0) (J I 0 0) g);obtain⟨p0,p1,p2,p3,p4,p5,p6,p7,p8,p9,i1,pf⟩:=eB g;clear g;go_wp2_with fail;obtain⟨z,B,C,F,K,L,R,T,r8,r9,ra,_⟩:=eB m.o.1;refine bodyPost_ret (v:=lK 0 0 0 x E 0 E 0 ⟨#[]⟩ (J I 0 0) (J I 0 0)) (by simp[results,results48,go_sem,lK,z,B,C,F,K,L,R,T,r8,r9,ra]) rfl ⟨0,0,0,x,E,0,E,0,⟨#[]⟩,I,0,0,I,0,0,rfl,?_,λa0=>by cases a0⟩;exact(b.o.2.1.trans (l.o.mono (by have:=b.o.2.2;omega))).trans (m.o.2.C6 (ba b.o.2.1.size l.o.size) λk e=>by omega)
  .have l:=A f;have h5:=A hx;obtain⟨P,h1,so,fl,bi,tx,a1,n1,m1,a2,n2,m2,n,t⟩:=q;obtain⟨pa,pc,rfl⟩:=t.a.A7;obtain⟨x,y⟩:∃x,r.e.length=x:=⟨_,rfl⟩;rw[y]at n;obtain⟨⟨-,-,-,-,q4,-,-,-⟩,⟨-,-,-,-,-,qd,-,-⟩,-⟩:=dF n;have h4:=A n;clear n t hx y f;cases en with
   | true=>
    go_wp2_with fail;refine(sG wr h 95 s.size s.size s d i r.a _ _ _ _ _ _ _ _ _ h4.o).mono ?_;rintro e w5 ⟨rfl,o,g7⟩;obtain⟨⟨-,-,-,-,-,-,-,-⟩,⟨-,-,-,-,-,zd,ze,zf⟩,_⟩:=dF g7;have g:=o.B7 ((l.o.block w.heap.size (by have:=b.o.2.2;omega)).trans b.o.1) (by have:=b.o.2.2;omega);have m:=A (kQ (O V 95) (O V s.size) (O V s.size) (O V 0) (G E) (O V 0) (G E) (O Y 0) (H ⟨#[]⟩) (J I 0 0) (J I 0 0) g);obtain⟨p0,p1,p2,p3,p4,p5,p6,p7,p8,p9,pa,pf⟩:=eB g;have g8:=A o;clear o g7 g;go_wp2_with fail;obtain⟨z,B,C,F,K,L,R,T,r8,r9,ra,_⟩:=eB m.o.1;refine bodyPost_ret (v:=lK 95 s.size s.size 0 E 0 E 0 ⟨#[]⟩ (J I 0 0) (J I 0 0)) (by simp[results,results48,go_sem,lK,z,B,C,F,K,L,R,T,r8,r9,ra]) rfl ⟨95,s.size,s.size,0,E,0,E,0,⟨#[]⟩,I,0,0,I,0,0,rfl,?_,λa0=>?_⟩
    .exact((b.o.2.1.trans (l.o.mono (by have:=b.o.2.2;omega))).trans (g8.o.C6 (ba b.o.2.1.size l.o.size) λk e=>by have:=b.o.2.2;omega)).trans (m.o.2.C6 (ba (ba b.o.2.1.size l.o.size) g8.o.size) λk e=>by omega)
    .rw[h5.o (by first|exact a0|trivial)];exact⟨rfl,by decide⟩
   | false=>
    have g:=(l.o.block w.heap.size (by have:=b.o.2.2;omega)).trans b.o.1;have m:=A (kQ (O V 0) (O V 0) (O V 0) (O V x) (G E) (O V 0) (G E) (O Y 0) (H ⟨#[]⟩) (J I 0 0) (J I 0 0) g);obtain⟨p0,p1,p2,p3,p4,p5,p6,p7,p8,p9,i1,pf⟩:=eB g;clear g;go_wp2_with fail;obtain⟨z,B,C,F,K,L,R,T,r8,r9,ra,_⟩:=eB m.o.1;refine bodyPost_ret (v:=lK 0 0 0 x E 0 E 0 ⟨#[]⟩ (J I 0 0) (J I 0 0)) (by simp[results,results48,go_sem,lK,z,B,C,F,K,L,R,T,r8,r9,ra]) rfl ⟨0,0,0,x,E,0,E,0,⟨#[]⟩,I,0,0,I,0,0,rfl,?_,λa0=>by cases a0⟩;exact(b.o.2.1.trans (l.o.mono (by have:=b.o.2.2;omega))).trans (m.o.2.C6 (ba b.o.2.1.size l.o.size) λk e=>by omega)
  .obtain⟨o,t,x,y,P,j,bytes,so,fl,bi,tx,a1,n1,m1,a2,n2,m2,l,n⟩:=q;obtain⟨⟨-,-,-,-,-,-,-,-⟩,⟨-,-,-,-,-,qd,qe,qf⟩,_⟩:=dF n;have e1:(((no:Nat):Int)==0)=E:=by simp;omega
   have e2:(((no:Nat):Int)!=0)=D:=by simp;omega
   have g:=(f.block w.heap.size (by have:=b.o.2.2;omega)).trans b.o.1;have m:=A (kQ (O V no) (O V a) (O V l) (O V 0) (G E) (O V 0) (G E) (O Y 0) (H ⟨#[]⟩) (J I 0 0) (J I 0 0) g);obtain⟨p0,p1,p2,p3,p4,p5,p6,p7,p8,p9,pa,pf⟩:=eB g;have c:=A (And.intro hx (And.intro h9 f));clear n hx h9 g;go_wp2_with fail;obtain⟨z,B,C,F,K,L,R,T,r8,r9,ra,_⟩:=eB m.o.1;refine bodyPost_ret (v:=lK no a l 0 E 0 E 0 ⟨#[]⟩ (J I 0 0) (J I 0 0)) (by simp[results,results48,go_sem,lK,z,B,C,F,K,L,R,T,r8,r9,ra]) rfl ⟨no,a,l,0,E,0,E,0,⟨#[]⟩,I,0,0,I,0,0,rfl,?_,λa0=>?_⟩
   .exact(b.o.2.1.trans (c.o.2.2.mono (by have:=b.o.2.2;omega))).trans (m.o.2.C6 (ba b.o.2.1.size c.o.2.2.size) λk e=>by omega)
   .rw[c.o.1 a0];exact⟨rfl,c.o.2.1⟩
def aMg(w:U)(s:ByteArray)(d:Nat)(e:ao)(w':U):Prop:=∃(no a f r:Int)(q:Bool)(c:Int)(j:Bool)(h:Nat)(p:ByteArray)(i:Option Q)(l o:Nat)(b:Option Q)(g m:Nat),e=ai (lK no a f r q c j h p (J i l o) (J b g m))/\ac w w w'/\
 (s.size<=16777216->match jR s.data.toList d with
  | .error (n,_)=>no=(n:Int)/\n≠0
  | .ok t=>no=0/\ValAt (λk=>w.heap.size<=k) w' (eQ c j h p (J i l o) (J b g m)) t)/\(16777216<s.size->no≠0)
def aIN(w:U)(s:ByteArray)(d:Nat)(hd:d<=512):Calls prog 13 #[s,d,G D] w λe w'=>aMg w s d e w':=by
 have b:(w.alloc (S #[O V 0,O V 0,O V 0,O V 0,G E,O V 0,G E,O Y 0,"",(),()] 36)).heap[w.heap.size]?=N (S #[O V 0,O V 0,O V 0,O V 0,G E,O V 0,G E,O Y 0,"",(),()] 36 (0,0)):=heap_alloc_new w _;have HB:=A (And.intro b ((aw w w).alloc (Nat.le_refl _) (S #[O V 0,O V 0,O V 0,O V 0,G E,O V 0,G E,O Y 0,"",(),()] 36)));clear b
 by_cases hs:s.size<=16777216
 .have e1:¬(16777216:Int)<(s.size:Int):=by omega
  have HR:=A (λW=>aBo W s d D hd hs);go_enter func13,ntmps13;go_wp2_with fail;refine(HR.o _).mono ?_;rintro e w2 ⟨no,a,f,g,h,i,j,l,m,n,o,p,q,r,u,rfl,b,B⟩;have c:=keep HB.o.1 b;obtain⟨p0,p1,p2,p3,p4,p5,p6,p7,p8,p9,pa,pf⟩:=eB c;have y:=A (kQ (O V no) (O V a) (O V f) (O V g) (G h) (O V i) (G j) (O Y l) (H m) (J n o p) (J q r u) c);have z:=A (And.intro B (chain HB.o.2 b));clear B b c;unfold lK;go_wp2_with fail;obtain⟨B,C,F,K,L,P,R,T,X,r9,ra,_⟩:=eB y.o.1;refine bodyPost_ret (v:=lK no a f g h i j l m (J n o p) (J q r u)) (by simp[results,results13,go_sem,lK,B,C,F,K,L,P,R,T,X,r9,ra]) rfl ⟨no,a,f,g,h,i,j,l,m,n,o,p,q,r,u,rfl,z.o.2.trans (y.o.2.C6 z.o.2.size λk e=>by omega),λ_=>?_,λa0=>by omega⟩;have h3:=z.o.1 (by trivial);cases hr:jR s.data.toList d with
  | error x=>rw[hr]at h3;exact h3
  | ok t=>
   rw[hr]at h3;exact⟨h3.1,(h3.2.A2 y.o.2 λk e _ e2=>by simp at e;omega).mono λk e _=>by simp at e;omega⟩
 .have e1:(16777216:Int)<(s.size:Int):=by omega
  have e2:(16777216:Int)<=(s.size:Int):=by omega
  have g3:(s.extract 0 16777216).size<=16777216:=by simp;omega
  have HR:=A (λW=>aBo W (s.extract 0 16777216) d E hd g3);clear g3;go_enter func13,ntmps13;go_wp2_with fail;refine(HR.o _).mono ?_;rintro e w2 ⟨no,a,f,g,h,i,j,l,m,n,o,p,q,r,u,rfl,b,-⟩;have c:=keep HB.o.1 b;have z:=A (chain HB.o.2 b);have g4:=lt_of_block c;have HO:=A c;clear b c;unfold lK
  obtain⟨p0,p1,p2,p3,p4,p5,p6,p7,p8,p9,pa,pf⟩:=eB HO.o
  by_cases b:no=0
  .subst b;have y:=A (kQ (O V 3) (O V 16777216) (O V 16777216) (O V 0) (G E) (O V 0) (G E) (O Y 0) (H ⟨#[]⟩) (J I 0 0) (J I 0 0) HO.o);go_wp2_with fail;have c:=(z.o.trans (y.o.2.C6 z.o.size λk e=>by omega)).alloc (ba z.o.size y.o.2.size) (S #[O V 0,a,f,g,h,i,j,O Y l,m,J n o p,J q r u] 36);obtain⟨B,C,F,K,L,P,R,T,X,r9,ra,_⟩:=eB (((ae (λ_=>False) _).A6 (S #[O V 0,a,f,g,h,i,j,O Y l,m,J n o p,J q r u] 36)).B7 y.o.1 id);exact bodyPost_ret (v:=lK 3 16777216 16777216 0 E 0 E 0 ⟨#[]⟩ (J I 0 0) (J I 0 0)) (by simp[results,results13,go_sem,lK,B,C,F,K,L,P,R,T,X,r9,ra]) rfl ⟨3,16777216,16777216,0,E,0,E,0,⟨#[]⟩,I,0,0,I,0,0,rfl,c,λa0=>absurd a0 hs,λ_=>by decide⟩
  .have e3:(no==0)=E:=by simp;omega
   have y:=A (kQ (O V no) (O V a) (O V f) (O V g) (G h) (O V i) (G j) (O Y l) (H m) (J n o p) (J q r u) HO.o);have g3:=A b;clear b;go_wp2_with fail;have c:=(z.o.trans (y.o.2.C6 z.o.size λk e=>by omega)).alloc (ba z.o.size y.o.2.size) (S #[no,a,f,g,h,i,j,O Y l,m,J n o p,J q r u] 36);obtain⟨B,C,F,K,L,P,R,T,X,r9,ra,_⟩:=eB (((ae (λ_=>False) _).A6 (S #[no,a,f,g,h,i,j,O Y l,m,J n o p,J q r u] 36)).B7 y.o.1 id);exact bodyPost_ret (v:=lK no a f g h i j l m (J n o p) (J q r u)) (by simp[results,results13,go_sem,lK,B,C,F,K,L,P,R,T,X,r9,ra]) rfl ⟨no,a,f,g,h,i,j,l,m,n,o,p,q,r,u,rfl,c,λa0=>absurd a0 hs,λ_=>g3.o⟩
def rM(w:U)(n:Int):Calls prog 10 #[n] w λe w'=>e=ai (G (decide (2147483647<n)))/\w'=w:=by
 go_enter func10,ntmps10;go_wp2;go_ret;exact⟨rfl,rfl⟩
def aEu(w:U)(d:Int):Calls prog 11 #[d] w λe w'=>e=ai (G (decide (1<=d)&&decide (d<=512)))/\w'=w:=by
 by_cases a:1<=d
 .by_cases b:d<=512
  .rw[decide_eq_true a,decide_eq_true b];go_enter func11,ntmps11;go_wp2;go_ret;exact⟨rfl,rfl⟩
  .rw[decide_eq_true a,decide_eq_false b];go_enter func11,ntmps11;go_wp2;go_ret;exact⟨rfl,rfl⟩
 .rw[decide_eq_false a,Bool.false_and];go_enter func11,ntmps11;go_wp2;go_ret;exact⟨rfl,rfl⟩
def aCu{F:Nat->Prop}{W:U}{l:Oo}(h:BytesIn F w v l)(d:ac w w W):(convert 22 9 v).run prog W=.ok (H ⟨l.toArray⟩) W:=by
 obtain⟨a,cap,rfl,i,-,f⟩:=h;rcases f with rfl|⟨g,off,rfl,_,hi⟩
 .cases a with
  | none=>exact run_convert_bytes_nil (P:=prog) W 22 5 underlying22 underlying5 0 cap 9 underlying9
  | some e=>exact run_convert_bytes_back W 22 9 5 e cap [] underlying22 underlying5 underlying9 λj c=>by simp at c
 .refine run_convert_bytes_back W 22 9 5 ⟨g,off,I⟩ cap l underlying22 underlying5 underlying9 λj c=>?_
  have b:(⟨g,off,I⟩:Q).add j=⟨g,off+j,I⟩:=by unfold Addr.add;split<;>simp_all
  rw[b];exact bE d (hi j l[j] (af c))
