/-
  The program, one part of its walk. Conditions: none.
-/
import Derived.Test.YtakkmiomhackiaaGreatDoorBf23
import Derived.Test.YtakkmiomhackiaaGreatDoorBf27
import Derived.Test.YtakkmiomhackiaaGreatDoorBf28
set_option linter.all false
set_option maxRecDepth 100000
set_option maxHeartbeats 16000000
open Go.Proofs.Tryz
open BitVec renaming ofInt->ah
open Go renaming Addr->Q,Value->C,World->H,bodyPost_ret->ae,heap_alloc_new->B,results->af
open Go.IntKind renaming i64->I,wrap_i64->ao
open Go.Obj renaming cells->Z
open Go.Proofs.Tryz renaming results22->ag
open Go.Proofs.YtakkmiomhackiaaGreatDoor.Keeps renaming A0->ak,A8->ai
open Go.RowKit renaming Below->E
open Go.RowKit.Below renaming refl->ac
open Go.Value renaming agg->P,int->J,slice->V
open List renaming getElem?_eq_getElem->f,getElem?_eq_some_iff->aj
open Nat renaming le_refl->D
open Option renaming none->K,some->N
namespace Go.Proofs.YtakkmiomhackiaaGreatDoor
open Go.RowKit
variable {w:H}{a:Option Q}{c n:Nat}
def aL9(w:H)(s:ByteArray)(e:Ending)(w':H):Prop:=∃(a:Option Q)(n c:Nat)(no b g d:Int),e=.returned (P #[V a n c,no,b,g,d])/\E w w w'/\
 (s.size<=16777216->∀toks,eM 0 s.data.toList=N toks->no=0/\n=toks.length/\aQ 5 56 w' (V a n c) n (toks.map aAn).flatten/\∀k,(V a n c).ownBlock=N k->w.heap.size<=k)
def aDG(w:H)(s:ByteArray):Calls prog 22 #[s,.bool true] w λe w'=>aL9 w s e w':=by
 have b:=B w (Z #[(),J I 0,J I 0,J I 0,J I 0] 53);have u:=A (And.intro b ((ac w w).alloc (D _) (Z #[(),J I 0,J I 0,J I 0,J I 0] 53)));clear b
 by_cases x:s.size<=16777216
 .have e1:¬(16777216:Int)<(s.size:Int):=by omega
  have y:=A (λW=>vM W s true x);go_enter func22,ntmps22;go_wp2_with fail;refine(y.o _).mono ?_;rintro e w2 ⟨a,n,c,no,b,h,i,rfl,d,l⟩;have g:=keep u.o.1 d;obtain⟨U,Y,p2,p3,p4,pf⟩:=cells5 g;have j:=A (aS (V a n c) (J I no) (J I b) (J I h) (J I i) g (chain u.o.2 d) (D _));have m:=A l;clear l d g;go_wp2_with fail;obtain⟨o,p,q,r,t,_⟩:=cells5 j.o.1;refine ae (v:=P #[V a n c,no,b,h,i]) (by simp[af,ag,go_sem,o,p,q,r,t]) rfl ⟨a,n,c,no,b,h,i,rfl,j.o.2,λ_ toks z=>?_⟩;obtain⟨F,G,L,l⟩:=m.o (by trivial) toks z;exact⟨F,G,aDC L (λk e=>by have:=l k e;simp at this;omega) _ _ _ _ _,λk e=>by have:=l k e;simp at this;omega⟩
 .have e1:(16777216:Int)<(s.size:Int):=by omega
  have e2:(16777216:Int)<=(s.size:Int):=by omega
  have l:(s.extract 0 16777216).size<=16777216:=by simp;omega
  have y:=A (λW=>vM W (s.extract 0 16777216) false l);have HW:=A (λ(X:H)(a:Option Q)(n c:Nat)(n0 a0 f0 h0:Int)=>jL X a n c n0 a0 f0 h0 3 16777216);clear l;go_enter func22,ntmps22;go_wp2_with fail;refine(y.o _).mono ?_;rintro e w2 ⟨a,n,c,no,b,h,i,rfl,d,-⟩;have g:=keep u.o.1 d;have m:=A (chain u.o.2 d);have z:=lt_of_block g;have F:=A g;clear d g;have G:¬w.heap.size=w2.heap.size:=by omega
  have g7:¬w2.heap.size=w.heap.size:=by omega
  obtain⟨U,Y,p2,p3,p4,pf⟩:=cells5 F.o
  by_cases L:no=0
  .subst L;go_wp2_with fail;refine(HW.o _ _ _ _ _ _ _ _).mono ?_;rintro e w3 ⟨rfl,l⟩;have O:=keep (B w2 _) l;have d:E w2 w2 w3:=((ac w2 w2).alloc (D _) _).trans (l.mono (by simp));have R:=keep F.o d;have S:=A (chain m.o d);obtain⟨x0,x1,x2,x3,x4,xf⟩:=cells5 O;obtain⟨y0,y1,y2,y3,y4,yf⟩:=cells5 R;have g:w.heap.size<=w2.heap.size:=m.o.size;have j:=A (aS (V a n c) (J I 3) (J I 16777216) (J I 16777216) (J I 0) O S.o g);have T:=A (((((((ai (λk=>k=w2.heap.size) w3).own 0 (V a n c)).own 1 (J I 3)).own 2 (J I 16777216)).own 3 (J I 16777216)).own 4 (J I 0)).B7 R G);clear O R l d U Y p2 p3 p4 pf z g;go_wp2_with fail;have d:=A (aS (V a n c) (J I 3) (J I 16777216) (J I 16777216) (J I 0) T.o j.o.2 (D _));obtain⟨o,p,q,r,t,_⟩:=cells5 d.o.1;exact ae (v:=P #[V a n c,J I 3,J I 16777216,J I 16777216,J I 0]) (by simp[af,ag,go_sem,o,p,q,r,t]) rfl ⟨a,n,c,3,16777216,16777216,0,rfl,d.o.2,λg=>absurd g x⟩
  .have l:(no==0)=false:=by simp;omega
   have j:=A (aS (V a n c) (J I no) (J I b) (J I h) (J I i) F.o m.o (D _));go_wp2_with fail;have d:=j.o.2.alloc j.o.2.size (Z #[V a n c,no,b,h,i] 53);obtain⟨o,p,q,r,t,_⟩:=cells5 (((ai (λ_=>False) _).A6 (Z #[V a n c,no,b,h,i] 53)).B7 j.o.1 id);exact ae (v:=P #[V a n c,no,b,h,i]) (by simp[af,ag,go_sem,o,p,q,r,t]) rfl ⟨a,n,c,no,b,h,i,rfl,d,λg=>absurd g x⟩
def IntsIn(w:H)(v:C)(b:List Int):Prop:=∃a cap,v=V a b.length cap/\b.length<=cap/\cap<=maxLen/\(b= []\/∃g off,a=N ⟨g,off,K⟩/\g<w.heap.size/\∀i x,b[i]?=N x->w.cell? ⟨g,off+i,K⟩=N (J I x))
def aKo(z:Int):bits BinOp.and I z 3=z%4:=by
 have a:(ah 64 3).toNat=2^2-1:=rfl
 show I.wrap ((ah 64 z&&& ah 64 3).toNat:Int)=_
 rw[BitVec.toNat_and,a,Nat.and_two_pow_sub_one_eq_mod,BitVec.toNat_ofInt,ao];omega
def cK.at{e:Nat}{Y:C}{L:List Stp}{i:Nat}(h:cK e w Y L)(hi:i<L.length):∃(g off cap:Nat)(y:Int)(G:Bool)(F:Int)(R:ByteArray)(z:Int)(k:Option Q)(q o:Nat),Y=V (g,off) L.length cap/\(∀W,E w w W->
 (W.cell? ⟨g,off+i*6,K⟩=N (J I y)/\W.cell? ⟨g,off+i*6+1,K⟩=N (.bool G)/\W.cell? ⟨g,off+i*6+2,K⟩=N (J .u64 F)/\W.cell? ⟨g,off+i*6+3,K⟩=N (.string R)/\W.cell? ⟨g,off+i*6+4,K⟩=N (J I z)/\W.cell? ⟨g,off+i*6+5,K⟩=N (V k q o)))/\
 (y=L[i].b/\G=L[i].c/\F=L[i].d/\R=⟨L[i].a.toArray⟩/\z=L[i].f/\q=L[i].e.length)/\∀W,E w w W->Win 9 encS W (V k q o) L[i].e:=by
 obtain⟨d,T,x,O⟩:=h;have S:L[i]?=N L[i]:=f hi;have v:d[i]?=N (d[i]'(by omega)):=f (by omega);obtain⟨k,o,s,U⟩:=O i _ _ v S;rw[s]at v;obtain⟨g,off,cap,X⟩:=x.U0 (by omega);subst X
 have l:∀c∈d,c.length=6:=by
  intro c s;obtain⟨j,n⟩:=List.getElem?_of_mem s;have p:j<L.length:=by rw[<-T];exact(aj.1 n).1
  obtain⟨a,m,e,_⟩:=O j c _ n (f p);rw[e];rfl
 refine⟨g,off,cap,_,_,_,_,_,k,_,o,rfl,λW r=>?_,⟨rfl,rfl,rfl,rfl,rfl,rfl⟩,λW r=>U.A2 (ak (λ_=>False) r) λ_ _=>id⟩
 have b:∀(j:Nat)(u:C),(aId L[i] (V k L[i].e.length o))[j]?=N u->W.cell? ⟨g,off+i*6+j,K⟩=N u:=λj u n=>by
  have t:j<6:=(aj.1 n).1;have:=(x.A2 (ak (λ_=>False) r) λ_ _=>id).B3 (j:=i*6+j) (u:=u) (by rw[pH l v t];exact n);rw[Nat.add_assoc];exact this
 exact⟨b 0 _ rfl,b 1 _ rfl,b 2 _ rfl,b 3 _ rfl,b 4 _ rfl,b 5 _ rfl⟩
def aKr{b:List Oo}(h:Win 9 encS w (V a n c) b){k:Nat}(d:k<b.length):∃g o,a=N ⟨g,o,K⟩/\b.length<=maxLen/\∀W,E w w W->W.cell? ⟨g,o+k,K⟩=N (.string ⟨b[k].toArray⟩):=by
 rcases h with⟨_,e⟩|⟨g,off,cap,m,q,j,s,-,p,i⟩
 .rw[e]at d;simp at d
 .injection q with r x2 x3
  exact⟨g,off,r,Nat.le_trans (by omega) p,λW l=>(aA (keep j l)).trans (i k _ (f d))⟩
def zC(w:H)(c1 c2:Array C)(a b:TypeId):((w.alloc (Z c1 a)).alloc (Z c2 b)).drew.heap[w.heap.size]?=N (Z c1 a (0,0))/\((w.alloc (Z c1 a)).alloc (Z c2 b)).drew.heap[w.heap.size+1]?=N (Z c2 b (0,0))/\E w w ((w.alloc (Z c1 a)).alloc (Z c2 b)).drew:=by
 have c:(w.alloc (Z c1 a)).heap.size=w.heap.size+1:=by simp
 refine⟨(Below.heap_alloc (w.alloc (Z c1 a)) (Z c2 b) w.heap.size (by simp)).trans (B w _),?_,m8 (((ac w w).alloc (D _) _).alloc (by simp) _)⟩;rw[<-c];exact B (w.alloc (Z c1 a)) (Z c2 b)
def aKs{a:H}(b:E w w a){m j g c e d:Q}{n i k h l o:C}(q:w.cell? m=N n)(s:w.cell? j=N i)(p:w.cell? g=N k)(u:w.cell? c=N h)(r:w.cell? e=N l)(t:w.cell? d=N o):
 a.cell? m=N n/\a.cell? j=N i/\a.cell? g=N k/\a.cell? c=N h/\a.cell? e=N l/\a.cell? d=N o:=
 ⟨bE b q,bE b s,bE b p,bE b u,bE b r,bE b t⟩
def aMa(w:H)(bt:Nat)(a0:TypeId)(x:C)(F G:Nat->Prop)(t:Tr)(i7:Small t)(i8:t.T8.length<=65536)(o:w.heap[bt]?=N (Z #[.iface a0 x] 176 (0,0)))(r:cS F w (.iface a0 x) t)
 (d:Int)(h:Bool)(j:Nat)(l:ByteArray)(a:Option Q)(n m:Nat)(b:Option Q)(p q:Nat)(u:ValAt G w (eQ d h j l (V a n m) (V b p q)) t):
 Calls prog 23 #[.pointer bt,P #[d,h,J .u64 j,l,V a n m,V b p q]] w λe w'=>e=.returned (.bool true)/\E w w w':=by
 have HP:=A (λ(W:H)(hW:E w w W)=>aAs i7 F W bt a0 x (keep o hW) (r.A2 (ak (λ_=>False) hW) λ_ _=>id) (by omega));have HR:=A (λ(W:H)(hW:E w w W)=>aAt i7 G W d h j l a n m b p q (u.A2 (ak (λ_=>False) hW) λ_ _ _ a1=>a1.elim) (by omega));have c:=B w (Z #[d,h,J .u64 j,l,V a n m,V b p q] 34);have i9:=A ((ac w w).alloc (D _) (Z #[d,h,J .u64 j,l,V a n m,V b p q] 34));obtain⟨X,c1,c2,Y,c4,c5,-⟩:=bJ c;clear c o r u;obtain⟨L,c⟩:∃L,t.T8=L:=⟨_,rfl⟩;rw[c]at HP HR i8;have j2:=A (m8 i9.o);clear c;go_enter func23,ntmps23;go_wp2
 go_region_held3 (λw'=>w'.cell? w=N (J I d)/\w'.cell? ⟨w.heap.size,1,K⟩=N (.bool h)/\w'.cell? ⟨w.heap.size,2,K⟩=N (J .u64 j)/\w'.cell? ⟨w.heap.size,3,K⟩=N (.string l)/\w'.cell? ⟨w.heap.size,4,K⟩=N (V a n m)/\w'.cell? ⟨w.heap.size,5,K⟩=N (V b p q)) (first|exact y|go_keep) (first
  | (go_at_call 59;(refine(HP.o _ j2.o).mono ?_);rintro e o ⟨u,rfl,O,c,R⟩;obtain⟨z,T,rfl⟩:=O.A7;have c:=fA c;have y:=aKs c X c1 c2 Y c4 c5;have r:=chain i9.o c)
  | (go_at_call 60;(refine(HR.o _ r).mono ?_);rintro e w6 ⟨V6,rfl,T,o,U⟩;obtain⟨a6,m6,rfl⟩:=T.A7;have y:=aKs o y.1 y.2.1 y.2.2.1 y.2.2.2.1 y.2.2.2.2.1 y.2.2.2.2.2;have u:=O.A4 o;have z:=chain r o))
 all_goals
  have j3:=A u;have j4:=A T;have j5:=A z;clear O c R y r T o U u z X c1 c2 Y c4 c5;go_wp2
  go_loopw [7] (λv wr=>∃i:Nat,v=J I i/\i<=L.length/\M (E w6 w6 wr)) (λv _=>L.length-(intOf v).toNat)
  case atStart=>exact⟨0,rfl,Nat.zero_le _,A (ac _ _)⟩
  case round=>
   obtain⟨i,rfl,hi,HB⟩:=hrel
   by_cases j0:i<L.length
   .have e1:(i:Int)<(L.length:Int):=by omega
    have i0:(0:Int)<=(i:Int):=by omega
    obtain⟨g,off,cap,k1,k2,k3,k4,k5,ka,kn,km,e5,R,j6,r⟩:=j3.o.at j0;obtain⟨g',c,j8,k6,k7,k8,k9,l0,z,l1,O,e6,U,j7,u⟩:=j4.o.at j0;cases e5;cases e6;obtain⟨d0,d1,d2,d3,d4,d5⟩:=R wr HB.o;obtain⟨f0,f1,f2,f3,f4,f5⟩:=U wr HB.o;obtain⟨rfl,rfl,rfl,rfl,rfl,rfl⟩:=j6;obtain⟨rfl,rfl,rfl,rfl,rfl,rfl⟩:=j7;obtain⟨⟨d,h,j,l,T,o⟩,X⟩:∃s,L[i]=s:=⟨_,rfl⟩;simp only[X]at d0 d1 d2 d3 d4 d5 f0 f1 f2 f3 f4 f5 r u;have HK:=A (And.intro (r wr HB.o) (u wr HB.o));clear R U r u X;go_wp2
    go_region_held3 (λw'=>w'.cell? ⟨g,off+i*6,K⟩=N (J I d)/\w'.cell? ⟨g,off+i*6+1,K⟩=N (.bool h)/\w'.cell? ⟨g,off+i*6+2,K⟩=N (J .u64 j)/\w'.cell? ⟨g,off+i*6+3,K⟩=N (.string ⟨l.toArray⟩)/\w'.cell? ⟨g,off+i*6+4,K⟩=N (J I T)/\w'.cell? ⟨g,off+i*6+5,K⟩=N (V ka o.length km)/\w'.cell? ⟨g',c+i*6,K⟩=N (J I d)/\w'.cell? ⟨g',c+i*6+1,K⟩=N (.bool h)/\w'.cell? ⟨g',c+i*6+2,K⟩=N (J .u64 j)/\w'.cell? ⟨g',c+i*6+3,K⟩=N (.string ⟨l.toArray⟩)/\w'.cell? ⟨g',c+i*6+4,K⟩=N (J I T)/\w'.cell? ⟨g',c+i*6+5,K⟩=N (V z o.length O)) (first|exact⟨d0,d1,d2,d3,d4,d5,f0,f1,f2,f3,f4,f5⟩|go_keep) (fail)
    focus
     obtain⟨U,X,u⟩:=zC wr #[d,h,J .u64 j,.string ⟨l.toArray⟩,T,V ka o.length km] #[d,h,J .u64 j,.string ⟨l.toArray⟩,T,V z o.length O] 147 149;obtain⟨Y,r⟩:∃Y,((wr.alloc (Z #[d,h,J .u64 j,.string ⟨l.toArray⟩,T,V ka o.length km] 147)).alloc (Z #[d,h,J .u64 j,.string ⟨l.toArray⟩,T,V z o.length O] 149)).drew=Y:=⟨_,rfl⟩;rw[r]at U X u;rw[r];clear r;have R:=A (And.intro U (And.intro X u));obtain⟨x0,x1,x2,x3,x4,x5,-⟩:=bJ U;obtain⟨y0,y1,y2,y3,y4,y5,-⟩:=bJ X
    rotate_left
    focus
     obtain⟨X,U,u⟩:=zC wr #[d,h,J .u64 j,.string ⟨l.toArray⟩,T,V z o.length O] #[d,h,J .u64 j,.string ⟨l.toArray⟩,T,V ka o.length km] 149 147;obtain⟨Y,r⟩:∃Y,((wr.alloc (Z #[d,h,J .u64 j,.string ⟨l.toArray⟩,T,V z o.length O] 149)).alloc (Z #[d,h,J .u64 j,.string ⟨l.toArray⟩,T,V ka o.length km] 147)).drew=Y:=⟨_,rfl⟩;rw[r]at U X u;rw[r];clear r;have R:=A (And.intro U (And.intro X u));obtain⟨x0,x1,x2,x3,x4,x5,-⟩:=bJ U;obtain⟨y0,y1,y2,y3,y4,y5,-⟩:=bJ X
    rotate_left
    all_goals
     clear d0 d1 d2 d3 d4 d5 f0 f1 f2 f3 f4 f5 U X u;go_wp2_with fail;clear x0 x1 x2 x3 x4 x5 y0 y1 y2 y3 y4 y5
     go_loopw [10] (λv wz=>∃k:Nat,v=J I k/\k<=o.length/\M (E Y.heap.size Y wz)) (λv _=>o.length-(intOf v).toNat)
     case atStart=>exact⟨0,rfl,Nat.zero_le _,A (ac _ _)⟩
     case round=>
      obtain⟨k,rfl,hk,U⟩:=hrel;obtain⟨-,-,-,-,-,x5,-⟩:=bJ (keep R.o.1 U.o);obtain⟨-,-,-,-,-,y5,-⟩:=bJ (keep R.o.2.1 U.o)
      by_cases X:k<o.length
      .have e3:(k:Int)<(o.length:Int):=by omega
       have k0:(0:Int)<=(k:Int):=by omega
       have u:=chain R.o.2.2 U.o;obtain⟨kg,ko,rfl,Y,j1⟩:=aKr HK.o.1 X;obtain⟨l2,l3,rfl,_,r⟩:=aKr HK.o.2 X;have j9:o.length<=9223372036854775807:=by have:=Y;unfold maxLen at this;omega
       clear Y;have Y:=j1 wr u;have m2:=r wr u;obtain⟨S,y⟩:∃S:ByteArray,⟨o[k].toArray⟩=S:=⟨_,rfl⟩;rw[y]at Y m2;clear j1 r u y;go_wp2
       go_quiet (fail)
       go_wp2_with fail;exact⟨⟨k+1,by go_num,by omega,A (qW U.o)⟩,by simp[intOf];omega⟩
      .have e3:¬(k:Int)<(o.length:Int):=by omega
       go_wp2_with fail;exact⟨⟨i+1,by go_num,by omega,A (chain (chain HB.o R.o.2.2) U.o)⟩,by simp[intOf];omega⟩
   .have e1:¬(i:Int)<(L.length:Int):=by omega
    go_wp2;go_ret;exact⟨rfl,chain j5.o HB.o⟩
def nL(a:H)(T R:List UInt8)(o:C)(wr:H):Prop:=∃O:List UInt8,O++R=T/\aQ 1 5 wr o O.length (O.map bZ)/\(∀k,o.ownBlock=N k->a.heap.size<=k)/\E a a wr
def nL.C9{d wr W w':H}{T R X Y:Oo}{g off cap:Nat}{O:Oo}(p:O++R=T)(r:R=X++Y)(m:∀k,(V a n c).ownBlock=N k->d.heap.size<=k)(j:E d d wr)(l:Keeps (λ_=>False) wr W)
 (b:aQ 1 5 w' (V (g,off) (O.length+X.length) cap) (O.length+X.length) (O.map bZ++X.map bZ))(i:(V a n c).ownBlock=N g\/W.heap.size<=g)(o:Keeps (λk=>(V a n c).ownBlock=N k) W w'):
 nL d T Y (V (g,off) (O.length+X.length) cap) w':=by
 have q:=j.size;have s:=l.size;refine⟨O++X,by rw[List.append_assoc,<-r];exact p,by rw[List.length_append,List.map_append];exact b,λk e=>?_,(j.trans (l.C6 q λk e=>e.elim)).trans (o.C6 (by omega) m)⟩;cases e;exact i.elim (m _) λh=>by show d.heap.size<=g;omega
def nL.A4{a wr:H}{T R:Oo}{o:C}(h:nL a T R o wr):E a a wr:=h.elim λ_ h=>h.2.2.2
def aLO(w:H)(v:C)(T:TypeId):∀(j:Nat)(u:C),[v][j]?=N u->(w.alloc (Z #[v] T)).cell? ((⟨w.heap.size,0,K⟩:Q).add j)=N u:=λj u a=>by
 rw[Addr.add_lit,Nat.zero_add];exact(aA (B w _)).trans (by simpa using a)
def aIO{toks:List l6}(h:aQ 5 56 w (V a n c) n (toks.map aAn).flatten)(s:toks.length=n){i:Nat}(hi:i<toks.length):∃g off,a=N ⟨g,off,K⟩/\∀W,E w w W->
 W.cell? ⟨g,off+i*5,K⟩=N (J I (toks[i].a:Int))/\W.cell? ⟨g,off+i*5+1,K⟩=N (J I (toks[i].c:Int))/\W.cell? ⟨g,off+i*5+2,K⟩=N (J I (toks[i].size:Int))/\W.cell? ⟨g,off+i*5+3,K⟩=N (.string ⟨toks[i].text.toArray⟩)/\W.cell? ⟨g,off+i*5+4,K⟩=N (J .u64 (toks[i].bits:Int)):=by
 obtain⟨g,off,cap,e⟩:=h.U0 (by omega);injection e with o y2 y3
 subst o
 have d:∀c∈toks.map aAn,c.length=5:=λc r=>by
  obtain⟨k,_,rfl⟩:=List.mem_map.1 r;rfl
 have p:(toks.map aAn)[i]?=N (aAn toks[i]):=by rw[List.getElem?_map,f hi];rfl
 refine⟨g,off,rfl,λW q=>?_⟩
 have b:∀(j:Nat)(u:C),(aAn toks[i])[j]?=N u->W.cell? ⟨g,off+i*5+j,K⟩=N u:=λj u m=>by
  have l:j<5:=(aj.1 m).1;have:=(h.A2 (ak (λ_=>False) q) λ_ _=>id).B3 (j:=i*5+j) (u:=u) (by rw[pH d p l];exact m);rw[Nat.add_assoc];exact this
 exact⟨b 0 _ rfl,b 1 _ rfl,b 2 _ rfl,b 3 _ rfl,b 4 _ rfl⟩
def aIP(z:Int):∃q:Nat,q<4/\bits BinOp.and I z 3=(q:Int)/\(⟨#[32,9,10,13]⟩:ByteArray).data[q]?=N (vN z):=by
 rw[aKo];have a:0<=z%4:=Int.emod_nonneg _ (by decide);have:z%4=0\/z%4=1\/z%4=2\/z%4=3:=by omega
 unfold vN;rcases this with h|h|h|h<;>rw[h]
 .exact⟨0,by decide,rfl,rfl⟩
 .exact⟨1,by decide,rfl,rfl⟩
 .exact⟨2,by decide,rfl,rfl⟩
 .exact⟨3,by decide,rfl,rfl⟩
def aIQ(w:H):(binOp .eql 26 .nilIface .nilIface).run prog w=.ok (.bool true) w:=by kernel_rfl
def wG(w:H)(v:C)(l:Oo)(dz:Int)(v2:C)(zs:List Int)(hv:BytesIn (λk=>w.heap.size<=k) w v l)(U:IntsIn w v2 zs):
 Calls prog 5 #[v,dz,v2] w λe w'=>e=.returned (.bool true)/\E w w w':=by
 have i7:=A (λ(W:H)(hW:E w.heap.size w W)=>aCu hv hW);have HV:=A hv;have HZ:=A U;obtain⟨a,cap,rfl,h7,-,_⟩:=hv;obtain⟨a2,l3,rfl,b,h,_⟩:=U;have j9:zs.length<=9223372036854775807:=by have:=Nat.le_trans b h;unfold maxLen at this;omega
 obtain⟨n,o⟩:∃n,l.length=n:=⟨_,rfl⟩;obtain⟨m,hm⟩:∃m,zs.length=m:=⟨_,rfl⟩;have HN:=A (And.intro o hm);rw[o]at HV i7 h7⊢;rw[hm]at HZ b j9⊢;obtain⟨z,q0⟩:∃z,I.wrap ((n:Int)+(m:Int))=z:=⟨_,rfl⟩;clear o hm
 by_cases r:(2147483647:Int)<z
 .have y:=A (λW=>rM W z);rw[decide_eq_true r]at y;clear r h7 b h;go_enter func5,ntmps5;go_wp2_with fail;refine(y.o _).mono ?_;rintro e w ⟨rfl,rfl⟩;go_wp2;go_ret;exact⟨rfl,ac _ _⟩
 by_cases F:(1:Int)<=dz/\dz<=512
 case neg=>
  have y:=A (λW=>rM W z);have h8:=A (λW=>aEu W dz);rw[decide_eq_false r]at y;rw[show(decide ((1:Int)<=dz)&&decide (dz<=512))=false by simp;omega]at h8;clear r F h7 b h;go_enter func5,ntmps5;go_wp2_with fail;refine(y.o _).mono ?_;rintro e w ⟨rfl,rfl⟩;go_wp2_with fail;refine(h8.o _).mono ?_;rintro e w ⟨rfl,rfl⟩;go_wp2;go_ret;exact⟨rfl,ac _ _⟩
 obtain⟨d,rfl⟩:∃d:Nat,dz=d:=⟨dz.toNat,by omega⟩;have s:1<=d:=by omega
 have o:d<=512:=by omega
 have y:=A (λW=>rM W z);have h8:=A (λW=>aEu W (d:Int));rw[decide_eq_false r]at y;rw[decide_eq_true F.1,decide_eq_true F.2]at h8;have k0:=A (λW=>aIN W ⟨l.toArray⟩ d o);have k1:=A (λW=>aDG W ⟨l.toArray⟩);have i8:=A (show(⟨l.toArray⟩:ByteArray).size=n by rw[<-HN.o.1];show l.toArray.size=_;simp);have HD:=A (And.intro s o);clear r F s o b h;go_enter func5,ntmps5;go_wp2_with fail;refine(y.o _).mono ?_;rintro e w ⟨rfl,rfl⟩;go_wp2_with fail;refine(h8.o _).mono ?_;rintro e w ⟨rfl,rfl⟩;have i0:=i7.o w (ac _ _);go_wp2_with fail;refine(k0.o _).mono ?_;rintro e w2 ⟨no,a',ff,op,wh,so,fl,bi,tx,va,vn,vm,ka,kn,km,rfl,b,o,r⟩;unfold lK;have i1:=B w2 (Z #[no,a',ff,op,wh,so,fl,J .u64 bi,tx,V va vn vm,V ka kn km] 36);have h:E w.heap.size w (w2.alloc (Z #[no,a',ff,op,wh,so,fl,J .u64 bi,tx,V va vn vm,V ka kn km] 36)):=b.alloc b.size _;have i0:=i7.o _ h;have j3:=A (And.intro b h);have HX:=A (And.intro o r);clear b h o r;go_wp2_with fail;refine(k1.o _).mono ?_;rintro e w4 ⟨la,ln,lc,O,R,lf,lh,rfl,h,i2⟩;have G:=keep (keep i1 h) ((ac w4 w4).alloc (D _) (Z #[V la ln lc,O,R,lf,lh] 53));have T:=B w4 (Z #[V la ln lc,O,R,lf,lh] 53);have Y:=(chain j3.o.2 h).alloc (chain j3.o.2 h).size (Z #[V la ln lc,O,R,lf,lh] 53);have s:=(((ac w2 w2).alloc (D _) (Z #[no,a',ff,op,wh,so,fl,J .u64 bi,tx,V va vn vm,V ka kn km] 36)).trans (h.mono (by simp))).alloc (by have:=h.size;simp at this;omega) (Z #[V la ln lc,O,R,lf,lh] 53);obtain⟨r,F⟩:∃r,w4.alloc (Z #[V la ln lc,O,R,lf,lh] 53)=r:=⟨_,rfl⟩;have h9:=A F;have k2:=A (ai (λ_=>False) w4 |>.A6 (Z #[V la ln lc,O,R,lf,lh] 53));rw[F]at G T Y s k2;obtain⟨p0,p1,p2,p3,p4,p5,p6,p7,p8,p9,pa,pf⟩:=eB G;obtain⟨y0,y1,y2,y3,y4,yf⟩:=cells5 T;have b:=A (And.intro Y (And.intro s (And.intro G T)));have k3:=A i2;have l4:=A h;have i4:=A (show E w4 w4 r from by rw[<-F];exact(ac w4 w4).alloc (D _) _);rw[<-F]at p0 p1 p2 p3 p4 p5 p6 p7 p8 p9 pa y0 y1 y2 y3 y4;clear h i2 G T Y s i1 F pf yf i0
 by_cases i1:no≠0
 .have e1:(no !=0)=true:=by simp;omega
  go_wp2;go_ret;exact⟨rfl,h9.o▸b.o.1⟩
 obtain rfl:no=0:=by omega
 have i5:n<=16777216:=by
  by_cases s:n<=16777216
  .exact s
  .exact absurd rfl (HX.o.2 (by rw[i8.o];omega))
 have o:=HX.o.1 (by rw[i8.o];exact i5);cases G:jR l d with
 | error x=>rw[G]at o;obtain⟨e1,e2⟩:=o;omega
 | ok t=>
  rw[G]at o;obtain⟨_,h⟩:(0:Int)=0/\ValAt _ _ _ _:=o;obtain⟨toks,F,T⟩:=aFe G;obtain⟨rfl,rfl,Y,i0⟩:=k3.o (by rw[i8.o];exact i5) toks (by simpa using F);have HT:=A (And.intro G (And.intro h (And.intro F (And.intro T (And.intro Y i0)))));clear G h F T Y i0 i1;obtain⟨S,G⟩:∃S,zs.map vN=S:=⟨_,rfl⟩;obtain⟨Tt,h⟩:∃Tt,iO l toks S 0=Tt:=⟨_,rfl⟩;have HS:=A (And.intro G h);have i9:=A (show nL r Tt (iO l toks S 0) (V (N ⟨r.heap.size,0,K⟩) 0 0) (r.alloc (Z #[] 5))from⟨[],by rw[List.nil_append,h],⟨rfl,.inr ⟨r.heap.size,0,0,#[],rfl,B r _,D _,by simp,Nat.zero_le _,λj u hj=>by simp at hj⟩⟩,λk e=>by cases e;exact D _,(ac _ _).alloc (D _) _⟩);have F:r.heap.size=w4.heap.size+1:=by rw[<-h9.o];simp
  rw[F,<-h9.o]at i9;rw[h9.o]at i9;have hN:toks.length<=16777216:=by have:=(aFz (L:=l) l.length 0 toks (by omega) (by simpa using HT.o.2.2.1)).2.2;have:=HN.o.1;omega
  have l5:Tt.length<=100000000:=by
   have h1:=aDD (L:=l) toks S;have h2:=(aFz (L:=l) l.length 0 toks (by omega) (by simpa using HT.o.2.2.1)).2.1;have Y:=HN.o.1;have T:Tt=spell l toks (rowsOf toks.length S):=by rw[<-h];unfold iO oW;rw[if_pos (Nat.zero_le _)];rfl
   rw[T];omega
  clear G h F;go_wp2
  go_loopw [13,11,12,10] (λvi vk va vo wr=>∃(i kk:Nat)(az:Int),vi=J I i/\i<=toks.length+1/\vk=J I kk/\va=J I az/\kk<=m/\M ((kk=2*i/\2*i<=m)\/(kk=m/\m<=2*i))/\M (nL r Tt (iO l toks S i) vo wr)) (λv _ _ _ _=>toks.length+1-(intOf v).toNat)
  case atStart=>exact⟨0,0,0,rfl,Nat.zero_le _,rfl,rfl,Nat.zero_le _,A (.inl ⟨rfl,Nat.zero_le _⟩),h9.o▸i9⟩
  case round=>
   obtain⟨i,kk,az,rfl,hi,rfl,rfl,k4,j0,HL⟩:=hrel;obtain⟨y0,-,-,-,-,-⟩:=cells5 (keep b.o.2.2.2 HL.o.A4)
   by_cases k5:i<=toks.length
   .have e1:(i:Int)<=(toks.length:Int):=by omega
    obtain⟨a0,-,h,G,-⟩:=HL.o;obtain⟨oa,oc,rfl⟩:=h.A7;clear h G
    have j4:=A (show nL r Tt ((S.drop (kk+0)).take (2-0)++(if s:i<toks.length then((l.drop toks[i].c).take toks[i].size++iO l toks S (i+1))else [])) (V oa a0.length oc) wr from by
     have s:=HL.o;have i2:S.length=m:=by rw[<-HS.o.1,List.length_map];exact HN.o.2
     by_cases h2:i<toks.length
     .rw[dif_pos h2,Nat.add_zero,Nat.sub_zero,<-aDE i2 j0.o,<-aKm (f h2)];exact s
     .rw[dif_neg h2,Nat.add_zero,Nat.sub_zero,<-aDE i2 j0.o];rw[aLA (show i=toks.length by omega),show iO l toks S (i+1)= [] by unfold iO;rw[if_neg (by omega)]]at s;exact s)
    obtain⟨R1,F⟩:∃R1,(if s:i<toks.length then((l.drop toks[i].c).take toks[i].size++iO l toks S (i+1))else [])=R1:=⟨_,rfl⟩;rw[F]at j4;have j5:=A F;clear F;go_wp2_with fail
    have k6:=A (show ∀(W:H),E r.heap.size r W->∀p,p<m->∃(g2 o2:Nat)(x:Int),a2=N ⟨g2,o2,K⟩/\W.cell? ⟨g2,o2+p,K⟩=N (J I x)/\S[p]?=N (vN x)from λW hW p hp=>by
     obtain⟨a3,F,e3,_,_,U⟩:=HZ.o;rcases U with U|⟨g2,o2,e4,-,U⟩
     .have:=HN.o.2;rw[U]at this;simp at this;omega
     .have T:=HN.o.2;injection e3 with e3 _ _
      subst e3;have o:zs[p]?=N (zs[p]'(by omega)):=f (by omega);exact⟨g2,o2,_,e4,bE (chain b.o.1 hW) (U p _ o),by rw[<-HS.o.1,List.getElem?_map,o];rfl⟩)
    go_loopw [14,11,10] (λvj vk vo wr=>∃j p:Nat,vj=J I j/\j<=2/\vk=J I p/\p<=m/\M (p=kk+j)/\M (nL r Tt ((S.drop p).take (2-j)++R1) vo wr)) (λv _ _ _=>2-(intOf v).toNat)
    case atStart=>exact⟨0,kk,rfl,by decide,rfl,k4,A rfl,j4⟩
    case round=>
     obtain⟨j,p,rfl,hj,rfl,hp,HP,HJ⟩:=hrel;obtain⟨y0,-,-,-,-,-⟩:=cells5 (keep b.o.2.2.2 HJ.o.A4);obtain⟨a0,T,h,G,i0⟩:=HJ.o;obtain⟨oa,oc,rfl⟩:=h.A7;have Y:=A (And.intro T (And.intro h (And.intro G i0)));have l6:a0.length<=Tt.length:=by rw[<-T,List.length_append];omega
     clear T h G i0
     by_cases i3:j<2/\p<m
     .obtain⟨j1,j2⟩:=i3;have e2:(j:Int)<2:=by omega
      have e3:(p:Int)<(m:Int):=by omega
      have e4:(0:Int)<=(p:Int):=by omega
      obtain⟨g2,o2,x,rfl,k7,F⟩:=k6.o _ HJ.o.A4 p j2;obtain⟨q,i1,k8,i6⟩:=aIP x;have k9:(q:Int)<4:=by omega
      have l0:(0:Int)<=(q:Int):=by omega
      have j6:q<(⟨#[32,9,10,13]⟩:ByteArray).size:=i1;have j7:=A (show(⟨#[32,9,10,13]⟩:ByteArray)[q]'j6=vN x from(Array.getElem?_eq_some_iff.1 i6).2);have j8:=A F;clear F i6 i1
      go_wp2_with (at_builtin;refine bC zJ rfl _ _ rfl rfl (Y.o.2.1.A2 ((ai (λ_=>False) wr).A6 _) λ_ _=>id) ⟨wr.heap.size,0,K⟩ 1 1 [_] rfl rfl (aLO wr _ 5) (by intro u hu;simp at hu;subst hu;rfl) (by decide) ?_ ?_ ?_)
      .omega
      .unfold maxLen;omega
      intro g off i6 w' F i1 hk;have HF:=A (And.intro F (And.intro i1 hk));clear F i1 hk;go_wp2_with fail;refine⟨⟨j+1,p+1,by go_num,by omega,by go_num,by omega,A (by have:=HP.o;omega),A ?_⟩,by simp[intOf];omega⟩;refine nL.C9 (X:= [vN x]) Y.o.1 ?_ Y.o.2.2.1 Y.o.2.2.2 ((ai (λ_=>False) wr).A6 _) (by have s:=HF.o.1;rw[j7.o]at s;exact s) (HF.o.2.1.imp id λs=>by have:=s.1;simpa using this) HF.o.2.2;rw[HP.o,aKn (by rw[<-HP.o];exact j8.o) j1,Nat.add_assoc];rfl
     .have i2:S.length=m:=by rw[<-HS.o.1,List.length_map];exact HN.o.2
      have j1:(S.drop p).take (2-j)= []:=by
       by_cases s:j<2
       .rw[List.drop_eq_nil_of_le (by omega),List.take_nil]
       .rw[show 2-j=0 by omega];rfl
      have k7:=A (show nL r Tt R1 (V oa a0.length oc) wr from by have s:=HJ.o;rw[j1]at s;exact s);have j6:=A (show(p=2*(i+1)/\2*(i+1)<=m)\/(p=m/\m<=2*(i+1))from by have h1:=HP.o;have h2:=j0.o;omega);have hw:(¬(j:Int)<2)\/((j:Int)<2/\¬(p:Int)<(m:Int)):=by omega
      have j7:=A (show(S.drop p).take (2-j)++R1=R1 by rw[j1];rfl);clear i3 j1 i2
      by_cases h2:i<toks.length
      .have e5:(i:Int)<(toks.length:Int):=by omega
       have e6:(0:Int)<=(i:Int):=by omega
       obtain⟨tg,l7,rfl,j1⟩:=aIO HT.o.2.2.2.2.1 rfl h2;have i2:=(aFz (L:=l) l.length 0 toks (by omega) (by simpa using HT.o.2.2.1)).1 toks[i] (List.getElem_mem h2);obtain⟨⟨kd,pl,sz,sx,sb⟩,hk⟩:∃k,toks[i]=k:=⟨_,rfl⟩;rw[hk]at i2 j1;obtain⟨t0,t1,t2,t3,t4⟩:=j1 wr (i4.o.trans (HJ.o.A4.mono i4.o.size));have j8:1<=sz/\pl+sz<=n:=by rw[<-HN.o.1];exact i2
       obtain⟨en,k8⟩:∃en,pl+sz=en:=⟨_,rfl⟩;have q1:I.wrap ((pl:Int)+(sz:Int))=(en:Int):=by rw[ao];omega
       have q2:(0:Int)<=(pl:Int):=by omega
       have q3:(pl:Int)<=(en:Int):=by omega
       have q4:(en:Int)<=(cap:Int):=by omega
       obtain⟨bg,bo,rfl,i3⟩:∃bg bo,a=N ⟨bg,bo,K⟩/\∀(i:Nat)(x:UInt8),l[i]?=N x->w.cell? ⟨bg,bo+i,K⟩=N (J .u8 ((x.toNat:Nat):Int)):=by
        obtain⟨a9,c9,e9,_,_,j2⟩:=HV.o;rcases j2 with s|⟨bg,bo,k9,_,i3⟩
        .have:=HN.o.1;rw[s]at this;simp at this;omega
        .injection e9 with e9 _ _
         exact⟨bg,bo,e9.trans k9,i3⟩
       
       have k9:=A (λ(W:H)(hW:E w.heap.size w W)=>show ∀(j:Nat)(u:C),(((l.drop pl).take sz).map bZ)[j]?=N u->W.cell? ((⟨bg,bo+pl,K⟩:Q).add j)=N u from λj u hj=>by
        rw[List.getElem?_map]at hj;cases o:((l.drop pl).take sz)[j]? with
        | none=>rw[o]at hj;cases hj
        | some x=>
         rw[o]at hj;injection hj with hj
         subst hj;have j2:=(aj.1 o).1;rw[List.length_take]at j2;rw[List.getElem?_take_of_lt (by omega),List.getElem?_drop]at o;rw[Addr.add_lit,Nat.add_assoc];exact bE hW (i3 _ x o))
       have j2:=A (show((l.drop pl).take sz).length=en-pl by rw[List.length_take,List.length_drop];have:=HN.o.1;omega);have l0:=A (show(((l.drop pl).take sz).map bZ).length=(en-pl)*1 by rw[List.length_map,j2.o,Nat.mul_one]);have l1:=A (show R1=(l.drop pl).take sz++iO l toks S (i+1) by rw[<-j5.o,dif_pos h2,hk]);have l2:=A (show ∀u∈((l.drop pl).take sz).map bZ,u.oneCell'=true from λu hu=>by obtain⟨x,_,rfl⟩:=List.mem_map.1 hu;rfl);have q7:1<=en-pl:=by omega
       have q8:a0.length+(en-pl)<=140000000:=by omega
       clear j1 i2 j8 k8 hk i3;rcases hw with hw|⟨hw,i2⟩
       all_goals
        go_wp2_with (at_builtin;refine bC zJ rfl _ _ rfl rfl (Y.o.2.1.A2 ((ai (λ_=>False) wr).A6 _) λ_ _=>id) ⟨bg,bo+pl,K⟩ (en-pl) _ _ rfl l0.o (k9.o _ ((chain b.o.1 HJ.o.A4).alloc (chain b.o.1 HJ.o.A4).size _)) l2.o q7 ?_ ?_ ?_)
        .omega
        .unfold maxLen;omega
        intro g off i6 w' F i1 hk;have HF:=A (And.intro F (And.intro i1 hk));clear F i1 hk;go_wp2_with fail;refine⟨⟨i+1,p,pl,by go_num,by omega,rfl,rfl,hp,j6,A ?_⟩,by simp[intOf];omega⟩;rw[<-j2.o];exact nL.C9 (X:=(l.drop pl).take sz) Y.o.1 (by rw[<-l1.o];exact j7.o) Y.o.2.2.1 Y.o.2.2.2 ((ai (λ_=>False) wr).A6 _) (by have s:=HF.o.1;rw[<-j2.o,<-List.map_drop,<-List.map_take]at s;exact s) (HF.o.2.1.imp id λs=>by have:=s.1;simpa using this) HF.o.2.2
      .have e5:¬(i:Int)<(toks.length:Int):=by omega
       have F:=A (show nL r Tt (iO l toks S (i+1)) (V oa a0.length oc) wr from by
        have s:=k7.o;rw[<-j5.o,dif_neg h2]at s;unfold iO;rw[if_neg (by omega)];exact s)
       rcases hw with hw|⟨hw,i2⟩
       all_goals
        go_wp2_with fail;exact⟨⟨i+1,p,az,by go_num,by omega,rfl,rfl,hp,j6,F⟩,by simp[intOf];omega⟩
   .have e1:¬(i:Int)<=(toks.length:Int):=by omega
    obtain⟨a0,T,h,G,i0⟩:=HL.o;rw[show iO l toks S i= [] by unfold iO;rw[if_neg k5],List.append_nil]at T;subst T;obtain⟨oa,oc,rfl⟩:=h.A7;have Y:=A (And.intro h (And.intro G i0));clear h G i0
    by_cases j2:16777216<a0.length
    .have e2:(16777216:Int)<(a0.length:Int):=by omega
     go_wp2;go_ret;exact⟨rfl,chain b.o.1 Y.o.2.2⟩
    .have e2:¬(16777216:Int)<(a0.length:Int):=by omega
     have F:BytesIn (λk=>wr.heap.size<=k) wr (V oa a0.length oc) a0:=by
      rcases Y.o.1.2 with⟨e,U⟩|⟨g,off,i6,i0,e,G,h,ho,hm,hi⟩
      .injection e with e1 e2 e3
       have U:a0= []:=List.eq_nil_of_length_eq_zero U;subst U;exact⟨oa,oc,rfl,Nat.zero_le _,by rw[e3];exact Nat.zero_le _,.inl rfl⟩
      .injection e with e1 e2 e3
       subst e1;subst e3;exact⟨_,oc,rfl,h,hm,.inr ⟨g,off,rfl,by have:=lt_of_block G;omega,λi x o=>(aA G).trans (hi i _ (by rw[List.getElem?_map,o];rfl))⟩⟩
     have G:mP a0 d=.ok t:=by
      rw[aEp HD.o.2 (by omega)];have s:=HT.o.2.2.2.1 (rowsOf toks.length S) (tC (S:=S) (λc h=>by rw[<-HS.o.1]at h;obtain⟨z,_,rfl⟩:=List.mem_map.1 h;exact aDF z) _ λc h=>h);rw[show spell l toks (rowsOf toks.length S)=a0 from by rw[<-HS.o.2];unfold iO oW;rw[if_pos (Nat.zero_le _)];rfl]at s;exact s
     have i0:=A (aEe wr a0 d (V oa a0.length oc) HD.o.1 HD.o.2 F (by omega));rw[G]at i0;have j4:=λw=>aIQ w
     clear F G;go_wp2_with fail;refine i0.o.mono ?_;rintro e w7 ⟨i1,a1,v7,rfl,i2,G,-⟩;obtain⟨a4,x,rfl⟩:=G.K5;have i3:=i1.C6 (D _) (λ_ s=>s.elim);have h:E r.heap.size r w7:=chain Y.o.2.2 i3;obtain⟨-,-,-,-,-,p5,p6,p7,p8,p9,pa,-⟩:=eB (keep b.o.2.2.1 h);have F:=aLL HD.o.2 (by have:=HN.o.1;omega) HT.o.1;have i6:=A (λ(W:H)(hW:E w7 w7 W)=>aMa W a1 a4 x _ _ t F.1 F.2 (keep i2 hW) (G.A2 (ak (λ_=>False) hW) λ_ _=>id) so fl bi tx va vn vm ka kn km (((HT.o.2.1.A2 (ak (λ_=>False) b.o.2.1) λ_ _ _ s=>s.elim).A2 (ak (λ_=>False) h) λ_ _ _ s=>s.elim).A2 (ak (λ_=>False) hW) λ_ _ _ s=>s.elim));have j1:=A (chain b.o.1 h);clear i1 i2 G i3 h F;go_wp2_with fail;refine(i6.o _ (ac _ _)).mono ?_;rintro e G ⟨rfl,h⟩;have F:=A (chain j1.o h);clear h;go_wp2;go_ret;exact⟨rfl,F.o⟩
