/-
  The program, one part of its walk. Conditions: none.
-/
import Derived.Test.YtakkmiomhackiaaGreatDoorBf12
import Derived.Test.YtakkmiomhackiaaGreatDoorBf16
set_option linter.all false
set_option maxRecDepth 100000
set_option maxHeartbeats 16000000
open Go.Proofs.Tryz
open Bool renaming false->S,true->K
open ByteArray renaming size_append->dl,size_extract->cg
open Decidable renaming byContradiction->dj
open Go renaming Calls->au,World->E,bodyPost_ret->ae,heap_alloc_new->ck,results->af
open Go.Ending renaming returned->aw
open Go.IntKind renaming i64->I,u64->X,u8->dm,wrap_i64->V,wrap_u64->ai,wrap_u8->dp
open Go.Lib renaming trimLeftB->ar,trimRightB->ag
open Go.Obj renaming cells->Y
open Go.Proofs renaming intOf->ao
open Go.Proofs.Tryz renaming prog->av,results120->ba,results121->bm,results163->cv
open Go.RowKit renaming Below->ak
open Go.RowKit.Below renaming refl->co
open Go.Value renaming agg->ah,bool->O,int->J,string->U,tuple->aj
open List renaming dropWhile_cons->bk,drop_drop->bh,drop_left->bz,drop_zero->bj,eq_nil_of_length_eq_zero->bu,length->dh,length_append->cw,length_drop->di,mem_cons_self->bx,reverse_append->cr,reverse_singleton->ct,singleton_append->cu,take_left->cz,take_of_length_le->bp
open Nat renaming le_refl->Z,le_succ->bc,mod_lt->cj
open Option renaming none->N,some->Q
open Or renaming inl->ac,inr->H
open UInt8.toNat renaming inj->bw
namespace Go.Proofs.YtakkmiomhackiaaGreatDoor
open Go.RowKit
variable {t:ByteArray}
def wO(b:Nat):fN b<9007199254740992:=by
 have:=cj b (show 4503599627370496>0 by decide);unfold fN;split<;>omega
def lG(b:Nat): -1074<=fX b/\fX b<=972:=by
 have:=cj (b/4503599627370496) (show 2048>0 by decide);unfold fX nN;omega
def aFt(neg:Bool)(g:ByteArray)(e:Int)(w:E)(b:gC ⟨neg,g.data.toList,e⟩)(t:g.size<=2147483648)(u: -4611686018427387904<=e)(m:e<=4611686018427387904):
 au av 158 #[ah #[neg,g,e]] w λr w'=>∃f:Nat,r=aw (J X f)/\nC ⟨neg,g.data.toList,e⟩ f/\ak w w w':=by
 have i:=A (λ(W:E)(f:Nat)=>nD neg g e (fN f) (fX f) W b t u m (by have:=wO f;omega) (by have:=lG f;omega) (by have:=lG f;omega));obtain⟨d,c⟩:∃d:Dml,⟨neg,g.data.toList,e⟩=d:=⟨_,rfl⟩;rw[c]at i⊢
 have a:0<=aW d (fN 0) (fX 0):=by
  unfold aW;rw[oV.1,if_pos (H rfl)];split
  .decide
  .simp
 have j:=A a;clear b c a;have g1:(w.alloc (Y #[neg,g,e] 251)).heap[w.heap.size]?=Q (Y #[neg,g,e] 251 (0,0)):=ck w _;have a:=(co w w).alloc (Z _) (Y #[neg,g,e] 251);go_enter func158,ntmps158;go_wp2
 go_loopw [3,4] (λl v wr=>∃b hi:Nat,l=J X b/\v=J X hi/\b<=hi/\hi<=9218868437227405311/\M (0<=aW d (fN b) (fX b))/\M (hi=9218868437227405311\/aW d (fN (hi+1)) (fX (hi+1))<0)/\wr.heap[w.heap.size]?=Q (Y #[neg,g,e] 251 (0,0))/\ak w w wr) (λl v _=>(ao v).toNat-(ao l).toNat)
 case atStart=>exact⟨0,9218868437227405311,rfl,rfl,by decide,Z _,j,A (ac rfl),g1,a⟩
 case round=>
  clear g1 a;obtain⟨b,hi,rfl,rfl,x,k,p,q,g1,c⟩:=hrel
  by_cases y:b<hi
  .have z:(b:Int)<(hi:Int):=by omega
   obtain⟨a,h⟩:∃a,b+(hi-b+1)/2=a:=⟨_,rfl⟩;have w1:X.wrap ((hi:Int)-(b:Int))=((hi-b:Nat):Int):=by rw[ai];omega
   have w2:X.wrap (((hi-b:Nat):Int)+1)=((hi-b:Nat):Int)+1:=by rw[ai];omega
   have L:X.wrap ((b:Int)+(((hi-b:Nat):Int)+1)/2)=(a:Int):=by rw[ai];omega
   have B:b<a:=by omega
   have n:a<=hi:=by omega
   clear h;obtain⟨C,c1,c2,D⟩:=cells3 g1;have F:=A g1;clear g1;go_wp2_with fail;refine(yT a _ (by omega)).mono ?_;rintro r w1 ⟨rfl,rfl⟩;go_wp2_with fail;refine(i.o _ a).mono ?_;rintro r w2 ⟨rfl,h⟩;have g1:=keep F.o h;have c:=chain c h;obtain⟨G,o⟩:∃G,aW d (fN a) (fX a)=G:=⟨_,rfl⟩;rw[o];have s:=A o;clear o C c1 c2 D h
   by_cases h:0<=G
   .have o:=A (show 0<=aW d (fN a) (fX a) by rw[s.o];exact h);go_wp2_with fail;exact⟨⟨a,hi,rfl,rfl,n,k,o,q,g1,c⟩,by simp[ao];omega⟩
   .have C:X.wrap ((a:Int)-1)=((a-1:Nat):Int):=by rw[ai];omega
    have o:=A (show a-1=9218868437227405311\/aW d (fN (a-1+1)) (fX (a-1+1))<0 from H (by rw[show a-1+1=a by omega,s.o];omega));go_wp2_with fail;exact⟨⟨b,a-1,rfl,rfl,by omega,by omega,p,o,g1,c⟩,by simp[ao];omega⟩
  .obtain rfl:b=hi:=by omega
   have z:¬(b:Int)<(b:Int):=by omega
   have a:=A (show nC d b from⟨k,p.o,q.o⟩);clear g1;go_wp2;go_ret;exact⟨b,rfl,a.o,c⟩
def uM:Option Nat->Value
 | none=>aj #[J X 0,O S]
 | some x=>aj #[J X (x:Nat),O K]
def aFu(neg:Bool)(c:ByteArray)(e:Int)(w:E)(a:gC ⟨neg,c.data.toList,e⟩)(D:c.size<=2147483648)(L: -4611686018427387904<=e)(i:e<=4611686018427387904):
 au av 120 #[ah #[neg,c,e],J I 1] w λr w'=>r=aw (uM (cF ⟨neg,c.data.toList,e⟩))/\ak w w w':=by
 have j:=A (λW:E=>aFt neg c e W a D L i);have k:=A (λ(W:E)(f:Nat)=>nD neg c e (fN f) (fX f) W a D L i (by have:=wO f;omega) (by have:=lG f;omega) (by have:=lG f;omega));have p:=A (λ(W:E)(f:Nat)=>nD neg c e (2*fN f+1) (fX f-1) W a D L i (by have:=wO f;omega) (by have:=lG f;omega) (by have:=lG f;omega));have b:=A (λf=>aH4 (f:=f) a);obtain⟨d,l⟩:∃d:Dml,⟨neg,c.data.toList,e⟩=d:=⟨_,rfl⟩;have g:d.a=neg:=by rw[<-l]
 rw[l]at j k p b⊢;have h:=A g;clear a l g;have g1:(w.alloc (Y #[neg,c,e] 251)).heap[w.heap.size]?=Q (Y #[neg,c,e] 251 (0,0)):=ck w _;have l:=(co w w).alloc (Z _) (Y #[neg,c,e] 251);go_enter func120,ntmps120;go_wp2_with fail;refine(j.o _).mono ?_;rintro r w1 ⟨f,rfl,g,a⟩;have g1:=keep g1 a;have l:=chain l a;have m:f<=9218868437227405311:=g.le;have o:=A (b.o f g);clear g a;go_wp2_with fail;refine(yT f _ (by omega)).mono ?_;rintro r w2 ⟨rfl,rfl⟩;obtain⟨z,c1,c2,-⟩:=cells3 g1;go_wp2_with fail;refine(k.o _ f).mono ?_;rintro r w3 ⟨rfl,a⟩;have g1:=keep g1 a;have l:=chain l a;obtain⟨T,g⟩:∃T,aW d (fN f) (fX f)=T:=⟨_,rfl⟩;rw[g];clear g a z c1 c2;obtain⟨z,c1,c2,-⟩:=cells3 g1;have g:=wO f;have s:=lG f;have t:X.wrap ((2:Int)*((fN f:Nat):Int))=((2*fN f:Nat):Int):=by rw[ai];omega
 have u:I.wrap (fX f-1)=fX f-1:=by rw[V];omega
 have P:(T==0)=K\/(T==0)=S:=by cases T==0<;>simp
 have a:∀x,gB d f=x->cF d=x:=λx a0=>o.o.symm.trans a0
 have n:=A a;clear a o b j k;rcases P with P|P
 all_goals
  go_wp2_with fail;refine(p.o _ f).mono ?_;rintro r w4 ⟨rfl,a⟩;have g1:=keep g1 a;have l:=chain l a;obtain⟨k,q⟩:∃k,aW d (2*fN f+1) (fX f-1)=k:=⟨_,rfl⟩;rw[q];have q:lE d f=k:=q;have b:=A q;clear q a z c1 c2 t u g s;obtain⟨z,-,-,-⟩:=cells3 g1
  have s:(((0:Int)<k)\/(¬(0:Int)<k/\k=0/\(f:Int)%2=1))/\rC d f=f+1\/((¬(0:Int)<k/\k=0/\(f:Int)%2=0)\/(¬(0:Int)<k/\¬k=0))/\rC d f=f:=by
   unfold rC;rw[b.o]
   by_cases g:0<k
   .exact ac ⟨ac g,if_pos (ac g)⟩
   .by_cases a:k=0
    .by_cases j:f%2=1
     .exact ac ⟨H ⟨g,a,by omega⟩,if_pos (H ⟨a,j⟩)⟩
     .exact H ⟨ac ⟨g,a,by omega⟩,if_neg (by omega)⟩
    .exact H ⟨H ⟨g,a⟩,if_neg (by omega)⟩
  clear b;have b:=A l;rcases s with⟨g,a⟩|⟨g,a⟩
  .obtain⟨F,R⟩:∃F,f+1=F:=⟨_,rfl⟩;rw[R]at a;have w1:X.wrap ((f:Int)+1)=(F:Int):=by rw[ai];omega
   have g4:(0:Int)<(F:Int):=by omega
   by_cases t:f=9218868437227405311
   .have o:=A (n.o N (by unfold gB;rw[a,if_pos (by unfold aM;omega)]));have o1:(9218868437227405311:Int)<(F:Int):=by omega
    clear a t n R m;rcases g with u|⟨u,j,B⟩
    all_goals
     try subst j
     try have k4:((f:Int)%2==1)=K:=by simpa using B
     go_wp2_with fail;exact ae (v:=aj #[J X 0,O S]) (by simp[af,ba,go_sem]) rfl ⟨by rw[o.o];rfl,b.o⟩
   .have o1:¬(9218868437227405311:Int)<(F:Int):=by omega
    obtain⟨G,y⟩:∃G,F+9223372036854775808=G:=⟨_,rfl⟩;have o2:X.wrap ((F:Int)+9223372036854775808)=(G:Int):=by rw[ai];omega
    have o:=A (n.o (Q (if d.a=K then G else F)) (by
     unfold gB;rw[a,if_neg (by unfold aM;omega),y];congr 1
     by_cases C:d.a=K
     .rw[if_pos ⟨C,by omega⟩,if_pos C]
     .rw[if_neg (λa0=>C a0.1),if_neg C]))
    rw[h.o]at o;clear a t n R m y;rcases g with u|⟨u,j,B⟩
    all_goals
     try subst j
     try have k4:((f:Int)%2==1)=K:=by simpa using B
     cases neg
     .go_wp2_with fail;exact ae (v:=aj #[J X (F:Int),O K]) (by simp[af,ba,go_sem]) rfl ⟨by rw[o.o];rfl,b.o⟩
     .go_wp2_with fail;exact ae (v:=aj #[J X (G:Int),O K]) (by simp[af,ba,go_sem]) rfl ⟨by rw[o.o];rfl,b.o⟩
  .have o1:¬(9218868437227405311:Int)<(f:Int):=by omega
   obtain⟨G,y⟩:∃G,f+9223372036854775808=G:=⟨_,rfl⟩;have o2:X.wrap ((f:Int)+9223372036854775808)=(G:Int):=by rw[ai];omega
   have o:=A (n.o (Q (if d.a=K/\0<f then G else f)) (by unfold gB;rw[a,if_neg (by unfold aM;omega),y]));rw[h.o]at o;clear a n m y;rcases g with⟨u,j,B⟩|⟨u,j⟩
   all_goals
    try have m:(k==0)=S:=by simpa using j
    try subst j
    cases neg
    .go_wp2_with fail;exact ae (v:=aj #[J X f,O K]) (by simp[af,ba,go_sem]) rfl ⟨by rw[o.o];rfl,b.o⟩
    .by_cases a:0<f
     .have n:(0:Int)<(f:Int):=by omega
      rw[if_pos ⟨rfl,a⟩]at o;go_wp2_with fail;exact ae (v:=aj #[J X (G:Int),O K]) (by simp[af,ba,go_sem]) rfl ⟨by rw[o.o];rfl,b.o⟩
     .have n:¬(0:Int)<(f:Int):=by omega
      rw[if_neg (λa0=>a a0.2)]at o;go_wp2_with fail;exact ae (v:=aj #[J X f,O K]) (by simp[af,ba,go_sem]) rfl ⟨by rw[o.o];rfl,b.o⟩
def aFv(h:0<t.size)(a:t[0]=48):ar t.data.toList 48=ar (t.extract 1 t.size).data.toList 48/\(t.extract 1 t.size).size=t.size-1:=by
 have e:t.data.toList=48::(t.extract 1 t.size).data.toList:=by
  have b:=bA h;rw[bj,a]at b;rw[b];congr 1;simp;rw[bp (by simp)]
 refine⟨?_,by simp⟩;rw[e];unfold ar;rw[bk,if_pos (by decide)]
def aH6(h:∀h:0<t.size,t[0]≠48):ar t.data.toList 48=t.data.toList:=by
 unfold ar
 by_cases b:0<t.size
 .have a:=bA b;rw[bj]at a;rw[a,bk,if_neg (by simpa using h b)]
 .have:t.data.toList= []:=bu (by rw[show t.data.toList.length=t.size by simp];omega);rw[this];rfl
def aA4{n:Nat}(h:t.size=n+1):t.data.toList=(t.extract 0 n).data.toList++ [t[n]]:=by
 have e:=List.take_append_drop n t.data.toList;have a:=bA (s:=t) (i:=n) (by omega);rw[cY (s:=t) (i:=n+1) (by omega)]at a;rw[a]at e;have b:(t.extract 0 n).data.toList=t.data.toList.take n:=by simp
 rw[b,e]
def aFw{n:Nat}(h:t.size=n+1)(a:t[n]=48):ag t.data.toList 48=ag (t.extract 0 n).data.toList 48/\(t.extract 0 n).size=n:=by
 refine⟨?_,by simp;omega⟩;rw[aA4 h,a];unfold ag;rw[cr,ct,cu,bk,if_pos (by decide)]
def aH7(h:∀n,∀h:t.size=n+1,t[n]≠48):ag t.data.toList 48=t.data.toList:=by
 unfold ag
 by_cases b:t.size=0
 .have:t.data.toList= []:=bu (by rw[show t.data.toList.length=t.size by simp];omega);rw[this];rfl
 .obtain⟨n,a⟩:∃n,t.size=n+1:=⟨t.size-1,by omega⟩;rw[aA4 a,cr,ct,cu,bk,if_neg (by simpa using h n a)];simp
def aFx(neg:Bool)(l:ByteArray)(e:Int)(w:E)(hs:l.size<=2147483648)(he: -4611686018427387904<=e)(g6:e<=4611686018427387904):
 au av 163 #[ah #[neg,l,e]] w λr w'=>r=aw (fV (cB neg l.data.toList e))/\ak w w w':=by
 obtain⟨F,d⟩:∃F,ar l.data.toList 48=F:=⟨_,rfl⟩;obtain⟨a1,f⟩:∃a1,cB neg l.data.toList e=a1:=⟨_,rfl⟩;have a:(if ag F 48= []then⟨S,[],0⟩else⟨neg,ag F 48,e+F.length-(ag F 48).length⟩:Dml)=a1:=by rw[<-f,<-d];rfl
 rw[f];have m:=A a;obtain⟨g1,c,g⟩:=fU w (Y #[neg,l,e] 251) (Y #[O S,"",J I 0] 251);have HT:=A d;clear f a d;go_enter func163,ntmps163;go_wp2
 go_loopw [6] (λ_ wr=>∃t:ByteArray,wr.heap[w.heap.size]?=Q (Y #[neg,t,e] 251 (0,0))/\wr.heap[w.heap.size+1]?=Q (Y #[O S,"",J I 0] 251 (0,0))/\ak w w wr/\t.size<=2147483648/\M (ar t.data.toList 48=F)) (λ_ wr=>match wr.cell? ⟨w.heap.size,1,N⟩with|some (U s)=>s.size|_=>0)
 case atStart=>exact⟨l,g1,c,g,hs,HT⟩
 case round=>
  clear g1 c g;obtain⟨t,g1,c,g,G,h⟩:=hrel;obtain⟨-,c1,-,cf⟩:=cells3 g1
  by_cases a:∃f:0<t.size,t[0].toNat=48
  .obtain⟨f,d⟩:=a
   obtain⟨z,C⟩:=aFv f (bw d);have i:((t[0].toNat:Nat):Int)=48:=by omega
   have q:=aB (o:=1) g1 (U (t.extract 1 t.size));have D:=(aE (w:=wr) (o:=1) (b:=w.heap.size) (k:=w.heap.size+1) (U (t.extract 1 t.size)) (by omega)).trans c;have L:=A (z.symm.trans h.o);have j:=g.setCell (p:=⟨w.heap.size,1,N⟩) (Z _) (U (t.extract 1 t.size));have P:=aA (o:=1) q;have y:(t.extract 1 t.size).size<t.size:=by omega
   clear z C d;go_wp2_with fail;refine⟨⟨t.extract 1 t.size,q,D,j,by omega,L⟩,?_⟩;rw[P,c1];exact y
  .have i:=aH6 (t:=t) λf R=>a ⟨f,by rw[R];rfl⟩
   have hq:¬(0:Int)<(t.size:Int)\/((0:Int)<(t.size:Int)/\∃f:0<t.size,¬((t[0].toNat:Nat):Int)=48/\(((t[0].toNat:Nat):Int)==48)=S):=by
    by_cases f:0<t.size
    .have:¬((t[0].toNat:Nat):Int)=48:=λR=>a ⟨f,by omega⟩
     exact H ⟨by omega,f,this,by simpa using this⟩
    .exact ac (by omega)
   have T:F=t.data.toList:=h.o.symm.trans i;clear a i h;subst T;have h:t.data.toList.length=t.size:=by simp
   rw[h]at m;obtain⟨a0,i⟩:∃a0,ag t.data.toList 48=a0:=⟨_,rfl⟩;rw[i]at m;have HU:=A i;clear i h;rcases hq with q1|⟨q1,f,-,q3⟩
   all_goals
    go_wp2
    go_loopw [21] (λ_ wr=>∃(u:ByteArray)(x:Int),wr.heap[w.heap.size]?=Q (Y #[neg,u,x] 251 (0,0))/\wr.heap[w.heap.size+1]?=Q (Y #[O S,"",J I 0] 251 (0,0))/\ak w w wr/\u.size<=2147483648/\x+u.size=e+t.size/\M (ag u.data.toList 48=a0)) (λ_ wr=>match wr.cell? ⟨w.heap.size,1,N⟩with|some (U s)=>s.size|_=>0)
    case atStart=>exact⟨t,e,g1,c,g,G,rfl,HU⟩
    case round=>
     clear g1 c g c1 cf;obtain⟨u,x,g1,c,g,g7,hx,h⟩:=hrel;obtain⟨c0,c1,c2,cf⟩:=cells3 g1
     by_cases a:∃n,∃f:u.size=n+1,u[n].toNat=48
     .obtain⟨n,f,d⟩:=a;have W:(0:Int)<(u.size:Int):=by omega
      obtain⟨z,C⟩:=aFw f (bw d);have i:n<u.size:=by omega
      have p2:(((u[n]'i).toNat:Nat):Int)=48:=by omega
      have p3:I.wrap ((u.size:Int)-1)=(n:Int):=by rw[V];omega
      have p4:I.wrap (x+1)=x+1:=by rw[V];omega
      have p5:(n:Int)<(u.size:Int):=by omega
      have p6:(n:Int)<=(u.size:Int):=by omega
      have q:=aB (o:=2) (aB (o:=1) g1 (U (u.extract 0 n))) (J I (x+1));have D:=(aE (o:=2) (b:=w.heap.size) (k:=w.heap.size+1) (J I (x+1)) (by omega)).trans ((aE (w:=wr) (o:=1) (b:=w.heap.size) (k:=w.heap.size+1) (U (u.extract 0 n)) (by omega)).trans c);have L:=A (z.symm.trans h.o);have j:=(g.setCell (p:=⟨w.heap.size,1,N⟩) (Z _) (U (u.extract 0 n))).setCell (p:=⟨w.heap.size,2,N⟩) (Z _) (J I (x+1));have P:=aA (o:=1) q;have y:(u.extract 0 n).size<u.size:=by omega
      have B:x+1+((u.extract 0 n).size:Int)=e+(t.size:Int):=by rw[C];omega
      have g5:=A B;clear z d f B;go_wp2_with fail;refine⟨⟨u.extract 0 n,x+1,q,D,j,by omega,g5.o,L⟩,?_⟩;rw[P,c1];exact y
     .have y:=aH7 (t:=u) λn f R=>a ⟨n,f,by rw[R];rfl⟩
      have L:a0=u.data.toList:=h.o.symm.trans y;have z:u.data.toList.length=u.size:=by simp
      have B:x=e+(t.size:Int)-(u.size:Int):=by omega
      subst L;rw[z]at m
      by_cases f:u.size=0
      .have W:(u.size:Int)=0:=by omega
       have p2:¬(0:Int)<(u.size:Int):=by omega
       have d:u.data.toList= []:=bu (by omega);rw[if_pos d]at m;have h0:=aA (o:=0) c;have q:=aA (o:=1) c;have D:=aA (o:=2) c;have hf:=free_at c;have j:=aB (o:=2) (aB (o:=1) (aB (o:=0) c (O S)) (U ⟨#[]⟩)) (J I 0);have P:=aA (o:=0) j;have r1:=aA (o:=1) j;have r2:=aA (o:=2) j;have C:=A (((g.setCell (p:=⟨w.heap.size+1,0,N⟩) (bc _) (O S)).setCell (p:=⟨w.heap.size+1,1,N⟩) (bc _) (U ⟨#[]⟩)).setCell (p:=⟨w.heap.size+1,2,N⟩) (bc _) (J I 0));clear d j B a y h;go_wp2_with fail;exact ae (v:=ah #[O S,"",J I 0]) (by simp[af,cv,go_sem,P,r1,r2]) rfl ⟨by rw[<-m.o];rfl,C.o⟩
      .obtain⟨n,hn⟩:∃n,u.size=n+1:=⟨u.size-1,by omega⟩;have W:¬(u.size:Int)=0:=by omega
       have p2:(0:Int)<(u.size:Int):=by omega
       have p0:((u.size:Int)==0)=S:=by simpa using W
       have p3:I.wrap ((u.size:Int)-1)=(n:Int):=by rw[V];omega
       have p5:(n:Int)<(u.size:Int):=by omega
       have i:n<u.size:=by omega
       have p6:¬(((u[n]'i).toNat:Nat):Int)=48:=λR=>a ⟨n,hn,by omega⟩
       have p7:((((u[n]'i).toNat:Nat):Int)==48)=S:=by simpa using p6
       have d:u.data.toList≠ []:=λR=>by rw[R]at z;simp at z;omega
       rw[if_neg d]at m;have h0:=aA (o:=0) c;have q:=aA (o:=1) c;have D:=aA (o:=2) c;have hf:=free_at c;have j:=aB (o:=2) (aB (o:=1) (aB (o:=0) c (O neg)) (U u)) (J I x);have P:=aA (o:=0) j;have r1:=aA (o:=1) j;have r2:=aA (o:=2) j;have C:=A (((g.setCell (p:=⟨w.heap.size+1,0,N⟩) (bc _) (O neg)).setCell (p:=⟨w.heap.size+1,1,N⟩) (bc _) (U u)).setCell (p:=⟨w.heap.size+1,2,N⟩) (bc _) (J I x));have g5:=A B;clear d j B a y h hn;go_wp2_with fail;exact ae (v:=ah #[neg,u,x]) (by simp[af,cv,go_sem,P,r1,r2]) rfl ⟨by rw[<-m.o,<-g5.o];rfl,C.o⟩
def yW{s:ByteArray}{i:Nat}{c:UInt8}{t:Oo}(h:s.data.toList.drop i=c::t):∃hi:i<s.size,s[i]=c:=by
 have hi:i<s.size:=dj λe=>by rw[cY e]at h;cases h
 refine⟨hi,?_⟩;rw[bA hi]at h;injection h
def yX{W r:Oo}(a:∀d∈W,isD d=K)(b:bR r=S):over (W++r)=W.length:=by
 unfold over;rw[(iL a b).1]
def aKh(l:Oo)(h:∀d∈l,isD d=K):fH l<=351843720888329:=by
 unfold fH
 suffices ∀(l:Oo)(a:Nat),(∀d∈l,isD d=K)->a<=351843720888329->l.foldl dD a<=351843720888329 from this l 0 h (by decide)
 intro l
 induction l with
 | nil=>intro a _ f;exact f
 | cons c t g=>
  intro a e f;refine g _ (λd b=>e d (List.mem_cons_of_mem _ b)) ?_;have:=kK (e c bx);unfold dD;split<;>omega
def aKi{l:Oo}{c:UInt8}:fH (l++ [c])=dD (fH l) c:=by unfold fH;rw[List.foldl_append];rfl
def aH8(G:ByteArray)(w:E)(neg:Bool)(W:Oo)(P:Option Oo)(a0:Option mX)(a6:aAN G.data.toList neg W P a0)(hs:G.size<=2147483648):
 au av 121 #[G] w λr w'=>r=aw (fV (j3 neg W P a0))/\ak w w w':=by
 obtain⟨u,hl,q⟩:=a6;obtain⟨⟨an,ad,ax⟩,g⟩:∃z,j3 neg W P a0=z:=⟨_,rfl⟩;rw[g];have HA:=A g;clear g
 obtain⟨s,j5,n3,l7⟩:∃s:ByteArray,s.data.toList=u/\s.size<=2147483648/\((neg=K/\G.extract 1 G.size=s/\∃a6:0<G.size,G[0]=45)\/(neg=S/\s=G/\∃a6:0<G.size,G[0]≠45)):=by
  cases neg with
  | true=>
   have hl:G.data.toList=45::u:=hl;obtain⟨L,j⟩:=yW (s:=G) (i:=0) (by rw[bj];exact hl);refine⟨G.extract 1 G.size,?_,by simp;omega,ac ⟨rfl,rfl,L,j⟩⟩;have e:(G.extract 1 G.size).data.toList=G.data.toList.drop 1:=by simp;rw[bp (by simp)]
   rw[e,hl];rfl
  | false=>
   have hl:G.data.toList=u:=hl;refine⟨G,hl,hs,H ⟨rfl,rfl,?_⟩⟩;cases g:W with
   | nil=>exact absurd g q.ne
   | cons c t=>
    have h2:G.data.toList.drop 0=c::(t++(pL P++eL a0)):=by rw[bj,hl,q.is,g];rfl
    obtain⟨L,j⟩:=yW h2;refine⟨L,?_⟩;rw[j];rintro rfl;have:=q.b 45 (by rw[g];exact bx);revert this;decide
 have l8:s.data.toList.length=s.size:=by simp
 have m3:=A (λ(W:E)(i:Nat)(hi:i<=s.size)=>aES W s i hi n3);have n4:=A (λ(W:E)(i:Nat)=>uZ W s i);have g:s.data.toList=W++(pL P++eL a0):=j5.trans q.is;have l:s.size=W.length+(pL P++eL a0).length:=by rw[<-l8,g,cw]
 have h:s.data.toList.drop W.length=pL P++eL a0:=by rw[g,bz]
 have T:over s.data.toList=W.length:=by rw[g];exact yX q.b (aJw q.a)
 have m:(s.extract 0 W.length).data.toList=W:=by
  rw[show(s.extract 0 W.length).data.toList=s.data.toList.take W.length by simp,g,cz]
 obtain⟨n,hn⟩:∃n,W.length=n:=⟨_,rfl⟩;rw[hn]at l h T m;have o0:n<=s.size:=by omega
 have C:(0:Nat)+over (s.data.toList.drop 0)=n:=by rw[bj,T,Nat.zero_add]
 have R:∀W:E,au av 161 #[s,J I 0] W λe w'=>e=aw (J I n)/\w'=W:=λW=>by
  have:=m3.o W 0 (Nat.zero_le _);rw[C]at this;exact this
 have n5:=A R;obtain⟨g2,g3,hb⟩:=fU w (Y #[O S,"",J I 0] 251) (Y #[neg,"",J I 0] 251);have G2:=A g2;have G3:=A g3;have HB:=A hb;clear g2 g3 hb;have HU:=A q;have m4:=A l;have k7:=A h;have k8:=A m;clear hl q j5 g l h T m C hn R
 have l0:=A (λ(W':E)(d:ByteArray)(x:Int)(j:d.size<=2147483648)(h2: -4611686018427387904<=x)(m:x<=4611686018427387904)=>aFx neg d x W' j h2 m);obtain⟨B,hB⟩:∃B,w.heap.size+1=B:=⟨_,rfl⟩;have l1:w.heap.size<=B:=by omega
 have k0:w.heap.size≠B:=by omega
 rcases l7 with⟨k9,he,L,j⟩|⟨k9,he,L,j⟩
 case' inl=>
  have k1:((G[0].toNat:Nat):Int)=45:=by rw[j];rfl
  have k2:(1:Int)<=(G.size:Int):=by omega
  subst k9;clear j;go_enter func121,ntmps121;go_wp2_with fail;clear k1 k2 he L hs;generalize ((w.alloc (Y #[O S,"",J I 0] 251)).alloc (Y #[O K,"",J I 0] 251))=w1 at*
 case' inr=>
  subst he;have k1:¬((s[0].toNat:Nat):Int)=45:=λa6=>j (bw (show s[0].toNat=45 by omega))
  have k2:(((s[0].toNat:Nat):Int)==45)=S:=by simpa using k1
  subst k9;clear j;go_enter func121,ntmps121;go_wp2_with fail;generalize g:s[0].toNat=z at*;clear k1 k2 L hs g;generalize ((w.alloc (Y #[O S,"",J I 0] 251)).alloc (Y #[O S,"",J I 0] 251))=w1 at*
 all_goals
  rw[hB]at*;refine(n5.o _).mono ?_;rintro r w2 ⟨rfl,rfl⟩;have o1:(n:Int)<=(s.size:Int):=by omega
  obtain⟨c0,c1,c2,cf⟩:=cells3 G3.o;obtain⟨p,hp⟩:∃p,n+(pL P).length=p:=⟨_,rfl⟩;have T:s.data.toList.drop p=eL a0:=by rw[<-hp,<-bh,k7.o,bz]
  have q:p+(eL a0).length=s.size:=by have:=m4.o;rw[cw]at this;omega
  have m5:=A (show ∀F,P=Q F->n+1+F.length=p/\s.data.toList.drop n=46::(F++eL a0)from λF e=>by
   subst e;exact⟨by rw[<-hp];simp[pL];omega,k7.o⟩)
  have m6:=A (show P=N->n=p from λe=>by subst e;simpa[pL]using hp)
  have l9:(a0=N/\p=s.size)\/(∃x R g,a0=Q x/\p+1=R/\(∃a6:R<s.size,(x.a= []/\s[R].toNat≠45/\s[R].toNat≠43/\R=g)\/(x.a= [43]/\s[R].toNat=43/\R+1=g)\/(x.a= [45]/\s[R].toNat=45/\R+1=g))/\s.data.toList.drop g=x.X/\(∃a6:p<s.size,s[p].toNat≠46)/\(∀d∈x.X,isD d=K)):=by
   cases l:a0 with
   | none=>exact ac ⟨rfl,by rw[l]at q;exact q⟩
   | some x=>
    obtain⟨j,h2,m,h4⟩:=HU.o.a x l;have j5:s.data.toList.drop p=x.c::(x.a++x.X):=by rw[T,l];rfl
    have h:s.data.toList.drop (p+1)=x.a++x.X:=by rw[<-bh,j5];rfl
    obtain⟨i0,j0⟩:=yW j5;have j6:∃a6:p<s.size,s[p].toNat≠46:=⟨i0,by rw[j0];rcases j with e|e<;>rw[e]<;>decide⟩;refine H ⟨x,p+1,p+1+x.a.length,rfl,rfl,?_,by rw[<-bh,h,bz],j6,h4⟩;rcases h2 with e|e|e
    .rw[e]at h⊢;cases hX:x.X with
     | nil=>exact absurd hX m
     | cons c t=>
      rw[hX]at h h4;obtain⟨i1,C⟩:=yW (s:=s) (i:=p+1) (c:=c) (t:=t) h;have hc:=kK (h4 c bx);exact⟨i1,ac ⟨rfl,by rw[C];omega,by rw[C];omega,rfl⟩⟩
    .rw[e]at h⊢;obtain⟨i1,C⟩:=yW (s:=s) (i:=p+1) (c:=43) (t:=x.X) h;exact⟨i1,H (ac ⟨rfl,by rw[C];rfl,rfl⟩)⟩
    .rw[e]at h⊢;obtain⟨i1,C⟩:=yW (s:=s) (i:=p+1) (c:=45) (t:=x.X) h;exact⟨i1,H (H ⟨rfl,by rw[C];rfl,rfl⟩)⟩
  have o2:p<=s.size:=by omega
  clear hp q T;have m7:P=N\/∃F,P=Q F:=by cases P;exact ac rfl;exact H ⟨_,rfl⟩
  have h:∀F,P=Q F->(s.extract 0 n++s.extract (n+1) p).data.toList=W++F/\(s.extract 0 n++s.extract (n+1) p).size<=s.size/\F.length=p-(n+1)/\n+1<=p:=by
   intro F T;obtain⟨e1,e2⟩:=m5.o F T;have e3:(s.extract (n+1) p).data.toList=(s.data.toList.drop (n+1)).take (p-(n+1)):=by simp
   have e4:s.data.toList.drop (n+1)=F++eL a0:=by rw[<-bh,e2];rfl
   refine⟨?_,?_,by omega,by omega⟩
   .have q:(s.extract 0 n++s.extract (n+1) p).data.toList=(s.extract 0 n).data.toList++(s.extract (n+1) p).data.toList:=by simp
    rw[q,e3,k8.o,e4,show p-(n+1)=F.length by omega,cz]
   .simp only[dl,cg];omega
  have l3:=A h
  have l4:=A (show ∀F,P=Q F->(∃a6:n<s.size,s[n].toNat=46)/\∀W:E,au av 161 #[s,J I ((n:Int)+1)] W λe w'=>e=aw (J I p)/\w'=W from λF T=>by
   obtain⟨e1,e2⟩:=m5.o F T;obtain⟨i0,j0⟩:=yW e2;refine⟨⟨i0,by rw[j0];rfl⟩,λW=>?_⟩;have e4:s.data.toList.drop (n+1)=F++eL a0:=by rw[<-bh,e2];rfl
   have:=m3.o W (n+1) (by omega);rw[e4,yX (HU.o.e F T).2 (aEW HU.o.a),e1]at this;exact this)
  clear h;rcases l9 with⟨l,m8⟩|⟨x,R,g,l,m9,⟨n0,m0⟩,C,⟨o3,l5⟩,l6⟩
  .have a1:¬(p:Int)<(s.size:Int):=by omega
   have l2:pW a0=0:=by rw[l];rfl
   rcases m7 with T|⟨F,T⟩
   .have m1:=m6.o T;have a2:¬(n:Int)<(s.size:Int):=by omega
    have hD:=k8.o;have j5:(s.extract 0 n).size<=2147483648:=by simp only[cg];omega
    have HV:=A (show ∀b,cB b (s.extract 0 n).data.toList 0=j3 b W P a0 from λb=>by unfold j3;rw[hD,l2,T];simp);clear hD l2 l T m8 m1;go_wp2_with fail;have j6:=G2.o;have j7:=HB.o
    with_reducible refine(l0.o _ (s.extract 0 n) 0 j5 (by decide) (by decide)).mono ?_
    rintro r w9 ⟨rfl,h⟩;have g2:=keep j6 h;have q:=chain j7 h;rw[HV.o,HA.o];obtain⟨y0,y1,y2,yf⟩:=cells3 g2;have gg:=aB (o:=2) (aB (o:=1) (aB (o:=0) g2 (O an)) (U ⟨ad.toArray⟩)) (J I ax);have r0:=aA (o:=0) gg;have r1:=aA (o:=1) gg;have r2:=aA (o:=2) gg;have j8:=A (((q.setCell (p:=⟨w.heap.size,0,N⟩) (Z _) (O an)).setCell (p:=⟨w.heap.size,1,N⟩) (Z _) (U ⟨ad.toArray⟩)).setCell (p:=⟨w.heap.size,2,N⟩) (Z _) (J I ax));clear gg h q;unfold fV;go_wp2_with fail;exact ae (v:=ah #[an,U ⟨ad.toArray⟩,ax]) (by simp[af,bm,go_sem,r0,r1,r2]) rfl ⟨rfl,j8.o⟩
   .obtain⟨⟨hi,j9⟩,k6⟩:=l4.o F T;obtain⟨d1,d2,d3,-⟩:=l3.o F T;have m2:=A k6;obtain⟨f,hf⟩:∃f,p-(n+1)=f:=⟨_,rfl⟩;rw[hf]at d3;have HV:=A (show ∀b,cB b (s.extract 0 n++s.extract (n+1) p).data.toList (-(f:Int))=j3 b W P a0 from λb=>by unfold j3;rw[d1,l2,T];simp[d3]);have j5:(s.extract 0 n++s.extract (n+1) p).size<=2147483648:=by omega
    have t1:((s[n].toNat:Nat):Int)=46:=by rw[j9];rfl
    have t2:(n:Int)<(s.size:Int):=by omega
    have t3:I.wrap ((n:Int)+1)=(n:Int)+1:=by rw[V];omega
    have t4:I.wrap ((p:Int)-(n:Int))=(f:Int)+1:=by rw[V];omega
    have t5:I.wrap (f:Int)=(f:Int):=by rw[V];omega
    have t6:I.wrap (-(f:Int))= -(f:Int):=by rw[V];omega
    have t7:(n:Int)+1<=(p:Int):=by omega
    have t8:(p:Int)<=(s.size:Int):=by omega
    have n1: -4611686018427387904<= -(f:Int):=by omega
    have n2: -(f:Int)<=4611686018427387904:=by omega
    have j6:=(aE (w:=w2) (o:=2) (b:=B) (k:=w.heap.size) (J I (-(f:Int))) k0).trans G2.o;have j7:=HB.o.setCell (p:=⟨B,2,N⟩) l1 (J I (-(f:Int)));clear k6 d1 d2 d3 hf l2 j9 l m8;go_wp2_with fail;refine(m2.o _).mono ?_;rintro r w3 ⟨rfl,rfl⟩;go_wp2_with fail
    with_reducible refine(l0.o _ (s.extract 0 n++s.extract (n+1) p) (-(f:Int)) j5 n1 n2).mono ?_
    rintro r w9 ⟨rfl,h⟩;have g2:=keep j6 h;have q:=chain j7 h;rw[HV.o,HA.o];obtain⟨y0,y1,y2,yf⟩:=cells3 g2;have gg:=aB (o:=2) (aB (o:=1) (aB (o:=0) g2 (O an)) (U ⟨ad.toArray⟩)) (J I ax);have r0:=aA (o:=0) gg;have r1:=aA (o:=1) gg;have r2:=aA (o:=2) gg;have j8:=A (((q.setCell (p:=⟨w.heap.size,0,N⟩) (Z _) (O an)).setCell (p:=⟨w.heap.size,1,N⟩) (Z _) (U ⟨ad.toArray⟩)).setCell (p:=⟨w.heap.size,2,N⟩) (Z _) (J I ax));clear gg h q;unfold fV;go_wp2_with fail;exact ae (v:=ah #[an,U ⟨ad.toArray⟩,ax]) (by simp[af,bm,go_sem,r0,r1,r2]) rfl ⟨rfl,j8.o⟩
  .have l2:∀i(j:g<=i)(h2:i<s.size),bR (s.data.toList.drop i)=K/\48<=s[i].toNat/\s[i].toNat<=57/\x.X.take (i+1-g)=x.X.take (i-g)++ [s[i]]:=by
    intro i j h2;have e1:s.data.toList.drop i=x.X.drop (i-g):=by rw[<-C,bh,show g+(i-g)=i by omega]
    have e2:=bA h2
    have hl:i-g<x.X.length:=by
     have:=congrArg dh C;rw[di,l8]at this;omega
    rw[e1]at e2⊢;have e3:=List.drop_eq_getElem_cons hl;rw[e3]at e2⊢;injection e2 with e4 _
    have hm:=l6 (x.X[i-g]) (List.getElem_mem _);refine⟨hm,?_,?_,?_⟩
    .rw[<-e4];exact(kK hm).1
    .rw[<-e4];exact(kK hm).2
    .rw[show i+1-g=(i-g)+1 by omega,List.take_succ_eq_append_getElem hl,e4]
   have n6:=A l2
   have n7:=A (show x.X.take (s.size-g)=x.X by
    rw[bp];have:=congrArg dh C;rw[di,l8]at this;omega)
   have n8:g<=s.size:=by rcases m0 with⟨_,_,_,a6⟩|⟨_,_,a6⟩|⟨_,_,a6⟩<;>omega
   have n1:=A (show ∀a:Nat,a=fH x.X->pW a0=if x.a= [45]then -(a:Int)else(a:Int)from λa a6=>by rw[l,a6];rfl);clear l2 C l6 l;have a1:(p:Int)<(s.size:Int):=by omega
   have a2:(R:Int)<(s.size:Int):=by omega
   have a3:I.wrap ((p:Int)+1)=(R:Int):=by rw[V];omega
   have l6:(x.a= [45]/\s[R].toNat=45/\R+1=g)\/(x.a≠ [45]/\s[R].toNat=43/\R+1=g)\/(x.a≠ [45]/\s[R].toNat≠45/\s[R].toNat≠43/\R=g):=by
    rcases m0 with⟨L,j,h2,m⟩|⟨L,j,m⟩|⟨L,j,m⟩
    .exact H (H ⟨by rw[L];decide,j,h2,m⟩)
    .exact H (ac ⟨by rw[L];decide,j,m⟩)
    .exact ac ⟨L,j,m⟩
   clear m0;have a4:R+1=g->I.wrap ((R:Int)+1)=(g:Int):=λa6=>by rw[V];omega
   rcases m7 with T|⟨F,T⟩
   all_goals
    first
    | (obtain⟨⟨hi,j9⟩,k6⟩:=l4.o F T;obtain⟨d1,d2,d3,d4⟩:=l3.o F T;have m2:=A k6;obtain⟨f,hf⟩: ∃f,p - (n+1)=f:=⟨_,rfl⟩;rw [hf]at d3;have t1:((s[n].toNat:Nat):Int)=46:=by rw [j9];rfl
       have t2:(n:Int)<(s.size:Int):=by omega
       have t3:I.wrap ((n:Int)+1)=(n:Int)+1:=by rw[V];omega
       have t4:I.wrap ((p:Int)-(n:Int))=(f:Int)+1:=by rw[V];omega
       have t5:I.wrap (f:Int)=(f:Int):=by rw[V];omega
       obtain⟨l,C⟩:∃l:Int,-(f:Int)=l:=⟨_,rfl⟩;have t6:I.wrap (-(f:Int))=l:=by rw[V];omega
       have t7:(n:Int)+1<=(p:Int):=by omega
       have t8:(p:Int)<=(s.size:Int):=by omega
       have HV:=A (show ∀b,cB b (s.extract 0 n++s.extract (n+1) p).data.toList (l+pW a0)=j3 b W P a0 from λb=>by
        unfold j3;rw[d1,T,<-C];congr 1;show -(f:Int)+pW a0=pW a0-(F.length:Int);rw[d3];omega)
       have j5:(s.extract 0 n++s.extract (n+1) p).size<=2147483648:=by omega
       have m0: -2147483648<=l:=by omega
       have n2:l<=0:=by omega
       have j6:=(aE (w:=w2) (o:=2) (b:=B) (k:=w.heap.size) (J I l) k0).trans G2.o;have l2:=aB (o:=2) G3.o (J I l);have j7:=HB.o.setCell (p:=⟨B,2,N⟩) l1 (J I l);clear k6 d1 d2 d3 d4 hf j9 T C m9 l5;go_wp2_with fail;refine(m2.o _).mono ?_;rintro r w3 ⟨rfl,rfl⟩;rcases l6 with⟨L,j,m⟩|⟨L,j,m⟩|⟨L,j,h2,m⟩
       case' inl=>
        have a5:=a4 m
        go_wp2_with fail
       case' inr.inl=>
        have a5:=a4 m
        go_wp2_with fail
       case' inr.inr=>
        have m:=m.symm;subst m;have b3:¬((s[g].toNat:Nat):Int)=45:=by omega
        have b4:(((s[g].toNat:Nat):Int)==45)=S:=by simpa using b3
        have b5:¬((s[g].toNat:Nat):Int)=43:=by omega
        have b6:(((s[g].toNat:Nat):Int)==43)=S:=by simpa using b5
        go_wp2_with fail
       all_goals
        have c0:=aA (o:=0) l2;have c2:=aA (o:=2) l2;have cf:=free_at l2;generalize s.extract 0 n++s.extract (n+1) p=D at*;generalize w3.setCell ⟨B,2,N⟩ (J I l)=wc at*)
    | (have m1 := m6.o T
       subst m1;have b1:¬((s[n].toNat:Nat):Int)=46:=by omega
       have b2:(((s[n].toNat:Nat):Int)==46)=S:=by simpa using b1
       obtain⟨l,C⟩:∃l:Int,0=l:=⟨_,rfl⟩;have hD:=k8.o;have j5:(s.extract 0 n).size<=2147483648:=by simp only[cg];omega
       have HV:=A (show ∀b,cB b (s.extract 0 n).data.toList (l+pW a0)=j3 b W P a0 from λb=>by unfold j3;rw[hD,T,<-C];simp);have m0: -2147483648<=l:=by omega
       have n2:l<=0:=by omega
       have l2:=G3.o;rw[C]at c2;have j6:=G2.o;have j7:=HB.o;clear hD T C m9 l5;rcases l6 with⟨L,j,m⟩|⟨L,j,m⟩|⟨L,j,h2,m⟩
       case' inl=>
        have a5:=a4 m
        go_wp2_with fail
       case' inr.inl=>
        have a5:=a4 m
        go_wp2_with fail
       case' inr.inr=>
        have m:=m.symm;subst m;have b3:¬((s[g].toNat:Nat):Int)=45:=by omega
        have b4:(((s[g].toNat:Nat):Int)==45)=S:=by simpa using b3
        have b5:¬((s[g].toNat:Nat):Int)=43:=by omega
        have b6:(((s[g].toNat:Nat):Int)==43)=S:=by simpa using b5
        go_wp2_with fail
       all_goals
        generalize s.extract 0 n=D at*;generalize w2=wc at*)
   all_goals
    go_loopw [8,4] (λe v wr=>∃i a:Nat,v=J I i/\e=J I a/\g<=i/\i<=s.size/\M (a=fH (x.X.take (i-g)))/\a<=351843720888329/\wc=wr) (λ_ v _=>s.size-(ao v).toNat)
    case atStart=>exact⟨g,0,rfl,rfl,Z _,n8,A (by simp[fH]),by decide,rfl⟩
    case round=>
     obtain⟨i,a,rfl,rfl,n0,o4,m2,ha,rfl⟩:=hrel;have C:=λW:E=>n4.o W i
     by_cases n9:i<s.size
     .obtain⟨b1,b2,b3,b4⟩:=n6.o i n0 n9;rw[b1]at C;have l2:=A C;have k1:(i:Int)<(s.size:Int):=by omega
      have k2:dm.wrap (((s[i].toNat:Nat):Int)-48)=((s[i].toNat-48:Nat):Int):=by rw[dp];omega
      have j9:fH (x.X.take (i+1-g))=dD a s[i]:=by rw[b4,aKi,<-m2.o]
      have n2:I.wrap ((i:Int)+1)=((i+1:Nat):Int):=by rw[V];omega
      unfold dD at j9
      by_cases k6:a<35184372088832
      .rw[if_pos k6]at j9;have o5:s[i].toNat-48<=9:=by omega
       generalize s[i].toNat-48=y at*;have k3:(a:Int)<35184372088832:=by omega
       have k4:I.wrap ((10:Int)*(a:Int))=((10*a:Nat):Int):=by rw[V];omega
       have k5:I.wrap (((10*a:Nat):Int)+(y:Int))=((10*a+y:Nat):Int):=by rw[V];omega
       have m0:=A j9.symm;have m1:=A (show 10*a+y<=351843720888329 by omega);clear j9 C b1 b2 b3 b4 k6 ha;go_wp2_with fail;refine(l2.o _).mono ?_;rintro r w5 ⟨rfl,rfl⟩;go_wp2_with fail;exact⟨⟨i+1,10*a+y,by go_num,by go_num,by omega,by omega,m0,m1.o,trivial⟩,by simp[ao];omega⟩
      .rw[if_neg k6]at j9;have k3:decide ((a:Int)<35184372088832)=S:=decide_eq_false (by omega);have m0:=A j9.symm;have m1:=A ha;clear j9 C b1 b2 b3 b4 k6 ha k2 n2;go_wp2_with fail;refine(l2.o _).mono ?_;rintro r w5 ⟨rfl,rfl⟩;go_wp2_with fail;exact⟨⟨i+1,a,by go_num,by go_num,by omega,by omega,m0,m1.o,trivial⟩,by simp[ao];omega⟩
     .obtain rfl:i=s.size:=by omega
      have j9:bR (s.data.toList.drop s.size)=S:=by rw[cY (s:=s) (i:=s.size) (by omega)];rfl
      rw[j9]at C;have l2:=A C;have k6:a=fH x.X:=by rw[m2.o,n7.o]
      have n2:=A k6;have k4:I.wrap (-(a:Int))= -(a:Int):=by rw[V];omega
      clear C j9 k6;go_wp2_with fail;refine(l2.o _).mono ?_;rintro r w5 ⟨rfl,rfl⟩
      first
       | (have j9 : x.a = [45] := L
          have he:=n1.o a n2.o;rw[if_pos j9]at he;have C:=HV.o;rw[he]at C;have k6:=A C;have k5:I.wrap (l+ -(a:Int))=l+ -(a:Int):=by rw[V];omega
          clear he C;go_wp2_with fail;have m0:=(aE (w:=w5) (o:=2) (b:=B) (k:=w.heap.size) (J I (l+ -(a:Int))) k0).trans j6;have m1:=j7.setCell (p:=⟨B,2,N⟩) l1 (J I (l+ -(a:Int)))
          with_reducible refine(l0.o _ D (l+ -(a:Int)) j5 (by omega) (by omega)).mono ?_
          rintro r w9 ⟨rfl,h⟩;have g2:=keep m0 h;have q:=chain m1 h;rw[k6.o,HA.o];obtain⟨y0,y1,y2,yf⟩:=cells3 g2;have gg:=aB (o:=2) (aB (o:=1) (aB (o:=0) g2 (O an)) (U ⟨ad.toArray⟩)) (J I ax);have r0:=aA (o:=0) gg;have r1:=aA (o:=1) gg;have r2:=aA (o:=2) gg;have j8:=A (((q.setCell (p:=⟨w.heap.size,0,N⟩) (Z _) (O an)).setCell (p:=⟨w.heap.size,1,N⟩) (Z _) (U ⟨ad.toArray⟩)).setCell (p:=⟨w.heap.size,2,N⟩) (Z _) (J I ax));clear gg h q;unfold fV;go_wp2_with fail;exact ae (v:=ah #[an,U ⟨ad.toArray⟩,ax]) (by simp[af,bm,go_sem,r0,r1,r2]) rfl ⟨rfl,j8.o⟩)
       | (have j9 : ¬ x.a = [45] := L
          have he:=n1.o a n2.o;rw[if_neg j9]at he;have C:=HV.o;rw[he]at C;have k6:=A C;have k5:I.wrap (l+(a:Int))=l+(a:Int):=by rw[V];omega
          clear he C;go_wp2_with fail;have m0:=(aE (w:=w5) (o:=2) (b:=B) (k:=w.heap.size) (J I (l+(a:Int))) k0).trans j6;have m1:=j7.setCell (p:=⟨B,2,N⟩) l1 (J I (l+(a:Int)))
          with_reducible refine(l0.o _ D (l+(a:Int)) j5 (by omega) (by omega)).mono ?_
          rintro r w9 ⟨rfl,h⟩;have g2:=keep m0 h;have q:=chain m1 h;rw[k6.o,HA.o];obtain⟨y0,y1,y2,yf⟩:=cells3 g2;have gg:=aB (o:=2) (aB (o:=1) (aB (o:=0) g2 (O an)) (U ⟨ad.toArray⟩)) (J I ax);have r0:=aA (o:=0) gg;have r1:=aA (o:=1) gg;have r2:=aA (o:=2) gg;have j8:=A (((q.setCell (p:=⟨w.heap.size,0,N⟩) (Z _) (O an)).setCell (p:=⟨w.heap.size,1,N⟩) (Z _) (U ⟨ad.toArray⟩)).setCell (p:=⟨w.heap.size,2,N⟩) (Z _) (J I ax));clear gg h q;unfold fV;go_wp2_with fail;exact ae (v:=ah #[an,U ⟨ad.toArray⟩,ax]) (by simp[af,bm,go_sem,r0,r1,r2]) rfl ⟨rfl,j8.o⟩)
