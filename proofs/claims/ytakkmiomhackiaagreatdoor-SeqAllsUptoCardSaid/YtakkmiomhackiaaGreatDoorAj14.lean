/-
  The program, one part of its walk. Conditions: none.
-/
import Derived.Test.YtakkmiomhackiaaGreatDoorAj07
import Derived.Test.YtakkmiomhackiaaGreatDoorAj11
import Derived.Test.YtakkmiomhackiaaGreatDoorAj12
import Derived.Test.YtakkmiomhackiaaGreatDoorAj13
set_option linter.all false
set_option maxRecDepth 100000
set_option maxHeartbeats 16000000
open Go.Proofs.Tryz
open Bool renaming false->h,true->az
open Go renaming Addr->bk,Calls->ag,Value->C,World->Z,cell_of_one->L,free_of_one->aw,lt_of_block->au,maxLen->dq,results->aj
open Go.Proofs.Tryz renaming func210->cr,ntmps210->ct,prog->ac,results111->em,results159->gn,results181->go,results210->cu
open Go.Proofs.YtakkmiomhackiaaGreatDoor.Row renaming A8->fu,nil->fw
open List renaming getD_eq_getElem?_getD->gd,replicate->fq
open Nat renaming le_mul_of_pos_right->fj
open Option renaming none->U,some->N
open Or renaming inl->af,inr->bm
namespace Go.Proofs.YtakkmiomhackiaaGreatDoor
open Go.RowKit
open BinOp renaming and->eo
open Ending renaming returned->ar
open IntKind renaming i64->S,u64->ah,u8->fh,wrap_u64->fk
open Lib renaming toList_data->fa
open Obj renaming cells->J
open Proofs renaming intOf->cg
open Fig renaming Small->gk,figs->d,figs_length_le->cw,figs_pos->ft,val->cz
open Keeps renaming A2->bs,A4->dm
open Lim renaming bitlen->co,bitlen_mono->ew,limbs->fe,lt_bitlen->et,short->fg
open Tr renaming object->dy
open RowKit renaming Below->Q
open Value renaming agg->ao,bool->ai,iface->bu,int->O,nilIface->bx,pointer->bh,slice->I,tuple->bw
variable {b e f n v:Nat}{w:Z}{keys:List Oo}
def aGe{a c:Nat}(f:a<=b*c):co a<=co b+co c:=by
 rw[Lim.bitlen_le,ld];refine lz f ?_;rcases Nat.eq_zero_or_pos c with e|e
 .subst e;rw[Nat.mul_zero];exact nc (kF _) (kF _)
 .exact a7 (Nat.mul_lt_mul_of_pos_right et e) (ns _ (iF et))
def aIB{x:Nat}(a:v<10^n)(f:n+x<=310):co (v*10^x)<=1242:=by
 obtain⟨K,c⟩:∃K:Nat,310=K:=⟨_,rfl⟩;rw[c]at f;have e:=iB K;refine bo (ew (b:=10^K) ?_) (bo e (by omega));refine bo (Nat.mul_le_mul_right _ (iF a)) ?_;rw[<-ld];exact ju (by decide) f
def aBh{x:Nat}(a:v<10^n)(g:n<=310+x):co v<=co (10^x)+1500:=by
 obtain⟨K,b⟩:∃K:Nat,310=K:=⟨_,rfl⟩;rw[b]at g
 have c:v<=10^x*10^K:=by
  refine bo (iF a) ?_;rw[<-ld];exact ju (by decide) (by omega)
 have e:=aGe c;have f:=iB K;omega
def zM(a:v<10^n)(f:n<=801):co v<=3210:=by
 obtain⟨K,c⟩:∃K:Nat,801=K:=⟨_,rfl⟩;rw[c]at f;have e:=iB K;refine bo (ew (b:=10^K) ?_) (bo e (by omega));exact bo (iF a) (ju (by decide) f)
def aD7{s:ByteArray}(a:s.data.toList= []):s.toList.isEmpty=az:=by rw[fa,a];rfl
def aGf{s:ByteArray}(b:s.data.toList≠ []):s.toList.isEmpty=h:=by
 rw[fa];cases a:s.data.toList with
 | nil=>exact absurd a b
 | cons x r=>rfl
def aIC(neg:Bool)(i:ByteArray)(e:Int)(w:Z)(g:rH i.data.toList)(hs:i.size<=1073741824)(he: -4611686018427387904<=e)(l1:e<=4611686018427387904)(f:i.size≠0->0<bO i.data.toList):
 ag ac 210 #[ao #[neg,i,e]] w λr w'=>r=ar (cutV (bQ ⟨neg,i.data.toList,e⟩))/\Q w w w':=by
 have B:i.data.toList.length=i.size:=jt;have l2:S.wrap ((i.size:Int)+e)=(i.size:Int)+e:=wr (by omega) (by omega);have HD:=A g;have k2:=A f;clear g f;obtain⟨g1,y,m⟩:=fU w (J #[neg,i,e] 339) (J #[O ah 0,O S 0,ai h] 359);have HB:=A m;have n:=A g1;have s:=A y;clear m g1 y;by_cases h0:i.data.toList= []
 .have k3:=aD7 h0;have V:bQ ⟨neg,i.data.toList,e⟩=⟨0,0,az⟩:=by unfold bQ;rw[pz h0]
  have HF:=A V;clear V h0;go_enter cr,ct;go_wp2_with fail;exact bb (v:=cutV ⟨0,0,az⟩) (by simp[aj,cu,go_sem,cutV]) rfl ⟨by rw[HF.o],(fU _ _ _).2.2⟩
 .have k3:=aGf h0;by_cases h1:310<(i.size:Int)+e
  .have V:bQ ⟨neg,i.data.toList,e⟩=⟨aM,1,h⟩:=(by unfold bQ;simp only[B];rw[py h0,pz h1]);have HF:=A V;clear V h0;go_enter cr,ct;go_wp2_with fail;exact bb (v:=cutV ⟨aM,1,h⟩) (by simp[aj,cu,go_sem,cutV,aM]) rfl ⟨by rw[HF.o],(fU _ _ _).2.2⟩
  .by_cases h2:(i.size:Int)+e< -330
   .have V:bQ ⟨neg,i.data.toList,e⟩=⟨0,-1,h⟩:=(by unfold bQ;simp only[B];rw[py h0,py h1,pz h2]);have HF:=A V;clear V h0;go_enter cr,ct;go_wp2_with fail;exact bb (v:=cutV ⟨0,-1,h⟩) (by simp[aj,cu,go_sem,cutV]) rfl ⟨by rw[HF.o],(fU _ _ _).2.2⟩
   .by_cases i2:800<i.size
    .have j3:(800:Int)<(i.size:Int):=(by omega);have j6:S.wrap ((i.size:Int)-801)=(i.size:Int)-801:=wr (by omega) (by omega);obtain⟨x,hx⟩:∃x:Nat,e+((i.size:Int)-801)= -(x:Int):=⟨(-(e+((i.size:Int)-801))).toNat,by omega⟩;have k0:S.wrap (-(x:Int))= -(x:Int):=wr (by omega) (by omega);have k4:0<x:=(by omega);have j4:x<=1131:=(by omega);have j8:¬x=0:=(by omega);have j9:¬(x:Int)<=0:=(by omega);obtain⟨P,j5⟩:∃P:ByteArray,i.extract 0 800++⟨#[49]⟩=P:=⟨_,rfl⟩;have f:P.data.toList=i.data.toList.take 800++ [49]:=by rw[<-j5];simp
     have k6:P.size=801:=by
      have:P.data.toList.length=P.size:=jt;rw[f,cn,el,B]at this;simp at this;omega
     have h9:bG i.data.toList=P.data.toList:=(by unfold bG;rw[B,pz i2,f]);have i0:eD i.data.toList e= -(x:Int):=by unfold eD;rw[B,pz i2];omega
     have g:rH P.data.toList:=by
      intro c hc;rw[f]at hc;rcases mj.1 hc with j|j
      .exact HD.o c (nz j)
      .simp at j;subst j;decide
     have i8:=A g
     have hv:bO P.data.toList<10^P.size:=by
      have:=kH (l:=P.data.toList) (λx hx=>(g x hx).2);rwa[jt]at this
     have i9:0<bO P.data.toList:=by rw[f,tP];exact a7 (by decide:0<(49:UInt8).toNat-48) (Nat.le_add_left _ _)
     have V:bQ ⟨neg,i.data.toList,e⟩=bH (bO P.data.toList) (10^x):=by
      unfold bQ;simp only[B];rw[py h0,py h1,py h2,h9,i0,py,show(- -(x:Int)).toNat=x by omega]
     have HF:=A V;have hB:=A (aBh (x:=x) hv (by omega));have i3:=A (zM hv (by omega));obtain⟨g1,y,m⟩:=fU w (J #[neg,i,O S (-(x:Int))] 339) (J #[O ah 0,O S 0,ai h] 359);have HB:=A m;have n:=A g1;have s:=A y;have k7:x<=1300:=(by omega);clear V h0 h9 i0 g f g1 y m;go_enter cr,ct;go_wp2_with fail;refine(uT P _ i8.o (by omega) (by omega)).mono ?_;rintro r w1 ⟨a,k,c,rfl,R,m⟩;have g1:=keep n.o m;have y:=keep s.o m;have f:=chain HB.o m;have j0:=au y;have b1:Q w1 w1 (w1.alloc (J #[I a k c] 381)):=(dk _ _).alloc (hU _) _;have g1:=keep g1 b1;have y:=keep y b1;have f:=chain f b1;have T:=aL w1 (J #[I a k c] 381);have R:=R.A7 b1;have n:=A g1;have s:=A y;have j:=A T;have q:=A f;have HW:=A R;clear g1 y T f R m b1;go_wp2_with fail;refine(aBq 1 _ (by decide)).mono ?_;rintro r w2 ⟨a1,k1,c1,rfl,D,m⟩;have j1:=au (keep j.o m);have b2:Q w2 w2 (w2.alloc (J #[I a1 k1 c1] 381)):=(dk _ _).alloc (hU _) _;have t:=A (aL w2 (J #[I a1 k1 c1] 381));have n:=A (keep (keep n.o m) b2);have s:=A (keep (keep s.o m) b2);have j:=A (keep (keep j.o m) b2);have q:=A (chain (chain q.o m) b2);have HW:=A ((HW.o.A7 m).A7 b2);have i1:=A (D.A7 b2);clear m b2 D;obtain⟨c0,i4,c2,cf⟩:=cells3 n.o;have d5:=L j.o;have f5:=aw j.o;have d7:=L t.o;have f7:=aw t.o;have j2:=au t.o;have k5:S.wrap (x:Int)=(x:Int):=wr (by omega) (by omega);have i5:w.heap.size+1<w2.heap.size:=(by omega);go_wp2_with fail;generalize w2.alloc (J #[I a1 k1 c1] 381)=w3 at*;refine(aBs x _ (by omega)).mono ?_;rintro r wx ⟨F,G,H,rfl,W,g⟩;have y:=keep s.o g;have T:=keep j.o g;have Y:=keep t.o g;have f:=chain q.o g;have R:=HW.o.A7 g;have HM:=A (R.E0 Y (by decide) 0 (I F G H));have HX:=A (W.E0 Y (by decide) 0 (I F G H));have q:=A (f.setCell (p:=w2) (by simp;omega) (I F G H));have G2:=A ((aE (w:=wx) (o:=0) (k:=w.heap.size+1) (b:=w2.heap.size) (I F G H) (by omega)).trans y);have e5:=L ((aE (w:=wx) (o:=0) (k:=w1.heap.size) (b:=w2.heap.size) (I F G H) (by omega)).trans T);have e7:=L (aB (o:=0) Y (I F G H));have i7:=L Y;have j7:=aw Y;clear y T Y f R W g d5 f5 d7 f7 c0 i4 c2 cf n s j t HW i1;go_wp2_with fail;refine(uU a F k G c H (bO P.data.toList) (10^x) _ HM.o HX.o (pm i9) (pm (mF (by decide))) (bo i3.o (by decide)) (bo (iB x) (by omega)) hB.o).mono ?_;rintro r wz ⟨rfl,K⟩;have f:=chain q.o K;obtain⟨q0,q1,q2,qf⟩:=cells3 (keep G2.o K);have i6:=A f;clear f K q G2;rw[<-HF.o];obtain⟨⟨cb,ch,ce⟩,u⟩:∃z,bQ ⟨neg,i.data.toList,e⟩=z:=⟨_,rfl⟩;rw[u];have X:=A u;clear u HF;unfold cutV;go_wp2_with fail;exact bb (v:=cutV ⟨cb,ch,ce⟩) (by simp[aj,cu,go_sem,cutV,q0,q1,q2]) rfl ⟨by rw[X.o],((i6.o.setCell (lh _) _).setCell (lh _) _).setCell (lh _) _⟩
    .have l3:0<i.size:=by
      cases hc:i.data.toList with
      | nil=>exact absurd hc h0
      | cons x r=>rw[hc]at B;simp at B;omega
     have j3:¬(800:Int)<(i.size:Int):=(by omega);have h9:bG i.data.toList=i.data.toList:=(by unfold bG;rw[B,py i2]);have i0:eD i.data.toList e=e:=(by unfold eD;rw[B,py i2]);have hv:bO i.data.toList<10^i.size:=(by have:=kH (l:=i.data.toList) (λx hx=>(HD.o x hx).2);rwa[B]at this);have i9:=k2.o (by omega);have i8:=HD;by_cases j5:0<=e
     .obtain⟨x,rfl⟩:=Int.eq_ofNat_of_zero_le j5;have V:bQ ⟨neg,i.data.toList,(x:Int)⟩=bH (bO i.data.toList*10^x) 1:=(by unfold bQ;simp only[B];rw[py h0,py h1,py h2,h9,i0,pz j5,Int.toNat_natCast]);have HF:=A V;have hB:=A (aIB (x:=x) hv (by omega));have i3:=A (zM hv (by omega));clear V h0 h9 i0;go_enter cr,ct;go_wp2_with fail;refine(uT i _ i8.o (by omega) (by omega)).mono ?_;rintro r w1 ⟨a,k,c,rfl,R,m⟩;have g1:=keep n.o m;have y:=keep s.o m;have f:=chain HB.o m;have j0:=au y;have b1:Q w1 w1 (w1.alloc (J #[I a k c] 381)):=(dk _ _).alloc (hU _) _;have g1:=keep g1 b1;have y:=keep y b1;have f:=chain f b1;have T:=aL w1 (J #[I a k c] 381);have R:=R.A7 b1;have n:=A g1;have s:=A y;have j:=A T;have q:=A f;have HW:=A R;clear g1 y T f R m b1;go_wp2_with fail;refine(aBq 1 _ (by decide)).mono ?_;rintro r w2 ⟨a1,k1,c1,rfl,D,m⟩;have j1:=au (keep j.o m);have b2:Q w2 w2 (w2.alloc (J #[I a1 k1 c1] 381)):=(dk _ _).alloc (hU _) _;have t:=A (aL w2 (J #[I a1 k1 c1] 381));have n:=A (keep (keep n.o m) b2);have s:=A (keep (keep s.o m) b2);have j:=A (keep (keep j.o m) b2);have q:=A (chain (chain q.o m) b2);have HW:=A ((HW.o.A7 m).A7 b2);have i1:=A (D.A7 b2);clear m b2 D;obtain⟨c0,i4,c2,cf⟩:=cells3 n.o;have d5:=L j.o;have f5:=aw j.o;have d7:=L t.o;have f7:=aw t.o;have j2:=au t.o;have i5:w.heap.size<w1.heap.size:=(by omega);go_wp2_with fail;generalize w2.alloc (J #[I a1 k1 c1] 381)=w3 at*;clear c0 i4 d7 f7;have P:(fe (bO i.data.toList)).length<=1048576:=bo (fg (k:=128) (bo i3.o (by decide))) (by decide);have j6:(fe (10^x)).length<=1048576:=bo (fg (k:=128) (bo (iB x) (by omega))) (by decide);have k6:=A P;have k7:=A j6;clear P j6
      go_region_with
       (first|(go_at_call 233;(with_reducible refine(aBs x _ (by omega)).mono ?_);rintro r wx ⟨ax,kx,cx,rfl,W,g⟩;have j4:=(g.cell (p:=w1) (by simp;omega)).trans d5;have k0:=(g.cell (p:=⟨w.heap.size,2,U⟩) (by simp;omega)).trans c2)|(go_at_call 232;(with_reducible refine(aKZ a ax k kx c cx (bO i.data.toList) (10^x) _ ((HW.o.B0).A7 g) W k6.o k7.o).mono ?_);rintro r wy ⟨F,G,H,rfl,j6,P⟩;have k8:=(P.cell (p:=w1) (by have:=g.size;simp at this;simp;omega)).trans j4;have k9:=(P.cell (p:=⟨w.heap.size,2,U⟩) (by have:=g.size;simp at this;simp;omega)).trans k0;have l0:=(P.frozen (p:=w1) (by have:=g.size;simp at this;simp;omega)).trans ((g.frozen (p:=w1) (by simp;omega)).trans f5)))
      all_goals
       have g1:=keep (keep (w1:=w3.drew) n.o g) P;have y:=keep (keep (w1:=w3.drew) s.o g) P;have T:=keep (keep (w1:=w3.drew) j.o g) P;have Y:=keep (keep (w1:=w3.drew) t.o g) P;have f:=chain (chain q.o.drew g) P;have D:=((i1.o.B0).A7 g).A7 P;rw[wR (bo hB.o (by decide))]at j6;have HM:=A (j6.E0 T (by decide) 0 (I F G H));have i1:=A (D.E0 T (by decide) 0 (I F G H));have q:=A (f.setCell (p:=w1) (iF i5) (I F G H));have G2:=A ((aE (w:=wy) (o:=0) (k:=w.heap.size+1) (b:=w1.heap.size) (I F G H) (by omega)).trans y);have e5:=L (aB (o:=0) T (I F G H));have e7:=L ((aE (w:=wy) (o:=0) (k:=w2.heap.size) (b:=w1.heap.size) (I F G H) (by omega)).trans Y);clear g1 y T Y f D j6 j4 k0 k8 k9 l0 g P W d5 f5 c2 cf n s j t HW;go_wp2_with fail;refine(uU F a1 G k1 H c1 (bO i.data.toList*10^x) 1 _ HM.o i1.o (pm (nc i9 (mF (by decide)))) (by decide) (bo hB.o (by decide)) (by decide) (bo hB.o (by decide))).mono ?_;rintro r wz ⟨rfl,K⟩;have f:=chain q.o K;obtain⟨q0,q1,q2,qf⟩:=cells3 (keep G2.o K);have i6:=A f;clear f K q G2;rw[<-HF.o];obtain⟨⟨cb,ch,ce⟩,u⟩:∃z,bQ ⟨neg,i.data.toList,(x:Int)⟩=z:=⟨_,rfl⟩;rw[u];have X:=A u;clear u HF;unfold cutV;go_wp2_with fail;exact bb (v:=cutV ⟨cb,ch,ce⟩) (by simp[aj,cu,go_sem,cutV,q0,q1,q2]) rfl ⟨by rw[X.o],((i6.o.setCell (lh _) _).setCell (lh _) _).setCell (lh _) _⟩
     .obtain⟨x,hx⟩:∃x:Nat,e= -(x:Int):=⟨(-e).toNat,by omega⟩;subst hx;have k4:0<x:=(by omega);have j8:¬x=0:=(by omega);have j9:¬(x:Int)<=0:=by omega
      have V:bQ ⟨neg,i.data.toList,-(x:Int)⟩=bH (bO i.data.toList) (10^x):=by
       unfold bQ;simp only[B];rw[py h0,py h1,py h2,h9,i0,py j5,show(- -(x:Int)).toNat=x by omega]
      have HF:=A V;have hB:=A (aBh (x:=x) hv (by omega));have i3:=A (zM hv (by omega));clear V h0 h9 i0;go_enter cr,ct;go_wp2_with fail;refine(uT i _ i8.o (by omega) (by omega)).mono ?_;rintro r w1 ⟨a,k,c,rfl,R,m⟩;have g1:=keep n.o m;have y:=keep s.o m;have f:=chain HB.o m;have j0:=au y;have b1:Q w1 w1 (w1.alloc (J #[I a k c] 381)):=(dk _ _).alloc (hU _) _;have g1:=keep g1 b1;have y:=keep y b1;have f:=chain f b1;have T:=aL w1 (J #[I a k c] 381);have R:=R.A7 b1;have n:=A g1;have s:=A y;have j:=A T;have q:=A f;have HW:=A R;clear g1 y T f R m b1;go_wp2_with fail;refine(aBq 1 _ (by decide)).mono ?_;rintro r w2 ⟨a1,k1,c1,rfl,D,m⟩;have j1:=au (keep j.o m);have b2:Q w2 w2 (w2.alloc (J #[I a1 k1 c1] 381)):=(dk _ _).alloc (hU _) _;have t:=A (aL w2 (J #[I a1 k1 c1] 381));have n:=A (keep (keep n.o m) b2);have s:=A (keep (keep s.o m) b2);have j:=A (keep (keep j.o m) b2);have q:=A (chain (chain q.o m) b2);have HW:=A ((HW.o.A7 m).A7 b2);have i1:=A (D.A7 b2);clear m b2 D;obtain⟨c0,i4,c2,cf⟩:=cells3 n.o;have d5:=L j.o;have f5:=aw j.o;have d7:=L t.o;have f7:=aw t.o;have j2:=au t.o;have k5:S.wrap (x:Int)=(x:Int):=wr (by omega) (by omega);have i5:w.heap.size+1<w2.heap.size:=(by omega);go_wp2_with fail;generalize w2.alloc (J #[I a1 k1 c1] 381)=w3 at*;refine(aBs x _ (by omega)).mono ?_;rintro r wx ⟨F,G,H,rfl,W,g⟩;have y:=keep s.o g;have T:=keep j.o g;have Y:=keep t.o g;have f:=chain q.o g;have R:=HW.o.A7 g;have HM:=A (R.E0 Y (by decide) 0 (I F G H));have HX:=A (W.E0 Y (by decide) 0 (I F G H));have q:=A (f.setCell (p:=w2) (by simp;omega) (I F G H));have G2:=A ((aE (w:=wx) (o:=0) (k:=w.heap.size+1) (b:=w2.heap.size) (I F G H) (by omega)).trans y);have e5:=L ((aE (w:=wx) (o:=0) (k:=w1.heap.size) (b:=w2.heap.size) (I F G H) (by omega)).trans T);have e7:=L (aB (o:=0) Y (I F G H));have i7:=L Y;have j7:=aw Y;clear y T Y f R W g d5 f5 d7 f7 c0 i4 c2 cf n s j t HW i1;go_wp2_with fail;refine(uU a F k G c H (bO i.data.toList) (10^x) _ HM.o HX.o (pm i9) (pm (mF (by decide))) (bo i3.o (by decide)) (bo (iB x) (by omega)) hB.o).mono ?_;rintro r wz ⟨rfl,K⟩;have f:=chain q.o K;obtain⟨q0,q1,q2,qf⟩:=cells3 (keep G2.o K);have i6:=A f;clear f K q G2;rw[<-HF.o];obtain⟨⟨cb,ch,ce⟩,u⟩:∃z,bQ ⟨neg,i.data.toList,-(x:Int)⟩=z:=⟨_,rfl⟩;rw[u];have X:=A u;clear u HF;unfold cutV;go_wp2_with fail;exact bb (v:=cutV ⟨cb,ch,ce⟩) (by simp[aj,cu,go_sem,cutV,q0,q1,q2]) rfl ⟨by rw[X.o],((i6.o.setCell (lh _) _).setCell (lh _) _).setCell (lh _) _⟩
def oZ{pl:Nat}{held:Oo}{c:Array C}{T:TypeId}(k:Feeds w f pl held)(a:w.heap[b]?=N (J c T (0,0)))(i:T≠305):f≠b:=by
 obtain⟨_,j,a1,a2,a3,g,_⟩:=k;intro e;subst e;rw[g]at a;simp at a;exact i a.2.symm
def uP{j:Type}{enc:j->C}{pl:Nat}{held:Oo}{v:C}{l:List j}(i:Feeds w f pl held)(a:Win e enc w v l)(c:e≠305):v.ownBlock≠N f:=by
 obtain⟨_,g,a1,a2,a3,b,_⟩:=i;exact a.ne b (λe=>c e.symm)
def tK{p q:Type}{enc:p->C}{a:q->C}{v b:C}{l:List p}{o:List q}(r:Win e enc w v l)(j:Win f a w b o)(m:e≠f){k:Nat}(c:v.ownBlock=N k):b.ownBlock≠N k:=by
 rcases r with⟨rfl,_⟩|⟨g,off,cap,n,rfl,i,_⟩
 .cases c
 .cases c;exact j.ne i m
def step_within(F:Nat->Prop)(w:Z)(b:Nat)(x:Lx)(toks:List Tok)(c:UInt8)(a0:cG F w b x h toks)(B:x.h=.within)(g3:x.b<=x.a)(P:x.f.length<=1073741824)(g4:x.a<=16777216)(g1:toks.length<=1000):
 ag ac 138 #[bh b,O fh c.toNat] w λe w'=>eV F w b x.a toks (bY x c) e w':=by
 have h0:=a0;obtain⟨K,n,R,g5,o,m,s,p,T⟩:=a0;obtain⟨j,f,D,rfl,i,t,g2⟩:=T.text (by rw[B];rfl);have V:(toks.map bU).length<=1000:=by simpa using g1
 have W:f≠b:=oZ i s (by decide);unfold bY;by_cases h1:x.held= []/\c=34
 .rw[pz h1];obtain⟨l,rfl⟩:=h1;rw[l]at i;refine(aFF w b f D x.a x.b _ _ _ _ _ _ _ _ _ o m x.f _ s i j.1 p.1 V (by omega) (by omega)).mono λe w' q=>?_;obtain⟨r,a,v⟩:=aB6 (y:=x.F4) (tok:=.str x.b (x.a+1-x.b) x.f) K n p rfl rfl (λu=>rfl) q;exact .I0 r a v
 rw[py h1];by_cases h2:x.held= []/\c=92
 .rw[pz h2];obtain⟨l,rfl⟩:=h2;have z:=i;rw[l]at z;refine(aAy w b f D _ _ _ _ _ _ _ _ _ _ _ _ _ s z).mono ?_;rintro e w' ⟨rfl,v,a⟩;have q:Keeps F w w':=a.mono (λk e=>e▸K);have r:=i.A0 a W;refine .I0 rfl q ⟨af K,aF n a.size,_,_,_,m,v,by rw[jz];exact p.A0 (G:=λk=>k=b) a (λk e a=>p.1.ne s (by decide) (e.trans (congrArg N a))),⟨λT=>?_,λ_=>⟨j.A0 (G:=λk=>k=b) a (λk e a=>j.1.ne s (by decide) (e.trans (congrArg N a))),f,D,rfl,r,af t,g2⟩⟩⟩;simp at T
 rw[py h2];by_cases X:x.held= []/\c.toNat<32
 .rw[pz X];rw[X.1]at i;refine(zE w b f D _ _ _ _ _ _ _ _ _ _ _ _ _ c s i X.2).mono ?_;rintro e w' ⟨rfl,rfl⟩;exact .N7 (by decide) rfl (dm _ _) (by rw[jz];exact h0.H8.mono (λk a=>af a) (aF n (hU _)))
 rw[py X]
 have Y:pS x.held c:=by
  unfold pS;by_cases l:x.held= []
  .exact bm ⟨λe=>h1 ⟨l,e⟩,λe=>h2 ⟨l,e⟩,Nat.le_of_not_lt (λe=>X ⟨l,e⟩)⟩
  .exact af l
 cases g0:aO x.held c with
 | none=>
  refine(aFG w b f D _ _ _ _ _ _ _ _ _ _ _ _ _ c _ s i (by omega) Y g0).mono ?_;rintro e w' ⟨rfl,a⟩;have q:Keeps F w w':=a.mono (λk e=>e▸t);exact .N7 (by decide) rfl q ⟨af K,aF n a.size,_,_,_,_,_,_,_,_,_,_,m,a.B4 s (λe=>W e.symm),by rw[jz];exact p.A0 (G:=λk=>k=f) a (λk e a=>uP i p.1 (by decide) (e.trans (congrArg N a)))⟩
 | some h'=>
  refine(aDL w b f D _ _ _ _ _ _ _ _ _ _ _ _ o c _ h' x.f s i j.1 P (by omega) Y g0).mono ?_;rintro e w' ⟨rfl,g,off,cap,v,z,hg,r,a⟩
  have q:Keeps F w w':=a.mono (λk e=>by
   rcases e with rfl|rfl|e
   .exact K
   .exact t
   .exact j.2 k e)
  refine .I0 rfl q ⟨af K,aF n a.size,R,_,_,m,by rw[B]at v⊢;simpa using v,?_,⟨λT=>?_,λ_=>⟨?_,f,D+1,rfl,r,af t,?_⟩⟩⟩
  .rw[jz];refine⟨p.1.A0 a ?_,λk l=>af (p.2 k l)⟩;intro k l H;rcases H with rfl|rfl|H
   .exact p.1.ne s (by decide) l
   .exact uP i p.1 (by decide) l
   .exact tK j.1 p.1 (by decide) H l
  .simp[B]at T
  .refine⟨by simpa using z,?_⟩;intro k l;cases l;exact hg.elim (λe=>af (j.2 _ e)) (λH=>bm ⟨H,z.lt rfl⟩)
  .simp;omega
def aGK{k:Nat}(b:k<=4096):(d (2^k)).length<=1048576:=by
 have a:2^k<10000^400:=lz (ju (by decide) b) (by decide+kernel);have:=cw a;omega
def uB{m:Nat}(a:n<=m):(d n).length<=(d m).length:=cw (lz a (Fig.lt_of_figs_length (hU _)))
def aLf(X:Nat)(w:Z)(hK:X<=4096):ag ac 186 #[X] w λe w'=>qR w (2^X) e w':=by
 have f:=aGK hK;obtain⟨T,g⟩:∃T,2^X=T:=⟨_,rfl⟩;rw[g]at f;have HT:=A g;have HL:=A f;rw[g];clear g f;have f:∀W:Z,ag ac 183 #[O ah 8192] W λe w'=>qR W 8192 e w':=λW=>sM 8192 W (by decide);have g3:=A f;clear f;go_enter func186,ntmps186;go_wp2_with fail;refine(sM 1 _ (by decide)).mono ?_;rintro e w1 ⟨a,k,c,rfl,l,m⟩;obtain⟨g,g5,h0⟩:=after1 m;have n:(w1.alloc (J #[I a k c] 324)).heap[w.heap.size]?=N (J #[()] 324 (0,0)):=(de w1 _ _ (by omega)).trans g;have q:(w1.alloc (J #[I a k c] 324)).heap[w1.heap.size]?=N (J #[I a k c] 324 (0,0)):=aL w1 _;have f:=g5.alloc (by omega) (J #[I a k c] 324);have i:=l.A5 (J #[I a k c] 324);have Y:w.heap.size≠w1.heap.size:=by omega
 have s:=A n;have j:=A q;have t:=A i;clear l m g n q i;go_wp2_with fail;obtain⟨B,hB⟩:∃B,w1.heap.size=B:=⟨_,rfl⟩;rw[hB]at j Y⊢
 go_loopw [0] (λv wr=>∃(K i:Nat)(a:Option bk)(k c:Nat),v=O S K/\K<=4096/\M (i*2^K=T)/\wr.heap[B]?=N (J #[I a k c] 324 (0,0))/\wr.heap[w.heap.size]?=N (J #[()] 324 (0,0))/\
  Fgs wr (I a k c) (d i)/\Q w w wr) (λv _=>(cg v).toNat)
 case atStart=>exact⟨X,1,a,k,c,rfl,hK,A (by rw[Nat.one_mul];exact HT.o),j.o,s.o,t.o,f⟩
 case round=>
  clear s j t f;obtain⟨K,i,a,k,c,rfl,h1,HA,f,g,s,t⟩:=hrel;have u:=L f;have x:B<wr.heap.size:=au f;have y:(d i).length<=1048576:=bo (uB (by rw[<-HA.o];exact fj _ (kF _))) HL.o;have D:=A f;have g1:=A g;clear f g;by_cases h2:13<=K
  .have q1:(13:Int)<=(K:Int):=(by omega);have e1:S.wrap ((K:Int)-13)=((K-13:Nat):Int):=(by rw[b9];omega);go_wp2
   go_region_with
    (first|(go_at_call 183;(with_reducible refine(g3.o _).mono ?_);rintro r wx ⟨ax,kx,cx,rfl,l,f⟩;have F:=(f.cell (p:=⟨B,0,U⟩) (by simpa using x)).trans u)|(go_at_call 185;(with_reducible refine(j4 a ax k kx c cx i 8192 _ ((s.B0).A7 f) l y (bo (cw (k:=1) (by decide)) (by decide))).mono ?_);rintro r wy ⟨m,n,q,rfl,j,g⟩;have G:=aw (keep (keep (w1:=wr.drew) D.o f) g);have H:=L (keep (keep (w1:=wr.drew) D.o f) g)))
   all_goals
    have y6:=keep (keep (w1:=wr.drew) D.o f) g;have z:=keep (keep (w1:=wr.drew) g1.o f) g;have R:=(chain (chain t.drew f) g).setCell (p:=⟨B,0,U⟩) (by simp;omega) (I m n q);have V:=A (j.E0 y6 (by decide) 0 (I m n q));have Y6:=A (aB (o:=0) y6 (I m n q));have Y4:=A ((aE (w:=wy) (o:=0) (k:=w.heap.size) (b:=B) (I m n q) Y).trans z);have g2:=A (show i*8192*2^(K-13)=T by rw[<-HA.o,kh,show 8192=2^13 from rfl,<-ld,show 13+(K-13)=K by omega]);clear y6 z f g l j F H G t s u;go_wp2_with fail;exact⟨⟨K-13,i*8192,m,n,q,by go_num,by omega,g2,Y6.o,Y4.o,V.o,R⟩,by simp[cg];omega⟩
  .have q1:¬(13:Int)<=(K:Int):=(by omega);obtain⟨P,hP⟩:∃P,2^K=P:=⟨_,rfl⟩;have h3:P<8192:=(by rw[<-hP];exact lz (ju (by decide) (show K<=12 by omega)) (by decide));have g2:(2:Int)^K=(P:Int):=(by rw[<-hP];exact(Int.natCast_pow 2 K).symm);have h5:ah.wrap ((2:Int)^K)=(P:Int):=(by rw[g2,fk];omega);have g7:=A (λW:Z=>sM P W (by omega));have g8:=A (show i*P=T by rw[<-hP];exact HA.o);have g9:(d P).length<=1048576:=bo (cw (k:=1) (by omega)) (by decide);clear hP g2;go_wp2
   go_region_with
    (first|(go_at_call 183;(with_reducible refine(g7.o _).mono ?_);rintro r wx ⟨ax,kx,cx,rfl,l,f⟩;have F:=(f.cell (p:=⟨B,0,U⟩) (by simpa using x)).trans u)|(go_at_call 185;(with_reducible refine(j4 a ax k kx c cx i P _ ((s.B0).A7 f) l y g9).mono ?_);rintro r wy ⟨m,n,q,rfl,j,g⟩;have z:=keep (keep (w1:=wr.drew) g1.o f) g;have G:=aw z;have H:=L z))
   all_goals
    rw[g8.o]at j;have R:=(chain (chain t.drew f) g).setCell (p:=w) (hU _) (I m n q);have V:=A (j.E0 z (by decide) 0 (I m n q));have z4:=L (aB (o:=0) z (I m n q));clear f g l j F H G t s u z;go_wp2;exact bb (v:=ao #[I m n q]) (by simp[aj,results186,go_sem,z4]) rfl ⟨m,n,q,rfl,V.o,R⟩
def jH{X:Type}{B t bytes:Nat}{enc:X->C}{v:C}{l:List X}{F:Array Oper}{k:List Oper}{o:Oper}{a:Act}{a0:Exit->Act->Z->Prop}(a1:Elem t e bytes)(H:o.guard=U)(s x:Operand)
 (Y:o.op=.call {callee:=.builtin .append,args:= #[s,x],argTypes:= #[t,t]})(hs:a.eval s=v)(G:Row B e enc w v l)(K:bk)(m c:Nat)(f:List X)(hx:a.eval x=I (N K) m c)(n:f.length=m)(g0:1<=m)
 (p:∀j y,f[j]?=N y->w.cell? (K.add j)=N (enc y))(h1:∀y,(enc y).oneCell'=az)(hb:(l.length+m)*bytes<=140737488355328)(hm:l.length+m<=dq)(q:B<=w.heap.size)
 (a2:∀b cap w',Row B e enc w' (I (N ⟨b,0,U⟩) (l.length+m) cap) (l++f)->w.grownBy w' v.ownBlock->wpList ac F a0 k (a.put o.dst (I (N ⟨b,0,U⟩) (l.length+m) cap)) w'):
 wpList ac F a0 (o::k) a w:=by
 obtain⟨ht,i,z,hi,hz,P,R,T⟩:=a1;refine wpList_append_own w H s x t Y B e i z 1 bytes ht hi hz P R T (by decide) v l.length (l.map enc) hs G K m c (f.map enc) hx (by simp[n]) ?_ ?_ hm hb q ?_
 .intro j u r;rw[ed]at r;cases D:f[j]? with
  | none=>rw[D]at r;cases r
  | some y=>rw[D]at r;simp at r;subst r;exact p j y D
 .intro u r;obtain⟨y,_,rfl⟩:=List.mem_map.1 r;exact h1 y
 .intro v' w' r hg W;rcases r.2 with⟨_,hn⟩|⟨g,cap,V,rfl,D⟩
  .omega
  .refine a2 g cap w' ?_ hg;unfold Row;rw[cn,List.map_append,n];exact⟨by simp[n],bm ⟨g,cap,V,rfl,by simpa using D⟩⟩
def aGL{X:Nat}(e:X≠0):∀c:Nat,d (X*10000^c)=fq c 0++d X
 | 0=>by simp
 | c+1=>by
  have b:0<10000^c:=mF (by decide);have a:X*10000^(c+1)≠0:=Nat.mul_ne_zero e (by rw[jx];omega);rw[ft a,jx,<-kh,Nat.mul_mod_left,Nat.mul_div_cancel _ (by decide),aGL e c];rfl
def xW(a:Option bk)(k c X n:Nat)(w:Z)(B:Fgs w (I a k c) (d X))(u:X≠0)(hn:n<=8192)(l:(d (X*10^n)).length<=1048576):
 ag ac 184 #[ao #[I a k c],n] w λe w'=>qR w (X*10^n) e w':=by
 obtain⟨va,vc,H⟩:=fu B;injection H with h1 z x;subst h1 z x;obtain⟨K,R,s,hR⟩:∃K R,n=4*K+R/\R<4:=⟨n/4,n%4,by omega,by omega⟩;have t:X*10^n=X*10000^K*10^R:=by rw[s,ld,na,kh]
 have i0:(d X).length<=1048576:=bo (uB (fj _ (mF (by decide)))) l;have q:=aGL u K;have P:(d X).length≠0:=by rw[ft u];simp
 rw[t]at l⊢;generalize X*10000^K=Y at*
 obtain⟨g,cap,H,hg,_,_,m⟩:∃g cap,I a (d X).length c=I (N ⟨g,0,U⟩) (d X).length cap/\g<w.heap.size/\(d X).length<=cap/\cap<=dq/\∀i,i<(d X).length->w.cell? ⟨g,i,U⟩=N (O S ((d X).getD i 0:Nat)):=by
  rcases B.E3 with⟨_,H⟩|D
  .rw[H]at P;exact absurd rfl P
  .exact D
 injection H with h1 z x;subst h1;clear z x t B;generalize d X=G at*;have B:=A m;have g9:=A q;have T:=A l;clear m q l u;have e1:(n:Int)/4=(K:Int):=by omega
 have e2:(n:Int)%4=(R:Int):=by omega
 clear s;have V:Q (w.heap.size+2) ((w.alloc (J #[I (N ⟨g,0,U⟩) G.length c] 324)).alloc (J #[()] 324)) ((w.alloc (J #[I (N ⟨g,0,U⟩) G.length c] 324)).alloc (J #[()] 324)):=dk _ _;have l:∀W:Z,ag ac 183 #[O ah 10] W λe w'=>qR W 10 e w':=λW=>sM 10 W (by decide);have h0:=A l;clear l;go_enter func184,ntmps184;go_wp2_with fail;obtain⟨w1,l⟩:∃w1,((w.alloc (J #[I (N ⟨g,0,U⟩) G.length c] 324)).alloc (J #[()] 324))=w1:=⟨_,rfl⟩;have g3:w1.heap.size=w.heap.size+2:=by rw[<-l];simp
 have g5:Q w w w1:=by rw[<-l];exact((dk _ _).alloc (hU _) _).alloc (by simp) _
 have D:w1.heap[w.heap.size]?=N (J #[I (N ⟨g,0,U⟩) G.length c] 324 (0,0)):=by rw[<-l];exact(de _ _ _ (by simp)).trans (aL w _)
 have g4:w1.heap[w.heap.size+1]?=N (J #[()] 324 (0,0)):=by rw[<-l];simpa using aL (w.alloc (J #[I (N ⟨g,0,U⟩) G.length c] 324)) (J #[()] 324)
 rw[l]at V⊢;have G2:=A D;have G4:=A g4;clear l D g4;go_loopw [6,5] (λi f wr=>∃j:Nat,i=O S j/\j<=K/\Row (w.heap.size+2) 3 encI wr f (fq j 0)/\Q (w.heap.size+2) w1 wr) (λi _ _=>K-(cg i).toNat)
 case atStart=>exact⟨0,rfl,dr _,fw _ _ _ _,V⟩
 case round=>
  obtain⟨j,rfl,hj,s,t⟩:=hrel;have g6:w.heap.size+2<=wr.heap.size:=by rw[<-g3];exact t.size
  by_cases F:j<K
  .have q1:(j:Int)<(K:Int):=(by omega);go_wp2_with (at_builtin;refine cV aCZ rfl _ _ rfl rfl (s.A5 _) ⟨wr.heap.size,0,U⟩ 1 0 rfl ?_ rfl ?_ ?_ ?_ ?_)
   .simp
   .simp;omega
   .simp;unfold dq;omega
   .simp;omega
   intro b cap w3 l m;rw[<-List.replicate_succ']at l;have u:=(t.alloc g6 (J #[O S 0] 3)).grown m (by simp;omega) (λk hk=>(s.lt k hk).1);have q:=A l;clear l m s;go_wp2;go_roundw
   case rel=>exact⟨j+1,by go_num,by omega,q.o,u⟩
   case measure=>simp[cg];omega
  .obtain rfl:j=K:=(by omega);have q1:¬(j:Int)<(j:Int):=(by omega);have x:=L ((t.block _ (by omega)).trans G2.o)
   have g7:∀(i:Nat)(y:Nat),G[i]?=N y->wr.cell? ((⟨g,0,U⟩:bk).add i)=N (encI y):=by
    intro i y q;have F:=(List.getElem?_eq_some_iff.1 q).1;rw[Addr.add_lit,Nat.zero_add];refine(t.cell (by simp;omega)).trans ((g5.cell hg).trans ?_);rw[B.o i F,List.getD,q];rfl
   go_wp2_with (at_builtin;refine jH aCZ rfl _ _ rfl rfl s ⟨g,0,U⟩ G.length c G rfl rfl ?_ g7 ?_ ?_ ?_ ?_ ?_)
   .omega
   .intro y;rfl
   ·(try simp);omega
   ·(try simp);unfold dq;omega
   intro b cap w3 l m;rw[<-g9.o]at l;have u:=t.grown m g6 (λk hk=>(s.lt k hk).1);have z:=(u.block _ (by omega)).trans G2.o;have h4:=(u.block _ (by omega)).trans G4.o;have x:=L z;have h5:=aw z;have g8:=l.E0 z (by decide) 0 (I b (j+G.length) cap);have q:=(g5.trans (u.mono (by omega))).setCell (p:=w) (hU _) (I b (j+G.length) cap);have H2:=A (aB (o:=0) z (I b (j+G.length) cap));have H4:=A ((aE (o:=0) (I b (j+G.length) cap) (show w.heap.size+1≠w.heap.size by omega)).trans h4);have HF:=A (g8.I3 (dr _));clear l m s g7 z h4 g8 t u;go_wp2_with fail;generalize w3.setCell w (I b (j+G.length) cap)=w4 at*
   go_loopw [7] (λv wr=>∃(i:Nat)(a:Option bk)(k c:Nat),v=O S i/\i<=R/\wr.heap[w.heap.size]?=N (J #[I a k c] 324 (0,0))/\wr.heap[w.heap.size+1]?=N (J #[()] 324 (0,0))/\
    Fgs wr (I a k c) (d (Y*10^i))/\Q w w wr) (λv _=>R-(cg v).toNat)
   case atStart=>exact⟨0,_,_,_,rfl,dr _,H2.o,H4.o,by rw[Nat.pow_zero,Nat.mul_one];exact HF.o,q⟩
   case round=>
    clear H2 H4 HF q x h5;obtain⟨i,a,k,c,rfl,hi,D,g4,s,t⟩:=hrel;have x:=L D;have g7:w.heap.size<wr.heap.size:=au D;have g8:(d (Y*10^i)).length<=1048576:=bo (uB (ns _ (ju (by decide) hi))) T.o;have u:=A D;have m:=A g4;clear D g4;by_cases F:i<R
    .have q1:(i:Int)<(R:Int):=(by omega);go_wp2
     go_region_with
      (first|(go_at_call 183;(with_reducible refine(h0.o _).mono ?_);rintro r wx ⟨ax,kx,cx,rfl,D,q⟩;have h5:=(q.cell (p:=w) (by simpa using g7)).trans x)|(go_at_call 185;(with_reducible refine(j4 a ax k kx c cx (Y*10^i) 10 _ ((s.B0).A7 q) D g8 (bo (cw (k:=1) (by decide)) (by decide))).mono ?_);rintro r wy ⟨am,km,cm,rfl,z,l⟩;have h6:=aw (keep (keep (w1:=wr.drew) u.o q) l);have h7:=L (keep (keep (w1:=wr.drew) u.o q) l)))
     all_goals
      have y2:=keep (keep (w1:=wr.drew) u.o q) l;have y4:=keep (keep (w1:=wr.drew) m.o q) l;have h8:=(chain (chain t.drew q) l).setCell (p:=w) (hU _) (I am km cm);rw[kh,<-jx]at z;have h9:=A (z.E0 y2 (by decide) 0 (I am km cm));have Y2:=A (aB (o:=0) y2 (I am km cm));have Y4:=A ((aE (o:=0) (I am km cm) (show w.heap.size+1≠w.heap.size by omega)).trans y4);clear y2 y4 q l D z h5 h7 h6 t s x;go_wp2_with fail;exact⟨⟨i+1,am,km,cm,by go_num,by omega,Y2.o,Y4.o,h9.o,h8⟩,by simp[cg];omega⟩
    .obtain rfl:i=R:=(by omega);have q1:¬(i:Int)<(i:Int):=(by omega);have z:=L m.o;have D:=aw m.o;have z4:=L (aB (o:=0) m.o (I a k c));have l:=A (s.E0 m.o (by decide) 0 (I a k c));have HB:=A (t.setCell (p:=⟨w.heap.size+1,0,U⟩) (lh _) (I a k c));clear s t;go_wp2;exact bb (v:=ao #[I a k c]) (by simp[aj,results184,go_sem,z4]) rfl ⟨a,k,c,rfl,l.o,HB.o⟩
def tJ:∀(l:List (List UInt8))(a:Nat),l.length+a<=l.foldl (λa k=>a+k.length) a+l.count []
 | [],a=>by simp
 | x::l,a=>by
  have c:=tJ l (a+x.length);rw[List.foldl_cons,cv,List.count_cons];cases x with
  | nil=>simp at c⊢;omega
  | cons y b=>simp at c⊢;omega
def aBc(c:keys.Nodup):keys.length<=bD keys+1:=by
 have a:=tJ keys 0;have b:keys.count []<=1:=List.nodup_iff_count.1 c [];unfold bD;omega
def aDQ(w:Z)(a:Option bk)(n c:Nat):ag ac 213 #[ao #[O S 6,ai h,O ah 0,"",O S 0,I a n c]] w λe w'=>e=ar (ai az)/\Q w w w':=by
 have b:(((n:Nat):Int)==0)=az\/(((n:Nat):Int)==0)=h:=by cases f:(((n:Nat):Int)==0)<;>simp
 rcases b with b|b
 all_goals
  go_enter func213,ntmps213;go_wp2;go_ret;exact⟨rfl,(dk _ _).alloc (hU _) _⟩
def mJ(w:Z)(b:Nat)(V:C)(a:List C)(keys:List (List UInt8))(z:Sz)(w':Z):Prop:=
 ∃(c:Z)(R p:Nat)(e f:C),Q w w c/\w.heap.size<=R/\c.heap[R]?=N (J #[bx] 26 (0,0))/\w.heap.size<=p/\c.heap[p]?=N (J #[z.g,z.bytes,z.h,e,f] 189 (0,0))/\
  Win 9 encS c e (dC keys)/\(∀q,e.ownBlock=N q->w.heap.size<=q)/\
  Win 97 id c f ((dC keys).map λk=>(a.drop (a.length-keys.length)).getD (keys.idxOf k) bx)/\(∀q,f.ownBlock=N q->w.heap.size<=q)/\
  aEK c b V a (a.length-keys.length) 187 (bh p) R w'
def mJ.U2{w1 w':Z}{V:C}{a:List C}{z:Sz}(c:Q w w w1)(v:mJ w1 b V a keys z w'):mJ w b V a keys z w':=by
 obtain⟨g,R,p,u,n,k,i,r,j,m,s,l,o,t,f⟩:=v;exact⟨g,R,p,u,n,c.trans (k.mono c.size),bo c.size i,r,bo c.size j,m,s,λq e=>bo c.size (l q e),o,λq e=>bo c.size (t q e),f⟩
def aCb(w:Z)(b:Nat)(V:C)(c:List C)(a:List Tr)(keys:List (List UInt8))(w':Z):Prop:=
 (po a keys=a/\Q w w w')\/
  (keys.length<=c.length/\po a keys=a.take (c.length-keys.length)++ [dy (dC keys) (besides keys (a.drop (c.length-keys.length)))]/\
   mJ w b V c keys (dy (dC keys) (besides keys (a.drop (c.length-keys.length)))).A9 w')
def aIm(w:Z)(F:Nat->Prop)(b n c:Nat)(a:Option bk)(V:C)(i:List C)(g:List Tr)(keys:List Oo)(z:w.heap[b]?=N (J #[V] 195 (0,0)))(s:Win 97 id w V i)(u:eF F w i g)(l:∀t∈g,t.A9.B9=az)(x:g.length<=65536)
 (m:Win 9 encS w (I a n c) keys)(y:keys= []->(I a n c)=I U 0 0)(o:bK keys)(j:keys.Nodup)(r:bD keys<=2097152):
 ag ac 196 #[bh b,ao #[O S 6,ai h,O ah 0,"",O S 0,I a n c]] w λe w'=>(∃v,e=ar v)/\aCb w b V i g keys w':=by
 have HU:=A (λw=>aDQ w a n c);have HV:=A (λk(e:V.ownBlock=N k)=>s.lt e);have K:=au z;have HO:=A (λw'(H:Q w.heap.size w w')=>aFQ w' F b (I a n c) V i g keys (keep z H) (s.A0 (bs (λ_=>False) H) (λ_ _=>id)) (u.A0 (bs (λ_=>False) H) (λ_ _=>id)) l x (m.A0 (bs (λ_=>False) H) (λ_ _=>id)) y o j r (by have:=aBc j;omega));clear z s u l x m y o j r
 go_enter_defers func196,ntmps196
 go_wp2_with fail;refine(HU.o _).mono ?_;rintro e w1 ⟨rfl,j⟩;obtain⟨g1,o,m,g0⟩:=after2 j;obtain⟨X,Y,q2,q3,q4,q5,qf⟩:=bJ g1;have P:=A o;have l:=A m;clear j g1 o m;go_wp2_with fail;refine(dT _ 2).mono ?_;rintro e w2 ⟨rfl,rfl⟩;go_wp2_with fail;refine(HO.o _ l.o).mono ?_;rintro e T s;rcases s with⟨no,rfl,m,j⟩|⟨rfl,x,m,u⟩
 .have o:=A (keep P.o j);have r:=A (chain l.o j);have y:=A m;clear j m X Y q2 q3 q4 q5 qf;go_wp2_with fail;refine lg (f:=211) (args:= #[bh (N ⟨w.heap.size+1,0,U⟩)]) (by simp) (by simp[go_sem]) ?_;refine(l4 ⟨w.heap.size+1,0,U⟩ bx no [] _ (L o.o) (aw o.o)).mono ?_;rintro e u' W ⟨rfl,rfl,rfl⟩;have z:(T.setCell ⟨w.heap.size+1,0,U⟩ (bu 29 (O S no))).cell? ⟨w.heap.size+1,0,U⟩=N (bu 29 (O S no)):=by rw[aA (aB o.o _)];rfl
  have j:aCb w b V i g keys (T.setCell ⟨w.heap.size+1,0,U⟩ (bu 29 (O S no))):=af ⟨y.o,r.o.setCell (p:=⟨w.heap.size+1,0,U⟩) (lh _) _⟩;simp[Leaves,settle,aj,oe,go_sem,z];exact j
 .obtain⟨w4,p,KV,IV,o,hp,y,hk,z,hi,B,D⟩:=u;obtain⟨r0,rf,r,rc⟩:=jX.I9 (w:=w) (R:=w.heap.size+1) (lh _) (keep P.o o) HV.o K D bx
  have j:aCb w b V i g keys (T.setCell ⟨w.heap.size+1,0,U⟩ bx):=
   bm ⟨x,m,w4,_,p,KV,IV,chain l.o o,lh _,keep P.o o,bo l.o.size hp,y,hk,λq e=>bo l.o.size (z q e),hi,λq e=>bo l.o.size (B q e),r⟩
  have G:=A j;clear o hp y hk z hi B D r j m x X Y q2 q3 q4 q5 qf;go_wp2_with fail;refine lg (f:=211) (args:= #[bh (N ⟨w.heap.size+1,0,U⟩)]) (by simp) (by simp[go_sem]) ?_;refine(gF ⟨w.heap.size+1,0,U⟩ _).mono ?_;rintro e u' W ⟨rfl,rfl,rfl⟩;have j:=G.o;simp[Leaves,settle,aj,oe,go_sem,rc];exact j
def mJ.M0{F:Nat->Prop}{w':Z}{r:Nat}{V:C}{a:List C}{b:List Tr}{z:Sz}(X:F r)(f:∀k,F k->k<w.heap.size)(Y:eK F 97 id w V a)(ht:eF (λk=>F k/\k≠r/\V.ownBlock≠N k) w a b)
 (B:keys.length<=a.length)(hz:z=(dy (dC keys) (besides keys (b.drop (a.length-keys.length)))).A9)(T:mJ w r V a keys z w'):
 Keeps F w w'/\cN (Since F w w') w' r (b.take (a.length-keys.length)++ [dy (dC keys) (besides keys (b.drop (a.length-keys.length)))]):=by
 obtain⟨w4,R,p,KV,IV,W,hR,hr,hp,x,g2,g3,hi,g4,g,off,cap,h1,h2,D,G⟩:=T;have j:∀q,V.ownBlock=N q->q<w.heap.size:=λq e=>f q (Y.2 q e)
 have hk:Keeps F w w':=(bs F W).trans G (λq e=>by
  rcases e with e|e|e
  .exact af (e▸X)
  .exact af (Y.2 q e)
  .exact bm (e▸hR))
 have h0:=f r X
 have g5:¬(p=r\/V.ownBlock=N p\/p=R):=by
  rintro(e|e|e)
  .omega
  .have:=j p e;omega
  .rw[e,hr]at x;cases x
 have m:=G.B4 x g5
 have g6:g≠p:=λe=>by
  obtain⟨c,n⟩:=h2.D5 rfl;rw[e,m]at n;cases n
 have H:∀q,q<w4.heap.size->V.ownBlock≠N q->g≠q:=λq hq hn e=>by
  rcases D with D|D
  .exact hn (e▸D)
  .omega
 have g7:(a.drop (a.length-keys.length)).length=keys.length:=by rw[ea];omega
 refine⟨hk,af X,aF f hk.size,_,_,h1,⟨h2,?_⟩,?_⟩
 .intro q e;cases e;exact D.elim (λe=>af (Y.2 _ e)) (λB=>bm ⟨bo W.size B,h2.lt rfl⟩)
 .have s:∀q,(F q/\q≠r/\V.ownBlock≠N q)->Since F w w' q/\q≠r/\(I (g,off) (a.length-keys.length+1) cap).ownBlock≠N q:=λq T=>⟨af T.1,T.2.1,λe=>by
   cases e;exact H g (a7 (f g T.1) W.size) T.2.2 rfl⟩
  have K:=(ht.A0 (bs (λ_=>False) W) (λ_ _=>id)).A0 G (λq T=>by
   rintro(e|e|e)
   .exact T.2.1 e
   .exact T.2.2 e
   .have:=f q T.1;omega)
  have u:∀{a0:Type}{e:Nat}{enc:a0->C}{v:C}{l:List a0},26≠e->Win e enc w4 v l->(∀q,v.ownBlock=N q->w.heap.size<=q)->eK (λk=>Since F w w' k/\k≠r/\(I (g,off) (a.length-keys.length+1) cap).ownBlock≠N k) e enc w' v l:=by
   intro a0 e enc v l g8 o n;refine⟨o.A0 G ?_,?_⟩
   .intro q e;rintro(y|y|y)
    .have:=n q e;omega
    .have:=j q y;have:=n q e;omega
    .exact o.ne hr g8 (e.trans (congrArg N y))
   .intro q e;have P:=o.lt e;have hq:=n q e;exact⟨bm ⟨hq,a7 P G.size⟩,by omega,λy=>H q P (λe3=>by have:=j q e3;omega) (by cases y;rfl)⟩
  refine eF.L7 ((K.B3 (a.length-keys.length)).mono s) ?_;subst hz;refine .object p KV IV ((dC keys).map λk=>(a.drop (a.length-keys.length)).getD (keys.idxOf k) bx) (dC keys) (besides keys (b.drop (a.length-keys.length))) ⟨bm ⟨hp,au m⟩,by omega,λe=>g6 (by cases e;rfl)⟩ m (u (by decide) g2 g3) (u (by decide) hi g4) (by unfold besides;simp) ?_;intro i v t o n;have P:=(K.M7 (a.length-keys.length)).mono s;unfold besides at n;rw[ed]at o n;cases y:(dC keys)[i]? with
  | none=>rw[y]at o;cases o
  | some k=>
   rw[y]at o n;simp only[Option.map_some,ll]at o n;have g8:k∈keys:=(fL keys).mem_iff.1 (List.mem_of_getElem? y);have g9:keys.idxOf k<keys.length:=List.idxOf_lt_length_of_mem g8
   have h5:(a.drop (a.length-keys.length))[keys.idxOf k]?=N v:=by
    rw[<-o,gd,bf (by rw[g7];exact g9)];rfl
   have h6:(b.drop (a.length-keys.length))[keys.idxOf k]?=N t:=by
    rw[<-n,gd,bf (by have:=P.1;omega)];rfl
   exact P.2 _ v t h5 h6
def aDR(w:Z)(b n c:Nat)(a:Option bk)(V:C)(s:w.heap[b]?=N (J #[V] 195 (0,0)))(P:Z->Z->Prop)(j:M (∀w1,Q w w w1->ag ac 196 #[bh b,ao #[O S 6,ai h,O ah 0,"",O S 0,I a n c]] w1 λe w'=>(∃v,e=ar v)/\P w1 w')):
 ag ac 175 #[bh b,ao #[O S 6,ai h,O ah 0,"",O S 0,I a n c]] w λe w'=>(∃v,e=ar v)/\∃w1,Q w w w1/\P w1 w':=by
 have g:Q w w (w.alloc (J #[O S 6,ai h,O ah 0,"",O S 0,I a n c] 147)):=(dk _ _).alloc (hU _) _;obtain⟨l,m,r,o,q,p,-⟩:=bJ (aL w (J #[O S 6,ai h,O ah 0,"",O S 0,I a n c] 147));have f:=A g;clear g s;go_enter func175,ntmps175;go_wp2
 go_region_with (go_at_call 196;refine(j.o _ f.o.drew).mono ?_;rintro e w2 ⟨⟨v,rfl⟩,i⟩)
 all_goals
  have k:=A i;clear i;go_wp2;go_ret;exact⟨⟨_,rfl⟩,_,f.o.drew,k.o⟩
def aDS(w:Z)(b n c:Nat)(a:Option bk)(V:C)(k:w.heap[b]?=N (J #[V] 195 (0,0)))(P:Z->Z->Prop)(g:M (∀w1,Q w w w1->ag ac 196 #[bh b,ao #[O S 6,ai h,O ah 0,"",O S 0,I a n c]] w1 λe w'=>(∃v,e=ar v)/\P w1 w')):
 ag ac 174 #[bh b,I a n c] w λe w'=>(∃v,e=ar v)/\∃w1,Q w w w1/\P w1 w':=by
 have i:=A (aDR w b n c a V k P g);clear g k;go_enter func174,ntmps174;go_wp2_with fail;refine(i.o).mono ?_;rintro e w2 ⟨⟨v,rfl⟩,f⟩;have j:=A f;clear f;go_wp2;go_ret;exact⟨⟨_,rfl⟩,j.o⟩
def aCc(F:Nat->Prop)(w:Z)(i n c:Nat)(a:Option bk)(b:List Tr)(keys:List Oo)(a0:cN F w i b)(q:∀t∈b,t.A9.B9=az)(P:b.length<=65536)
 (r:Win 9 encS w (I a n c) keys)(R:keys= []->(I a n c)=I U 0 0)(s:bK keys)(u:keys.Nodup)(x:bD keys<=2097152):
 ag ac 174 #[bh i,I a n c] w λe w'=>(∃v,e=ar v)/\Keeps F w w'/\cN (Since F w w') w' i (po b keys):=by
 have T:=a0;obtain⟨W,o,V,g,D,G,H⟩:=a0;have j:∀w',Q w w w'->Keeps F w w'/\cN (Since F w w') w' i b:=λw' l=>⟨bs F l,(T.B8 (bs (λ_=>False) l) (λ_ _=>id)).mono (λk X=>af X) (aF o l.size)⟩;have y:∀w1,Q w w w1->Win 97 id w1 V g:=λw1 f=>G.1.A0 (bs (λ_=>False) f) (λ_ _=>id);refine(aDS w i n c a V D (λw1 w'=>aCb w1 i V g b keys w') (A λw1 f=>aIm w1 _ i n c a V g b keys (keep D f) (y w1 f) (H.A0 (bs (λ_=>False) f) (λ_ _=>id)) q P (r.A0 (bs (λ_=>False) f) (λ_ _=>id)) R s u x)).mono ?_;rintro e w' ⟨K,w1,f,p⟩;rcases p with⟨m,z⟩|⟨B,m,Y⟩
 .rw[m];exact⟨K,j _ (chain f z)⟩
 .rw[m];exact⟨K,(Y.U2 f).M0 W o G H B rfl⟩
def aA9(w:Z)(b:Nat)(q k n c o g f l r i m j p:C)(a:Option bk)(cap:Nat)(s:w.heap[b]?=N (J #[q,k,n,c,o,g,f,l,r,i,m,j,p,I a 0 cap] 228 (0,0))):
 ag ac 111 #[bh b] w λe w'=>e=ar (bw #[bx,ai h])/\w'=w:=by
 obtain⟨-,-,-,-,-,-,-,-,-,-,-,-,-,cd,-⟩:=aN s;clear s;go_enter func111,ntmps111;go_wp2_with fail;exact bb (v:=bw #[bx,ai h]) (by simp[aj,em,go_sem]) rfl ⟨rfl,rfl⟩
def aBa(w:Z)(b:Nat)(t u y z B D F G K P R V W a:C)(T:TypeId)(f:C)(toks:List C)(c:w.heap[b]?=N (J #[t,u,y,z,B,D,F,G,K,P,R,V,W,a] 228 (0,0)))
 (X:Win 232 id w a (bu T f::toks))(hl:toks.length<=1000):
 ag ac 111 #[bh b] w λe w'=>e=ar (bw #[bu T f,ai az])/\∃g off cap,w'.heap[b]?=N (J #[t,u,y,z,B,D,F,G,K,P,R,V,W,I (N ⟨g,off,U⟩) toks.length cap] 228 (0,0))/\
  Win 232 id w' (I (N ⟨g,off,U⟩) toks.length cap) toks/\a.ownBlock=N g/\Keeps (λk=>k=b) w w':=by
 obtain⟨-,-,-,-,-,-,-,-,-,-,-,-,-,cd,cf⟩:=aN c;have o:=A (X.ne c (by decide));have H:=A c;clear c;rcases X with⟨_,hn⟩|⟨g,off,cap,j,rfl,n,q,Y,hm,hi⟩
 .cases hn
 .have r:w.cell? ⟨g,off,U⟩=N (bu T f):=by
   have:=hi 0 (bu T f) rfl;rw[aA n];simpa using this
  have c:Win 232 id w (I (g,off+1) toks.length (cap-1)) toks:=
   Win.P1 (x:=bu T f) (bm ⟨g,off,cap,j,rfl,n,q,Y,hm,hi⟩)
  have HW:=A c
  have m:cap=1->Win 232 id w (I (g,off) toks.length 0) toks:=λg0=>by
   have l:toks= []:=eb (by simp at q;omega);subst l;exact bm ⟨g,off,0,j,rfl,n,hU _,by omega,dr _,λi x s=>by cases s⟩
  have s:=A m;clear m;have l:g≠b:=λe=>o.o (by rw[e];rfl);have m:=A l;simp only[cv]at*;
  clear n q Y hm hi c l;go_enter func111,ntmps111;go_wp2_with fail
  .exact bb (v:=bw #[bu T f,ai az]) (by simp[aj,em,go_sem]) rfl ⟨rfl,g,off,0,aB H.o _,(s.o (by first|rfl|omega)).A0 ((dm (λk=>k=b) w).A3 (p:=⟨b,13,U⟩) (af rfl) _) (λk e c=>m.o ((mz e).trans c)),rfl,(dm (λk=>k=b) w).A3 (p:=⟨b,13,U⟩) (af rfl) _⟩
  .exact bb (v:=bw #[bu T f,ai az]) (by simp[aj,em,go_sem]) rfl ⟨rfl,g,off+1,cap-1,aB H.o _,HW.o.A0 ((dm (λk=>k=b) w).A3 (p:=⟨b,13,U⟩) (af rfl) _) (λk e c=>m.o ((mz e).trans c)),rfl,(dm (λk=>k=b) w).A3 (p:=⟨b,13,U⟩) (af rfl) _⟩
def aDN(w:Z)(b pl c:Nat)(a:Bool)(k l q u m r p t s:C)(v:w.heap[b]?=N (J #[pl,bx,ai h,k,a,c,l,q,u,m,r,p,t,s] 228 (0,0)))(g:c<=pl)(f:pl<=1073741824):
 ag ac 83 #[bh b] w λe w'=>e=ar (O S ((if a then pl-c else 0:Nat):Int))/\Q w w w':=by
 have j:=A (aHe w b pl c a _ v rfl rfl rfl g f);obtain⟨n,i⟩:∃n,(if a then pl-c else 0:Nat)=n:=⟨_,rfl⟩;rw[i]at j⊢;obtain⟨-,c1,c2,-,-,-,-,-,-,-,-,-,-,-,-⟩:=aN v;clear v i;go_enter func83,ntmps83;go_wp2_with fail;refine(j.o).mono ?_;rintro e w1 ⟨rfl,o⟩;go_wp2;go_ret;exact⟨rfl,o⟩
def aFo(a:Option bk)(k c:Nat)(l:List Nat)(w:Z)(o:Fgs w (I a k c) l)(m:l.length<617):ag ac 200 #[ao #[I a k c]] w λe w'=>e=ar (ai h)/\Q w w w':=by
 obtain⟨n,j,b⟩:=fu o;injection b with g f i;subst g f i;have q:(l.length:Int)<617:=by omega
 clear o;go_enter func200,ntmps200;go_wp2;go_ret;exact⟨rfl,(dk _ _).alloc (hU _) _⟩
def aHY{l:Oo}{F i:Nat}(a:F<=i)(hi:i<l.length):(l.drop F).take (i+1-F)=(l.drop F).take (i-F)++ [l[i]]:=by
 rw[show i+1-F=(i-F)+1 by omega,List.take_succ_eq_append_getElem (by rw[ea];omega),List.getElem_drop];congr 3;omega
def aGP{l:Oo}(c:∀x∈l,48<=x.toNat/\x.toNat<=57)(F n:Nat):bO ((l.drop F).take n)<10^n:=by
 have a:=kH (l:=(l.drop F).take n) (λx b=>(c x (List.mem_of_mem_drop (nz b))).2);exact a7 a (ju (by decide) (by rw[el];omega))
def aFp(s:ByteArray)(w:Z)(j:∀x∈s.data.toList,48<=x.toNat/\x.toNat<=57)(hs:s.size<=2000)(hp:0<s.size)(q0:s[0].toNat≠48):
 ag ac 182 #[s] w λe w'=>∃a k c,e=ar (bw #[ao #[I a k c],ai az])/\Fgs w' (I a k c) (d (bO s.data.toList))/\Q w w w':=by
 have g:(d (bO s.data.toList)).length<=500:=by
  have n:=kH (l:=s.data.toList) (λx Y=>(j x Y).2);obtain⟨T,m⟩:∃T,T=500:=⟨_,rfl⟩;rw[<-m];refine cw (a7 n ?_);rw[show 10000=10^4 from rfl,<-na];exact ju (by decide) (by rw[m];simpa using hs)
 obtain⟨D,m⟩:∃D,bO s.data.toList=D:=⟨_,rfl⟩;rw[m]at g⊢;have HL:=A g;have HD:=A m;have HS:=A j;clear g m j;go_enter func182,ntmps182;go_wp2_with fail;refine wp_loop_rounds 1 ?_;rw[rounds_succ];have q2:¬((s[0].toNat:Nat):Int)=48:=by omega
 have q3:(((s[0].toNat:Nat):Int)==48)=h:=by simpa using q2
 have q4:¬(2467:Int)<(s.size:Int):=by omega
 go_wp2;go_loopw [0,4] (λv f wr=>∃(t:ByteArray)(r:List Nat),v=.string t/\M (∀x∈t.data.toList,48<=x.toNat/\x.toNat<=57)/\r.length+t.size<=2000/\Row (w.heap.size+1) 3 encI wr f r/\gk r/\M (cz r+10000^r.length*bO t.data.toList=D)/\Q (w.heap.size+1) (w.alloc (J #[()] 324)) wr) (λv _ _=>match v with| .string t=>t.size|_=>0)
 case atStart=>exact⟨s,[],rfl,HS,by simpa using hs,fw _ _ _ _,by simp[gk],A (by simp[cz,HD.o]),dk _ _⟩
 case round=>
  obtain⟨t,r,rfl,z,K,g,P,HV,j⟩:=hrel;have g4:w.heap.size+1<=wr.heap.size:=by simpa using j.size
  by_cases hz:t.size=0
  .have n:t.data.toList= []:=eb (by simpa using hz);have m:=HV.o;rw[n]at m;have g6:=A (show cz r=D by simpa[bO]using m);clear n m;go_wp2_with fail;refine(aC0 _ r _ P (g.I3 (dr _))).mono ?_;rintro e B ⟨a3,m,n,rfl,hm,q⟩;rw[g6.o]at hm;have u:=(j.block _ (by omega)).trans (aL w _);have R:Q w w B:=chain (((dk _ _).alloc (hU _) _).trans (j.mono (by omega))) q;have g5:=keep u q;have g7:(d D).length<617:=(by have:=HL.o;omega);have g8:(B.alloc (J #[I a3 m n] 324)).heap[B.heap.size]?=N (J #[I a3 m n] 324 (0,0)):=aL B _;have h5:=(de B (J #[I a3 m n] 324) _ (au g5)).trans g5;have V:=R.alloc (by have:=q.size;omega) (J #[I a3 m n] 324);have G:=hm.A5 (J #[I a3 m n] 324);have g9:=au g8;clear g j u;go_wp2_with fail;generalize B.alloc (J #[I a3 m n] 324)=w4 at*;have h0:=L g8
   go_region_with
    (go_at_call 200;(with_reducible refine(aFo a3 m n _ _ G.B0 g7).mono ?_);rintro e wx ⟨rfl,u⟩;have H:=(u.cell (p:=B) (by simpa using g9)).trans h0;have W:=keep (w1:=w4.drew) h5 u;have h2:=aw W;have h3:=L W)
   all_goals
    have z6:=L (aB (o:=0) W (I a3 m n));have h7:=A (((G.B0).A7 u).E0 W (by decide) 0 (I a3 m n));have W:=A ((chain V.drew u).setCell (p:=w) (hU _) (I a3 m n));clear hm G u V g5 R H h2 h3;go_wp2;exact bb (v:=bw #[ao #[I a3 m n],ai az]) (by simp[aj,results182,go_sem,z6]) rfl ⟨a3,m,n,rfl,h7.o,W.o⟩
  .have z1:(0:Int)<(t.size:Int):=(by omega);obtain⟨F,hF⟩:∃F,t.size-4=F:=⟨_,rfl⟩;have g6:F<=t.size:=(by omega);have h7:t.size<=2000:=(by omega);have g7:t.size-F<=4:=(by omega);have h8:F<t.size:=(by omega);have n:t.data.toList.length=t.size:=by simp
   have q:∀X,X=bO ((t.data.toList.drop F).take (t.size-F))->X<10000/\cz (r++ [X])+10000^(r++ [X]).length*bO (t.data.toList.take F)=D:=by
    intro X u;have R:=aGP z.o F (t.size-F);rw[<-u]at R;refine⟨a7 R (bo (ju (by decide) g7) (by decide)),?_⟩;have G:=jV (t.data.toList.take F) (t.data.toList.drop F);rw[List.take_append_drop,ea,n]at G;rw[List.take_of_length_le (by rw[ea,n];omega)]at u;rw[<-u]at G;rw[Fig.val_append,cn,ki,jx,<-HV.o,G,Nat.mul_add];have V:10000^r.length*cz [X]=10000^r.length*X:=by simp[cz]
    have W:10000*bO (t.data.toList.take F)=bO (t.data.toList.take F)*10^(t.size-F):=by
     by_cases h4:4<t.size
     .rw[show t.size-F=4 by omega,Nat.mul_comm]
     .rw[show F=0 by omega];simp[bO]
    rw[V,kh,W];omega
   have R:∀x∈(t.extract 0 F).data.toList,48<=x.toNat/\x.toNat<=57:=λx Y=>z.o x (by
    rw[show(t.extract 0 F).data.toList=t.data.toList.take F by simp]at Y;exact nz Y)
   have V:(t.extract 0 F).size=F:=(by simp;omega);have W:(t.extract 0 F).data.toList=t.data.toList.take F:=by simp
   have G:(4:Int)<(t.size:Int)/\S.wrap ((t.size:Int)-4)=(F:Int)\/¬(4:Int)<(t.size:Int)/\M (F=0):=by
    rcases Nat.lt_or_ge 4 t.size with a0|a0
    .exact af ⟨by omega,by rw[b9];omega⟩
    .exact bm ⟨by omega,A (by omega)⟩
   have u:=A q;have g9:=A R;have h0:=A V;have h2:=A W;have HR:=A K;have h3:=A n;clear q R V W K n;clear hF;rcases G with⟨q5,q6⟩|⟨q5,H0⟩
   all_goals
    go_wp2;go_loopw [7,6] (λv x wx=>∃(i X:Nat),v=O S i/\F<=i/\i<=t.size/\x=O S X/\M (X=bO ((t.data.toList.drop F).take (i-F)))/\X<10000/\wr=wx) (λv _ _=>t.size-(cg v).toNat)
    case atStart=>exact⟨F,0,(by first|rfl|rw[H0.o];rfl),hU _,g6,rfl,A (by simp[bO]),by decide,rfl⟩
    case round=>
     obtain⟨i,X,rfl,q,h9,rfl,K,i0,rfl⟩:=hrel;by_cases R:i<t.size
     .have k1:(i:Int)<(t.size:Int):=(by omega);have hc:=z.o (t[i]) (by show t.data[i]∈t.data.toList;exact Array.getElem_mem_toList _);have k2:fh.wrap (((t[i].toNat:Nat):Int)-48)=((t[i].toNat-48:Nat):Int):=by rw[ms];omega
      have n:10*X+(t[i].toNat-48)=bO ((t.data.toList.drop F).take (i+1-F)):=by
       rw[aHY q (by rw[h3.o];exact R),tP,<-K.o];rfl
      have V:10*X+(t[i].toNat-48)<10000:=by
       rw[n];exact a7 (aGP z.o F (i+1-F)) (bo (ju (by decide) (show i+1-F<=4 by omega)) (by decide))
      generalize t[i].toNat-48=y at*;have W:=A n;have m:S.wrap ((10:Int)*(X:Int))=((10*X:Nat):Int):=(by rw[b9];omega);have k4:S.wrap (((10*X:Nat):Int)+(y:Int))=((10*X+y:Nat):Int):=(by rw[b9];omega);clear n hc;go_wp2_with fail;exact⟨⟨i+1,10*X+y,by go_num,by omega,by omega,by go_num,W,V,trivial⟩,by simp[cg];omega⟩
     .obtain rfl:i=t.size:=(by omega);obtain⟨H,m⟩:=u.o X K.o;have V:=A m;have k1:¬(t.size:Int)<(t.size:Int):=(by omega);have W:(F:Int)<=(t.size:Int):=(by omega);have i1:=HR.o;clear m u K;go_wp2_with (at_builtin;refine cV aCZ rfl _ _ rfl rfl (g.A5 _) ⟨wr.heap.size,0,U⟩ 1 X rfl ?_ rfl ?_ ?_ ?_ ?_)
      .omega
      .unfold dq;omega
      ·(try simp);omega
      intro b cap B n m;have u:=(j.alloc g4 (J #[O S (X:Int)] 3)).grown m (by simp;omega) (λk hk=>(g.lt k hk).1);have K:=A n;clear n m g;go_wp2;go_roundw
      case rel=>exact⟨t.extract 0 F,r++ [X],(by first|rfl|(rw[H0.o];simp)),g9,by rw[h0.o,cn,ki];omega,K.o,λy g=>by
       rcases mj.1 g with a0|a0
       .exact P y a0
       .rw[List.mem_singleton.1 a0];exact H,by rw[h2.o];exact V,u⟩
      case measure=>(simp;omega)
def aGT(e:b<18446744073709551616)(f:Nat)(c:f+1=2^n)(a:f<18446744073709551616):bits eo ah (b:Int) (f:Int)=((b%(f+1):Nat):Int):=by
 rw[bits_and_u64_nat b f e a,show f=2^n-1 by omega,Nat.and_two_pow_sub_one_eq_mod];rw[show 2^n-1+1=2^n by omega]
def yT(b:Nat)(w:Z)(j:b<9223372036854775808):ag ac 159 #[O ah b] w λe w'=>e=ar (bw #[O ah (fN b),O S (fX b)])/\w'=w:=by
 have b1:bits eo ah (b:Int) 4503599627370495=((b%4503599627370496:Nat):Int):=aGT (n:=52) (by omega) 4503599627370495 (by decide) (by decide);have b2:bits eo ah ((b:Int)/4503599627370496) 2047=((b/4503599627370496%2048:Nat):Int):=aGT (b:=b/4503599627370496) (n:=11) (by omega) 2047 (by decide) (by decide);unfold fX fN nN;have f:b%4503599627370496<4503599627370496:=mf _ (by decide);have i:b/4503599627370496%2048<2048:=mf _ (by decide);generalize b%4503599627370496=m at*;generalize b/4503599627370496%2048=e at*;have b3:S.wrap (e:Int)=(e:Int):=by rw[b9];omega
 have b4:S.wrap ((e:Int)-1075)=(e:Int)-1075:=by rw[b9];omega
 have g:ah.wrap ((m:Int)+4503599627370496)=((m+4503599627370496:Nat):Int):=by rw[fk];omega
 by_cases c:e=0
 .subst c;rw[pz rfl];simp only[Int.natCast_zero]at*;go_enter func159,ntmps159;go_wp2_with fail;exact bb (v:=bw #[O ah m,O S (-1074)]) (by simp[aj,gn,go_sem]) rfl ⟨rfl,rfl⟩
 .rw[py c];have c1:¬(e:Int)=0:=by omega
  have c2:((e:Int)==0)=h:=by simpa using c1
  have a:((e-1:Nat):Int)-1074=(e:Int)-1075:=by omega
  rw[a];clear a;go_enter func159,ntmps159;go_wp2_with fail;exact bb (v:=bw #[O ah ((m+4503599627370496:Nat):Int),O S ((e:Int)-1075)]) (by simp[aj,gn,go_sem]) rfl ⟨rfl,rfl⟩
def aH5(neg:Bool)(a:ByteArray)(e:Int)(w:Z)(m:a.size<=2147483648)(k: -4611686018427387904<=e)(i:e<=4611686018427387904):
 ag ac 181 #[ao #[neg,a,e]] w λr w'=>r=ar (fV ⟨neg,bG a.data.toList,eD a.data.toList e⟩)/\Q w w w':=by
 have b:a.data.toList.length=a.size:=by simp
 by_cases j:800<a.size
 .have f:(800:Int)<(a.size:Int):=by omega
  have n:S.wrap (e+(a.size:Int))=e+(a.size:Int):=by rw[b9];omega
  have l:S.wrap (e+(a.size:Int)-801)=e+(a.size:Int)-801:=by rw[b9];omega
  go_enter func181,ntmps181;go_wp2;go_region;go_wp2_with fail;refine bb (v:=ao #[neg,.string (a.extract 0 800++⟨#[49]⟩),O S (e+a.size-801)]) (by simp[aj,go,go_sem]) rfl ⟨?_,((((dk _ _).alloc (hU _) _).alloc (by simp) _).drew)⟩;have c:bG a.data.toList=(a.extract 0 800++⟨#[49]⟩:ByteArray).data.toList:=by unfold bG;rw[pz];simp
  have g:eD a.data.toList e=e+a.size-801:=by unfold eD;rw[pz,b];omega
  rw[c,g];rfl
 .have f:¬(800:Int)<(a.size:Int):=by omega
  unfold bG eD;rw[py,py];go_enter func181,ntmps181;go_wp2_with fail;exact bb (v:=ao #[neg,a,e]) (by simp[aj,go,go_sem]) rfl ⟨rfl,((dk _ _).alloc (hU _) _).alloc (by simp) _⟩
