/-
  The program, one part of its walk. Conditions: none.
-/
import Derived.Test.YtakkmiomhackiaaGreatDoorBf04
set_option linter.all false
set_option maxRecDepth 100000
set_option maxHeartbeats 16000000
open Go.Proofs.Tryz
open Bool renaming false->V,true->K
open Go renaming bodyPost_ret->H,cell_of_one->Y,heap_alloc_new->ar,lt_of_block->av,results->G
open Go.Ending renaming returned->ao
open Go.IntKind renaming i64->O,u64->ah
open Go.Obj renaming cells->X
open Go.Proofs.Tryz renaming results234->E
open Go.Proofs.YtakkmiomhackiaaGreatDoor.Lim renaming bitlen->S,limbs->W,short->ag
open Go.Proofs.YtakkmiomhackiaaGreatDoor.Row renaming A7->aw
open Go.RowKit renaming Below->ac
open Go.RowKit.Below renaming refl->ae
open Go.Value renaming bool->ak,int->U,slice->I
open Nat renaming le_add_right->J,le_refl->ai,le_trans->aj,lt_of_lt_of_le->au
open Option renaming none->Z,some->af
namespace Go.Proofs.YtakkmiomhackiaaGreatDoor
open Go.RowKit
def aIA(a a':Option Addr)(k k' c c' L l:Nat)(w:World)(f:Wds w (I a k c) (W L))(d:Wds w (I a' k' c') (W l))(l9:L≠0)(i3:l≠0)
 (k4:S L<=4000)(k5:S l<=5000)(T:S L<=S l+1500)(h6:S l+66<S L):
 Calls prog 234 #[.agg #[I a k c],.agg #[I a' k' c']] w λe w'=>e=ao (cutV (bH L l))/\ac w w w':=by
 have m0:(W L).length<=128:=ag (by omega);have HW:M (∀wx,ac w w wx->Wds wx (I a k c) (W L)/\Wds wx (I a' k' c') (W l)):=λwx hx=>⟨f.A4 hx,d.A4 hx⟩
 clear f d;obtain⟨bn,d⟩:∃x,S L=x:=⟨_,rfl⟩;obtain⟨bd,f⟩:∃x,S l=x:=⟨_,rfl⟩;rw[d]at k4 T h6;rw[f]at k5 T h6;have h9:=A d;have h7:=A f;clear d f;have g:ac w w (((w.alloc (X #[I a k c] 381)).alloc (X #[I a' k' c'] 381)).alloc (X #[U ah 0,U O 0,ak V] 359)):=(((ae _ _).alloc (ai _) _).alloc (by simp) _).alloc (by simp;omega) _;obtain⟨g1,s,n,_,_⟩:=tQ (ae (((w.alloc (X #[I a k c] 381)).alloc (X #[I a' k' c'] 381)).alloc (X #[U ah 0,U O 0,ak V] 359)).heap.size _);go_enter func234,ntmps234;go_wp2_with fail;generalize ((w.alloc (X #[I a k c] 381)).alloc (X #[I a' k' c'] 381)).alloc (X #[U ah 0,U O 0,ak V] 359)=w3 at*;have i4:=Y g1;have i5:=Y s;have h:w.heap.size<w3.heap.size:=by omega
 have i:w.heap.size+1<w3.heap.size:=by omega
 have G1:=A g1;have G2:=A s;have G3:=A n;clear g1 s n
 go_region_held3 (λw'=>w'.cell? w=af (I a k c)/\w'.cell? ⟨w.heap.size+1,0,Z⟩=af (I a' k' c')) (first|exact⟨m,h8⟩|exact⟨t,y⟩|go_keep)
  (first|(go_at_call 252;(with_reducible refine(lY a k c L _ _ (HW.o _ g.drew).1 h9.o (by omega)).mono ?_);rintro e wx ⟨rfl,d⟩;have m:=(d.cell (p:=w) (by simpa using h)).trans i4;have h8:=(d.cell (p:=⟨w.heap.size+1,0,Z⟩) (by simpa using i)).trans i5)|(go_at_call 252;(with_reducible refine(lY a' k' c' l _ _ (HW.o _ (chain g.drew d)).2 h7.o (by omega)).mono ?_);rintro e C ⟨rfl,f⟩;have t:=(f.cell (p:=w) (by simpa using au h d.size)).trans m;have y:=(f.cell (p:=⟨w.heap.size+1,0,Z⟩) (by simpa using au i d.size)).trans h8))
 have i6:=A (chain (chain g.drew d) f);have g1:=keep (keep (w1:=w3.drew) G1.o d) f;have s:=keep (keep (w1:=w3.drew) G2.o d) f;have n:=keep (keep (w1:=w3.drew) G3.o d) f;clear d f m h8 t y i4 i5 g G1 G2 G3 h i;have m1:O.wrap ((bn:Int)-(bd:Int))=(bn:Int)-(bd:Int):=wr (by omega) (by omega);have G1:=A g1;have G2:=A s;have G3:=A n;clear g1 s n;obtain⟨u,hu⟩:∃u:Nat,(66:Int)-((bn:Int)-(bd:Int))= -(u:Int):=⟨(((bn:Int)-(bd:Int))-66).toNat,by omega⟩;have m2:O.wrap (-(u:Int))= -(u:Int):=wr (by omega) (by omega);have m3:O.wrap (u:Int)=(u:Int):=wr (by omega) (by omega);have l1:¬(0:Int)<= -(u:Int):=by omega
 have l2:¬(u:Int)<=0:=by omega
 have l3:¬u=0:=by omega
 have m4:u<=1500:=by omega
 have HU:M (nM L l= -(u:Int)):=A (by unfold nM;rw[h9.o,h7.o,hu]);have d:S l+u<=8192:=by rw[h7.o];omega
 have f:bH L l=kD (L/(l*2^u)) (L%(l*2^u)) (-(u:Int)):=by
  unfold bH;rw[HU.o];have y:(-(u:Int)).toNat=0:=by omega
  have C:(- -(u:Int)).toNat=u:=by omega
  rw[y,C];simp
 have g:=A d;have h:=A f;clear d f;go_wp2_with fail;refine(aGz a' k' c' l u _ (HW.o _ i6.o).2 g.o).mono ?_;rintro e w4 ⟨ad,kd,cd,rfl,m,d⟩;have s:=(HW.o _ (chain i6.o d)).1;have i4:=Y (keep G1.o d);have i5:=Y (keep G2.o d);have m5:=free_of_one (keep G2.o d);have R:=A ((aE (w:=w4) (o:=0) (k:=w.heap.size) (b:=w.heap.size+1) (I ad kd cd) (by omega)).trans (keep G1.o d));have g7:=A (aB (o:=0) (keep G2.o d) (I ad kd cd));have i:=A ((aE (w:=w4) (o:=0) (k:=w.heap.size+2) (b:=w.heap.size+1) (I ad kd cd) (by omega)).trans (keep G3.o d));have F:=A ((chain i6.o d).setCell (p:=⟨w.heap.size+1,0,Z⟩) (Nat.le_succ _) (I ad kd cd));have P:=A (s.B5 (keep G2.o d) (by decide) 0 (I ad kd cd));have t:=A (m.B5 (keep G2.o d) (by decide) 0 (I ad kd cd));clear s m d;go_wp2_with fail;have m6:=av i.o;generalize w4.setCell ⟨w.heap.size+1,0,Z⟩ (I ad kd cd)=w5 at*;obtain⟨D,d⟩:∃D,l*2^u=D:=⟨_,rfl⟩;obtain⟨N,rfl⟩:∃N,N=L:=⟨_,rfl⟩;have Q:S N=S D+66:=by rw[<-d,mS i3,h9.o,h7.o];omega
 have m7:S N<=8192:=by rw[h9.o];omega
 have m8:S D<=8192:=by rw[<-d,mS i3,h7.o];omega
 have j2:D≠0:=by rw[<-d];exact Nat.mul_ne_zero i3 (Nat.ne_of_gt (Nat.two_pow_pos _))
 have f:=h.o;rw[d]at t f;clear d hu g h;have d:(W N).length<=1048576:=aj (ag (k:=256) (by omega)) (by decide);have g:(W D).length<=1048576:=aj (ag (k:=256) (by omega)) (by decide);obtain⟨j3,j4⟩:=aCA j2 Q;refine(aGA _ _ _ _ _ _ N D w5 P.o t.o d g j2).mono ?_;rintro e w6 ⟨aq,kq,cq,al,kl,cl,rfl,h,m,i7⟩;have s:=chain F.o i7;have n:=keep i.o i7;clear R g7 i F P t d g;obtain⟨va,vc,i8⟩:=aw h;injection i8 with y C e3
 subst y C e3;obtain⟨va,vc,i8⟩:=aw m;injection i8 with y C e3
 subst y C e3;obtain⟨q,i⟩:∃q,N/D=q:=⟨_,rfl⟩;obtain⟨r,g⟩:∃r,N%D=r:=⟨_,rfl⟩;rw[i]at h j3 j4 f;rw[g]at m f;simp only[i,g];have d:N%D<D:=Nat.mod_lt _ (by omega);rw[g]at d;clear i g Q;obtain⟨bq,g⟩:∃b,S q=b:=⟨_,rfl⟩;rw[g]at j3 j4;have h2:=A g;clear g;obtain⟨br,i⟩:∃b,S r=b:=⟨_,rfl⟩;have j5:=A i
 have l4:br<=9000:=by
  have g:=Lim.bitlen_mono (Nat.le_of_lt d);omega
 have i1:decide (0<br)=!decide (r=0):=by rw[<-i];exact aCB r
 clear i d;obtain⟨kk,j6⟩:∃z,max ((bq:Int)-53- -(u:Int)) (-1074)=z:=⟨_,rfl⟩;obtain⟨j,hj⟩:∃j:Nat,kk+ -(u:Int)=(j:Int):=⟨(kk+ -(u:Int)).toNat,by omega⟩;obtain⟨x,hx⟩:∃x:Nat,kk+1074=(x:Int):=⟨(kk+1074).toNat,by omega⟩;have m9:13<=j:=by omega
 have n0:j<=6000:=by omega
 have h8:x<=3000:=by omega
 have i9:bq<=53+j:=by omega
 have d:aCz (q/2^j)=ao (.tuple #[U ah ((q/2^j:Nat):Int),ak K]):=if_pos (by have:=tT h2.o i9;omega);have j7:=A d;clear d;obtain⟨B,i⟩:∃B:Nat,x*4503599627370496+q/2^j=B:=⟨_,rfl⟩;have l5:ah.wrap ((x:Int)*4503599627370496+(q:Int)/2^j)=(B:Int):=aAI i h8 (tT h2.o i9);have j8:((j:Int)-1).toNat=j-1:=by omega
 have d:=f.trans (aI9 (q:=q) (r:=r) (by rw[h2.o];exact j6) hj hx);rw[i]at d;have g7:=A d;clear i d;obtain⟨C,F,d⟩:=aLP w6 (X #[I aq (W q).length cq] 381) (X #[I al (W r).length cl] 381);have h:=h.A4 d;have m:=m.A4 d;have n:=keep n d;have n4:w.heap.size+3<=w6.heap.size:=by have:=i7.size;omega
 have s:=chain s d;clear d;have k6:=A j6;have t:=A C;have y:=A F;have i:=A n;have d:=A s;clear f n s C F;have n5:O.wrap ((bq:Int)-53)=(bq:Int)-53:=wr (by omega) (by omega);have n6:O.wrap ((bq:Int)-53- -(u:Int))=(bq:Int)-53- -(u:Int):=wr (by omega) (by omega);have l6:O.wrap ((bq:Int)-53+(u:Int))=(bq:Int)-53+(u:Int):=wr (by omega) (by omega);have l7:max ((bq:Int)-53+(u:Int)) (-1074)=kk:=by rw[<-k6.o];congr 1;omega
 have n7:O.wrap (j:Int)=(j:Int):=wr (by omega) (by omega);have n8:O.wrap ((j:Int)-1)=(j:Int)-1:=wr (by omega) (by omega);have n9:O.wrap (x:Int)=(x:Int):=wr (by omega) (by omega);have n:=A h;have F:=A m;clear h m;go_wp2_with fail;refine(lY aq _ cq q bq _ n.o h2.o (by omega)).mono ?_;rintro e w7 ⟨rfl,f⟩;have t:=A (keep t.o f);have y:=A (keep y.o f);have i:=A (keep i.o f);have d:=A (chain d.o f);have n:=A (n.o.A4 f);have F:=A (F.o.A4 f);clear f;have h3:=Y t.o;go_wp2_with fail;refine(wI aq _ cq q j _ n.o (aj (ag (k:=2) (by rw[h2.o];omega)) (by decide)) (by omega)).mono ?_;rintro e w8 ⟨am,km,cm,rfl,h,f⟩;have t:=A (keep t.o f);have y:=A (keep y.o f);have i:=A (keep i.o f);have d:=A (chain d.o f);have n:=A (n.o.A4 f);have F:=A (F.o.A4 f);have h4:=A h;have m:(W (q/2^j)).length<=4294967296:=aj (Lim.limbs_length_le (k:=1) (by have:=tT h2.o i9;omega)) (by decide);have j9:=A m;clear f h h3 m;have f:ac w8 w8 (w8.alloc (X #[I am km cm] 381)):=(ae _ _).alloc (ai _) _;have i0:=A (ar w8 (X #[I am km cm] 381));have t:=A (keep t.o f);have y:=A (keep y.o f);have i:=A (keep i.o f);have d:=A (chain d.o f);have n:=A (n.o.A4 f);have F:=A (F.o.A4 f);have h4:=A (h4.o.A4 f);have j0:=Y y.o;have k0:=Y i0.o;clear f
 by_cases Q:q%2^j=0
 .have T:(q%2^j !=0)=V:=by simp[Q]
  have g8:q.testBit (j-1)=V:=aCC (by omega) Q;have h5:fE q r j=decide (r≠0):=by unfold fE;simp[Q]
  have h1:dI q r j= -1:=pD g8;rw[T];go_wp2_with fail;refine(lY al _ cl r br _ F.o j5.o (by omega)).mono ?_;rintro e i2 ⟨rfl,f⟩;have t:=A (keep t.o f);have y:=A (keep y.o f);have i:=A (keep i.o f);have d:=A (chain d.o f);have n:=A (n.o.A4 f);have F:=A (F.o.A4 f);have h4:=A (h4.o.A4 f);have i0:=A (keep i0.o f);clear f j0 k0 Q;have k0:=Y i0.o;go_wp2_with fail;refine(pC am km cm (q/2^j) _ h4.o j9.o).mono ?_;rintro e C ⟨he,s⟩;subst he;rw[j7.o];have t:=A (keep t.o s);have y:=A (keep y.o s);have i:=A (keep i.o s);have d:=A (chain d.o s);have n:=A (n.o.A4 s);have F:=A (F.o.A4 s);clear s;have g9:∀o,ac C C (C.alloc o):=λo=>(ae _ _).alloc (ai _) _
  have h3:∀o,(C.alloc o).cell? w6=af (I aq (W q).length cq):=λo=>Y (keep t.o (g9 o))
  have h0:=A g9;clear g9;go_wp2_with fail;refine(rP aq cq q ((j:Int)-1) _ (n.o.A4 (h0.o _)) (by omega) (by omega)).mono ?_;rintro e k1 ⟨rfl,m⟩;have P:=A (keep (ar C _) m);have m:=(h0.o _).trans (m.mono (by simp));have i:=A (keep i.o m);have d:=A (chain d.o m);clear m h3;obtain⟨r0,r1,r2,rf⟩:=cells3 i.o;obtain⟨q0,q1,q2,-⟩:=cells3 P.o;rw[j8];rw[g8]
  by_cases g:aM<B
  .have R:(9218868437227405311:Int)<(B:Int):=by unfold aM at g;omega
   have f:bH N l=⟨aM,1,V⟩:=by rw[g7.o];exact if_pos g
   have h:=A f;clear f g;go_wp2_with fail;exact H (v:=cutV ⟨aM,1,V⟩) (by simp[G,E,go_sem,r0,r1,r2,cutV,aM]) rfl ⟨by rw[h.o],(((d.o).setCell (J _ 2) _).setCell (J _ 2) _).setCell (J _ 2) _⟩
  .have R:¬(9218868437227405311:Int)<(B:Int):=by unfold aM at g;omega
   have f:bH N l=⟨B,dI q r j, !fE q r j⟩:=by rw[g7.o];exact if_neg g
   rw[h1,h5]at f;have h:=A f;clear f g;go_wp2_with fail;exact H (v:=cutV ⟨B,-1, !decide (r≠0)⟩) (by simp[G,E,go_sem,r0,r1,r2,q0,q1,q2,cutV,i1]) rfl ⟨by rw[h.o],(((d.o).setCell (J _ 2) _).setCell (J _ 2) _).setCell (J _ 2) _⟩
 .have T:(q%2^j !=0)=K:=by simp[Q]
  have h5:fE q r j=K:=by unfold fE;simp[Q]
  rw[T];clear Q;go_wp2_with fail;refine(pC am km cm (q/2^j) _ h4.o j9.o).mono ?_;rintro e C ⟨he,s⟩;subst he;rw[j7.o];have t:=A (keep t.o s);have y:=A (keep y.o s);have i:=A (keep i.o s);have d:=A (chain d.o s);have n:=A (n.o.A4 s);have F:=A (F.o.A4 s);have l8:=av y.o;clear s;have g9:∀o,ac C C (C.alloc o):=λo=>(ae _ _).alloc (ai _) _
  have h3:∀o,(C.alloc o).cell? w6=af (I aq (W q).length cq):=λo=>Y (keep t.o (g9 o))
  have h0:=A g9;clear g9;go_wp2_with fail;refine(rP aq cq q ((j:Int)-1) _ (n.o.A4 (h0.o _)) (by omega) (by omega)).mono ?_;rintro e k1 ⟨rfl,m⟩;have P:=A (keep (ar C _) m);have m:=(h0.o _).trans (m.mono (by simp));have t:=A (keep t.o m);have y:=A (keep y.o m);have i:=A (keep i.o m);have d:=A (chain d.o m);have n:=A (n.o.A4 m);have F:=A (F.o.A4 m);clear m h3;obtain⟨r0,r1,r2,rf⟩:=cells3 i.o;obtain⟨q0,q1,q2,qf⟩:=cells3 P.o;rw[j8]
  by_cases g8:q.testBit (j-1)=K
  .have j1:=A g8;rw[g8];clear g8;have i2:M (w6.heap.size≠C.heap.size):=A (by omega);have k2:M (w6.heap.size+1≠C.heap.size):=A (by omega);have k3:M (w.heap.size+2≠C.heap.size):=A (by omega);have s:M (w.heap.size<=C.heap.size):=A (by omega);have h3:(k1.setCell ⟨C.heap.size,1,Z⟩ (U O 0)).cell? w6=af (I aq (W q).length cq):=Y ((aE (o:=1) (U O 0) i2.o).trans t.o);go_wp2_with fail;have t:=A ((aE (o:=1) (U O 0) i2.o).trans t.o);have y:=A ((aE (o:=1) (U O 0) k2.o).trans y.o);have i:=A ((aE (o:=1) (U O 0) k3.o).trans i.o);have d:=A (d.o.setCell (p:=⟨C.heap.size,1,Z⟩) s.o (U O 0));have n:=A (n.o.B5 P.o (by decide) 1 (U O 0));have F:=A (F.o.B5 P.o (by decide) 1 (U O 0));have P:=A (aB (o:=1) P.o (U O 0));clear h3 r0 r1 r2 rf q0 q1 q2 qf;have m:((j:Int)-1)=((j-1:Nat):Int):=by omega
   have o0:O.wrap ((j-1:Nat):Int)=((j-1:Nat):Int):=wr (by omega) (by omega);rw[m];clear m;refine(wI aq _ cq q (j-1) _ n.o (aj (ag (k:=2) (by rw[h2.o];omega)) (by decide)) (by omega)).mono ?_;rintro e h3 ⟨k7,k8,k9,rfl,_,m⟩;have t:=A (keep t.o m);have y:=A (keep y.o m);have i:=A (keep i.o m);have d:=A (chain d.o m);have n:=A (n.o.A4 m);have F:=A (F.o.A4 m);have P:=A (keep P.o m);clear m;have g9:∀o,ac h3 h3 (h3.alloc o):=λo=>(ae _ _).alloc (ai _) _
   have h0:=A g9;clear g9
   by_cases Q:q%2^(j-1)=0
   .have T:(q%2^(j-1)!=0)=V:=by simp[Q]
    have j0:∀o,(h3.alloc o).cell? ⟨w6.heap.size+1,0,Z⟩=af (I al (W r).length cl):=λo=>Y (keep y.o (h0.o o))
    have l0:=A Q;rw[T];clear Q;go_wp2_with fail;refine(lY al _ cl r br _ (F.o.A4 (h0.o _)) j5.o (by omega)).mono ?_;rintro e o1 ⟨rfl,m⟩;have m:=(h0.o _).trans (m.mono (by simp));have i:=A (keep i.o m);have d:=A (chain d.o m);have P:=A (keep P.o m);clear m j0;obtain⟨r0,r1,r2,rf⟩:=cells3 i.o;obtain⟨q0,q1,q2,qf⟩:=cells3 P.o
    by_cases g9:r=0
    .have h1:dI q r j=0:=aAJ j1.o l0.o g9;have j0:decide (r=0)=K:=by simp[g9]
     clear g9
     by_cases g:aM<B
     .have R:(9218868437227405311:Int)<(B:Int):=by unfold aM at g;omega
      have f:bH N l=⟨aM,1,V⟩:=by rw[g7.o];exact if_pos g
      have h:=A f;clear f g;go_wp2_with fail;exact H (v:=cutV ⟨aM,1,V⟩) (by simp[G,E,go_sem,r0,r1,r2,cutV,aM]) rfl ⟨by rw[h.o],(((d.o).setCell (J _ 2) _).setCell (J _ 2) _).setCell (J _ 2) _⟩
     .have R:¬(9218868437227405311:Int)<(B:Int):=by unfold aM at g;omega
      have f:bH N l=⟨B,dI q r j, !fE q r j⟩:=by rw[g7.o];exact if_neg g
      rw[h1,h5]at f;have h:=A f;clear f g;go_wp2_with fail;exact H (v:=cutV ⟨B,0, !K⟩) (by simp[G,E,go_sem,r0,r1,r2,q0,q1,q2,cutV]) rfl ⟨by rw[h.o],(((d.o).setCell (J _ 2) _).setCell (J _ 2) _).setCell (J _ 2) _⟩
    .have h1:dI q r j=1:=rS j1.o (.inr g9);have j0:decide (r=0)=V:=by simp[g9]
     clear g9
     by_cases g:aM<B
     .have R:(9218868437227405311:Int)<(B:Int):=by unfold aM at g;omega
      have f:bH N l=⟨aM,1,V⟩:=by rw[g7.o];exact if_pos g
      have h:=A f;clear f g;go_wp2_with fail;exact H (v:=cutV ⟨aM,1,V⟩) (by simp[G,E,go_sem,r0,r1,r2,cutV,aM]) rfl ⟨by rw[h.o],(((d.o.setCell (p:=⟨C.heap.size,1,Z⟩) s.o (U O 1)).setCell (J _ 2) _).setCell (J _ 2) _).setCell (J _ 2) _⟩
     .have R:¬(9218868437227405311:Int)<(B:Int):=by unfold aM at g;omega
      have f:bH N l=⟨B,dI q r j, !fE q r j⟩:=by rw[g7.o];exact if_neg g
      rw[h1,h5]at f;have h:=A f;clear f g;go_wp2_with fail;exact H (v:=cutV ⟨B,1, !K⟩) (by simp[G,E,go_sem,r0,r1,r2,q0,q1,q2,cutV]) rfl ⟨by rw[h.o],(((d.o.setCell (p:=⟨C.heap.size,1,Z⟩) s.o (U O 1)).setCell (J _ 2) _).setCell (J _ 2) _).setCell (J _ 2) _⟩
   .have T:(q%2^(j-1)!=0)=K:=by simp[Q]
    have h1:dI q r j=1:=rS j1.o (.inl Q);rw[T];clear Q;have m:=h0.o (X #[I k7 k8 k9] 381);have i:=A (keep i.o m);have d:=A (chain d.o m);have P:=A (keep P.o m);clear m;obtain⟨r0,r1,r2,rf⟩:=cells3 i.o;obtain⟨q0,q1,q2,qf⟩:=cells3 P.o
    by_cases g:aM<B
    .have R:(9218868437227405311:Int)<(B:Int):=by unfold aM at g;omega
     have f:bH N l=⟨aM,1,V⟩:=by rw[g7.o];exact if_pos g
     have h:=A f;clear f g;go_wp2_with fail;exact H (v:=cutV ⟨aM,1,V⟩) (by simp[G,E,go_sem,r0,r1,r2,cutV,aM]) rfl ⟨by rw[h.o],(((d.o.setCell (p:=⟨C.heap.size,1,Z⟩) s.o (U O 1)).setCell (J _ 2) _).setCell (J _ 2) _).setCell (J _ 2) _⟩
    .have R:¬(9218868437227405311:Int)<(B:Int):=by unfold aM at g;omega
     have f:bH N l=⟨B,dI q r j, !fE q r j⟩:=by rw[g7.o];exact if_neg g
     rw[h1,h5]at f;have h:=A f;clear f g;go_wp2_with fail;exact H (v:=cutV ⟨B,1, !K⟩) (by simp[G,E,go_sem,r0,r1,r2,q0,q1,q2,cutV]) rfl ⟨by rw[h.o],(((d.o.setCell (p:=⟨C.heap.size,1,Z⟩) s.o (U O 1)).setCell (J _ 2) _).setCell (J _ 2) _).setCell (J _ 2) _⟩
  .have g8:q.testBit (j-1)=V:=by simpa using g8
   have h1:dI q r j= -1:=pD g8;rw[g8]
   by_cases g:aM<B
   .have R:(9218868437227405311:Int)<(B:Int):=by unfold aM at g;omega
    have f:bH N l=⟨aM,1,V⟩:=by rw[g7.o];exact if_pos g
    have h:=A f;clear f g;go_wp2_with fail;exact H (v:=cutV ⟨aM,1,V⟩) (by simp[G,E,go_sem,r0,r1,r2,cutV,aM]) rfl ⟨by rw[h.o],(((d.o).setCell (J _ 2) _).setCell (J _ 2) _).setCell (J _ 2) _⟩
   .have R:¬(9218868437227405311:Int)<(B:Int):=by unfold aM at g;omega
    have f:bH N l=⟨B,dI q r j, !fE q r j⟩:=by rw[g7.o];exact if_neg g
    rw[h1,h5]at f;have h:=A f;clear f g;go_wp2_with fail;exact H (v:=cutV ⟨B,-1, !K⟩) (by simp[G,E,go_sem,r0,r1,r2,q0,q1,q2,cutV,i1]) rfl ⟨by rw[h.o],(((d.o).setCell (J _ 2) _).setCell (J _ 2) _).setCell (J _ 2) _⟩
def uU(a n:Option Addr)(k o c m b d:Nat)(w:World)(h:Wds w (I a k c) (W b))(p:Wds w (I n o m) (W d))(i:b≠0)(j:d≠0)
 (g:S b<=4000)(l:S d<=5000)(f:S b<=S d+1500):
 Calls prog 234 #[.agg #[I a k c],.agg #[I n o m]] w λe w'=>e=ao (cutV (bH b d))/\ac w w w':=by
 by_cases q:S b<=S d+66
 .exact aHc a n k o c m b d w h p i j g l f q
 .exact aIA a n k o c m b d w h p i j g l f (by omega)
