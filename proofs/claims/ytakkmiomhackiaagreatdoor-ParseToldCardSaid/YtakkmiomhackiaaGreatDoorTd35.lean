/-
  The program, one part of its walk. Conditions: none.
-/
import Derived.Test.YtakkmiomhackiaaGreatDoorTd06
set_option linter.all false
set_option maxRecDepth 100000
set_option maxHeartbeats 16000000
open Go.Proofs.Tryz
open Bool renaming false->V,true->K
open Go renaming bodyPost_ret->H,cell_of_one->Z,heap_alloc_new->ar,lt_of_block->av,results->G
open Go.Ending renaming returned->ao
open Go.IntKind renaming i64->O,u64->ah
open Go.Obj renaming cells->Y
open Go.Proofs.Tryz renaming results234->E
open Go.Proofs.YtakkmiomhackiaaGreatDoor.Lim renaming bitlen->S,limbs->X,short->ag
open Go.Proofs.YtakkmiomhackiaaGreatDoor.Row renaming A8->aw
open Go.RowKit renaming Below->ac
open Go.RowKit.Below renaming refl->ae
open Go.Value renaming bool->ak,int->U,slice->I
open Nat renaming le_add_right->J,le_refl->ai,le_trans->aj,lt_of_lt_of_le->au
open Option renaming none->W,some->af
namespace Go.Proofs.YtakkmiomhackiaaGreatDoor
open Go.RowKit
theorem aHh(a a':Option Addr)(k k' c c' F l:Nat)(w:World)(f:Wds w (I a k c) (X F))(d:Wds w (I a' k' c') (X l))(hn0:F≠0)(hd0:l≠0)
 (hbn:S F<=4000)(hbd:S l<=5000)(T:S F<=S l+1500)(hcase:S l+66<S F):
 Calls prog 234 #[.agg #[I a k c],.agg #[I a' k' c']] w λe w'=>e=ao (cutV (bF F l))/\ac w.heap.size w w':=by
 have hln:(X F).length<=128:=ag (by omega);have HW:M (∀wx,ac w.heap.size w wx->Wds wx (I a k c) (X F)/\Wds wx (I a' k' c') (X l)):=λwx hx=>⟨f.A5 hx,d.A5 hx⟩
 clear f d;obtain⟨bn,d⟩:∃x,S F=x:=⟨_,rfl⟩;obtain⟨bd,f⟩:∃x,S l=x:=⟨_,rfl⟩;rw[d]at hbn T hcase;rw[f]at hbd T hcase;have HBN:=L d;have HBD:=L f;clear d f;have g:ac w.heap.size w (((w.alloc (Y #[I a k c] 381)).alloc (Y #[I a' k' c'] 381)).alloc (Y #[U ah 0,U O 0,ak V] 359)):=(((ae _ _).alloc (ai _) _).alloc (by simp) _).alloc (by simp;omega) _;obtain⟨g1,s,n,_,_⟩:=sC (ae (((w.alloc (Y #[I a k c] 381)).alloc (Y #[I a' k' c'] 381)).alloc (Y #[U ah 0,U O 0,ak V] 359)).heap.size _);go_enter func234,ntmps234;go_wp2_with fail;generalize ((w.alloc (Y #[I a k c] 381)).alloc (Y #[I a' k' c'] 381)).alloc (Y #[U ah 0,U O 0,ak V] 359)=w3 at*;have hc1:=Z g1;have hc2:=Z s;have h:w.heap.size<w3.heap.size:=by omega
 have i:w.heap.size+1<w3.heap.size:=by omega
 have G1:=L g1;have G2:=L s;have G3:=L n;clear g1 s n
 go_region_held3 (λw'=>w'.cell? ⟨w.heap.size,0,W⟩=af (I a k c)/\w'.cell? ⟨w.heap.size+1,0,W⟩=af (I a' k' c')) (first|exact⟨m,hx2⟩|exact⟨t,y⟩|go_keep)
  (first|(go_at_call 252;(with_reducible refine(lP a k c F _ _ (HW.o _ g.drew).1 HBN.o (by omega)).mono ?_);rintro e wx ⟨rfl,d⟩;have m:=(d.cell (p:=⟨w.heap.size,0,W⟩) (by simpa using h)).trans hc1;have hx2:=(d.cell (p:=⟨w.heap.size+1,0,W⟩) (by simpa using i)).trans hc2)|(go_at_call 252;(with_reducible refine(lP a' k' c' l _ _ (HW.o _ (chain g.drew d)).2 HBD.o (by omega)).mono ?_);rintro e A ⟨rfl,f⟩;have t:=(f.cell (p:=⟨w.heap.size,0,W⟩) (by simpa using au h d.size)).trans m;have y:=(f.cell (p:=⟨w.heap.size+1,0,W⟩) (by simpa using au i d.size)).trans hx2))
 have HBF:=L (chain (chain g.drew d) f);have g1:=keep (keep (w1:=w3.drew) G1.o d) f;have s:=keep (keep (w1:=w3.drew) G2.o d) f;have n:=keep (keep (w1:=w3.drew) G3.o d) f;clear d f m hx2 t y hc1 hc2 g G1 G2 G3 h i;have hr1:O.wrap ((bn:Int)-(bd:Int))=(bn:Int)-(bd:Int):=wr (by omega) (by omega);have G1:=L g1;have G2:=L s;have G3:=L n;clear g1 s n;obtain⟨u,hu⟩:∃u:Nat,(66:Int)-((bn:Int)-(bd:Int))= -(u:Int):=⟨(((bn:Int)-(bd:Int))-66).toNat,by omega⟩;have hr2:O.wrap (-(u:Int))= -(u:Int):=wr (by omega) (by omega);have hr3:O.wrap (u:Int)=(u:Int):=wr (by omega) (by omega);have hup0:¬(0:Int)<= -(u:Int):=by omega
 have hup1:¬(u:Int)<=0:=by omega
 have hup2:¬u=0:=by omega
 have hu2:u<=1500:=by omega
 have HU:M (mZ F l= -(u:Int)):=L (by unfold mZ;rw[HBN.o,HBD.o,hu]);have d:S l+u<=8192:=by rw[HBD.o];omega
 have f:bF F l=j4 (F/(l*2^u)) (F%(l*2^u)) (-(u:Int)):=by
  unfold bF;rw[HU.o];have y:(-(u:Int)).toNat=0:=by omega
  have A:(- -(u:Int)).toNat=u:=by omega
  rw[y,A];simp
 have g:=L d;have h:=L f;clear d f;go_wp2_with fail;refine(aFg a' k' c' l u _ (HW.o _ HBF.o).2 g.o).mono ?_;rintro e w4 ⟨ad,kd,cd,rfl,m,d⟩;have s:=(HW.o _ (chain HBF.o d)).1;have hc1:=Z (keep G1.o d);have hc2:=Z (keep G2.o d);have hf2:=free_of_one (keep G2.o d);have R:=L ((aE (w:=w4) (o:=0) (k:=w.heap.size) (b:=w.heap.size+1) (I ad kd cd) (by omega)).trans (keep G1.o d));have hF2:=L (aB (o:=0) (keep G2.o d) (I ad kd cd));have i:=L ((aE (w:=w4) (o:=0) (k:=w.heap.size+2) (b:=w.heap.size+1) (I ad kd cd) (by omega)).trans (keep G3.o d));have C:=L ((chain HBF.o d).setCell (p:=⟨w.heap.size+1,0,W⟩) (Nat.le_succ _) (I ad kd cd));have P:=L (s.D6 (keep G2.o d) (by decide) 0 (I ad kd cd));have t:=L (m.D6 (keep G2.o d) (by decide) 0 (I ad kd cd));clear s m d;go_wp2_with fail;have hs5:=av i.o;generalize w4.setCell ⟨w.heap.size+1,0,W⟩ (I ad kd cd)=w5 at*;obtain⟨D,d⟩:∃D,l*2^u=D:=⟨_,rfl⟩;obtain⟨N,rfl⟩:∃N,N=F:=⟨_,rfl⟩;have Q:S N=S D+66:=by rw[<-d,mJ hd0,HBN.o,HBD.o];omega
 have hNN:S N<=8192:=by rw[HBN.o];omega
 have hDD:S D<=8192:=by rw[<-d,mJ hd0,HBD.o];omega
 have hD0:D≠0:=by rw[<-d];exact Nat.mul_ne_zero hd0 (Nat.ne_of_gt (Nat.two_pow_pos _))
 have f:=h.o;rw[d]at t f;clear d hu g h;have d:(X N).length<=1048576:=aj (ag (k:=256) (by omega)) (by decide);have g:(X D).length<=1048576:=aj (ag (k:=256) (by omega)) (by decide);obtain⟨hq1,hq2⟩:=aBs hD0 Q;refine(aFh _ _ _ _ _ _ N D w5 P.o t.o d g hD0).mono ?_;rintro e w6 ⟨aq,kq,cq,al,kl,cl,rfl,h,m,hb6⟩;have s:=chain C.o hb6;have n:=keep i.o hb6;clear R hF2 i C P t d g;obtain⟨va,vc,hve⟩:=aw h;injection hve with y A e3
 subst y A e3;obtain⟨va,vc,hve⟩:=aw m;injection hve with y A e3
 subst y A e3;obtain⟨q,i⟩:∃q,N/D=q:=⟨_,rfl⟩;obtain⟨r,g⟩:∃r,N%D=r:=⟨_,rfl⟩;rw[i]at h hq1 hq2 f;rw[g]at m f;simp only[i,g];have d:N%D<D:=Nat.mod_lt _ (by omega);rw[g]at d;clear i g Q;obtain⟨bq,g⟩:∃b,S q=b:=⟨_,rfl⟩;rw[g]at hq1 hq2;have HBQ:=L g;clear g;obtain⟨br,i⟩:∃b,S r=b:=⟨_,rfl⟩;have HBR:=L i
 have hbr2:br<=9000:=by
  have g:=Lim.bitlen_mono (Nat.le_of_lt d);omega
 have hbrN:decide (0<br)=!decide (r=0):=by rw[<-i];exact aBt r
 clear i d;obtain⟨kk,hkk⟩:∃z,max ((bq:Int)-53- -(u:Int)) (-1074)=z:=⟨_,rfl⟩;obtain⟨j,hj⟩:∃j:Nat,kk+ -(u:Int)=(j:Int):=⟨(kk+ -(u:Int)).toNat,by omega⟩;obtain⟨x,hx⟩:∃x:Nat,kk+1074=(x:Int):=⟨(kk+1074).toNat,by omega⟩;have hj1:13<=j:=by omega
 have hj2:j<=6000:=by omega
 have hx2:x<=3000:=by omega
 have hjb:bq<=53+j:=by omega
 have d:aBr (q/2^j)=ao (.tuple #[U ah ((q/2^j:Nat):Int),ak K]):=if_pos (by have:=sG HBQ.o hjb;omega);have HWE:=L d;clear d;obtain⟨B,i⟩:∃B:Nat,x*4503599627370496+q/2^j=B:=⟨_,rfl⟩;have hB64:ah.wrap ((x:Int)*4503599627370496+(q:Int)/2^j)=(B:Int):=yW i hx2 (sG HBQ.o hjb);have hjt:((j:Int)-1).toNat=j-1:=by omega
 have d:=f.trans (aHM (q:=q) (r:=r) (by rw[HBQ.o];exact hkk) hj hx);rw[i]at d;have HRA:=L d;clear i d;obtain⟨A,C,d⟩:=aKn w6 (Y #[I aq (X q).length cq] 381) (Y #[I al (X r).length cl] 381);have h:=h.A5 d;have m:=m.A5 d;have n:=keep n d;have hs6:w.heap.size+3<=w6.heap.size:=by have:=hb6.size;omega
 have s:=chain s d;clear d;have HKK:=L hkk;have t:=L A;have y:=L C;have i:=L n;have d:=L s;clear f n s A C;have hv1:O.wrap ((bq:Int)-53)=(bq:Int)-53:=wr (by omega) (by omega);have hv2:O.wrap ((bq:Int)-53- -(u:Int))=(bq:Int)-53- -(u:Int):=wr (by omega) (by omega);have hv2':O.wrap ((bq:Int)-53+(u:Int))=(bq:Int)-53+(u:Int):=wr (by omega) (by omega);have hkk':max ((bq:Int)-53+(u:Int)) (-1074)=kk:=by rw[<-HKK.o];congr 1;omega
 have hv3:O.wrap (j:Int)=(j:Int):=wr (by omega) (by omega);have hv4:O.wrap ((j:Int)-1)=(j:Int)-1:=wr (by omega) (by omega);have hv5:O.wrap (x:Int)=(x:Int):=wr (by omega) (by omega);have n:=L h;have C:=L m;clear h m;go_wp2_with fail;refine(lP aq _ cq q bq _ n.o HBQ.o (by omega)).mono ?_;rintro e w7 ⟨rfl,f⟩;have t:=L (keep t.o f);have y:=L (keep y.o f);have i:=L (keep i.o f);have d:=L (chain d.o f);have n:=L (n.o.A5 f);have C:=L (C.o.A5 f);clear f;have hd1:=Z t.o;go_wp2_with fail;refine(uI aq _ cq q j _ n.o (aj (ag (k:=2) (by rw[HBQ.o];omega)) (by decide)) (by omega)).mono ?_;rintro e w8 ⟨am,km,cm,rfl,h,f⟩;have t:=L (keep t.o f);have y:=L (keep y.o f);have i:=L (keep i.o f);have d:=L (chain d.o f);have n:=L (n.o.A5 f);have C:=L (C.o.A5 f);have hwM:=L h;have m:(X (q/2^j)).length<=4294967296:=aj (Lim.limbs_length_le (k:=1) (by have:=sG HBQ.o hjb;omega)) (by decide);have HML:=L m;clear f h hd1 m;have f:ac w8.heap.size w8 (w8.alloc (Y #[I am km cm] 381)):=(ae _ _).alloc (ai _) _;have HM9:=L (ar w8 (Y #[I am km cm] 381));have t:=L (keep t.o f);have y:=L (keep y.o f);have i:=L (keep i.o f);have d:=L (chain d.o f);have n:=L (n.o.A5 f);have C:=L (C.o.A5 f);have hwM:=L (hwM.o.A5 f);have hd2:=Z y.o;have hd3:=Z HM9.o;clear f
 by_cases Q:q%2^j=0
 .have T:(q%2^j !=0)=V:=by simp[Q]
  have htb:q.testBit (j-1)=V:=aBu (by omega) Q;have hL1:fB q r j=decide (r≠0):=by unfold fB;simp[Q]
  have hH1:dE q r j= -1:=oJ htb;rw[T];go_wp2_with fail;refine(lP al _ cl r br _ C.o HBR.o (by omega)).mono ?_;rintro e w10 ⟨rfl,f⟩;have t:=L (keep t.o f);have y:=L (keep y.o f);have i:=L (keep i.o f);have d:=L (chain d.o f);have n:=L (n.o.A5 f);have C:=L (C.o.A5 f);have hwM:=L (hwM.o.A5 f);have HM9:=L (keep HM9.o f);clear f hd2 hd3 Q;have hd3:=Z HM9.o;go_wp2_with fail;refine(oI am km cm (q/2^j) _ hwM.o HML.o).mono ?_;rintro e A ⟨he,s⟩;subst he;rw[HWE.o];have t:=L (keep t.o s);have y:=L (keep y.o s);have i:=L (keep i.o s);have d:=L (chain d.o s);have n:=L (n.o.A5 s);have C:=L (C.o.A5 s);clear s;have hal:∀o,ac A.heap.size A (A.alloc o):=λo=>(ae _ _).alloc (ai _) _
  have hd1:∀o,(A.alloc o).cell? ⟨w6.heap.size,0,W⟩=af (I aq (X q).length cq):=λo=>Z (keep t.o (hal o))
  have HAL:=L hal;clear hal;go_wp2_with fail;refine(qG aq cq q ((j:Int)-1) _ (n.o.A5 (HAL.o _)) (by omega) (by omega)).mono ?_;rintro e w13 ⟨rfl,m⟩;have P:=L (keep (ar A _) m);have m:=(HAL.o _).trans (m.mono (by simp));have i:=L (keep i.o m);have d:=L (chain d.o m);clear m hd1;obtain⟨r0,r1,r2,rf⟩:=cells3 i.o;obtain⟨q0,q1,q2,-⟩:=cells3 P.o;rw[hjt];rw[htb]
  by_cases g:aJ<B
  .have R:(9218868437227405311:Int)<(B:Int):=by unfold aJ at g;omega
   have f:bF N l=⟨aJ,1,V⟩:=by rw[HRA.o];exact if_pos g
   have h:=L f;clear f g;go_wp2_with fail;exact H (v:=cutV ⟨aJ,1,V⟩) (by simp[G,E,go_sem,r0,r1,r2,cutV,aJ]) rfl ⟨by rw[h.o],(((d.o).setCell (J _ 2) _).setCell (J _ 2) _).setCell (J _ 2) _⟩
  .have R:¬(9218868437227405311:Int)<(B:Int):=by unfold aJ at g;omega
   have f:bF N l=⟨B,dE q r j, !fB q r j⟩:=by rw[HRA.o];exact if_neg g
   rw[hH1,hL1]at f;have h:=L f;clear f g;go_wp2_with fail;exact H (v:=cutV ⟨B,-1, !decide (r≠0)⟩) (by simp[G,E,go_sem,r0,r1,r2,q0,q1,q2,cutV,hbrN]) rfl ⟨by rw[h.o],(((d.o).setCell (J _ 2) _).setCell (J _ 2) _).setCell (J _ 2) _⟩
 .have T:(q%2^j !=0)=K:=by simp[Q]
  have hL1:fB q r j=K:=by unfold fB;simp[Q]
  rw[T];clear Q;go_wp2_with fail;refine(oI am km cm (q/2^j) _ hwM.o HML.o).mono ?_;rintro e A ⟨he,s⟩;subst he;rw[HWE.o];have t:=L (keep t.o s);have y:=L (keep y.o s);have i:=L (keep i.o s);have d:=L (chain d.o s);have n:=L (n.o.A5 s);have C:=L (C.o.A5 s);have hs11:=av y.o;clear s;have hal:∀o,ac A.heap.size A (A.alloc o):=λo=>(ae _ _).alloc (ai _) _
  have hd1:∀o,(A.alloc o).cell? ⟨w6.heap.size,0,W⟩=af (I aq (X q).length cq):=λo=>Z (keep t.o (hal o))
  have HAL:=L hal;clear hal;go_wp2_with fail;refine(qG aq cq q ((j:Int)-1) _ (n.o.A5 (HAL.o _)) (by omega) (by omega)).mono ?_;rintro e w13 ⟨rfl,m⟩;have P:=L (keep (ar A _) m);have m:=(HAL.o _).trans (m.mono (by simp));have t:=L (keep t.o m);have y:=L (keep y.o m);have i:=L (keep i.o m);have d:=L (chain d.o m);have n:=L (n.o.A5 m);have C:=L (C.o.A5 m);clear m hd1;obtain⟨r0,r1,r2,rf⟩:=cells3 i.o;obtain⟨q0,q1,q2,qf⟩:=cells3 P.o;rw[hjt]
  by_cases htb:q.testBit (j-1)=K
  .have HTB:=L htb;rw[htb];clear htb;have HNE1:M (w6.heap.size≠A.heap.size):=L (by omega);have HNE2:M (w6.heap.size+1≠A.heap.size):=L (by omega);have HNE3:M (w.heap.size+2≠A.heap.size):=L (by omega);have s:M (w.heap.size<=A.heap.size):=L (by omega);have hd1:(w13.setCell ⟨A.heap.size,1,W⟩ (U O 0)).cell? ⟨w6.heap.size,0,W⟩=af (I aq (X q).length cq):=Z ((aE (o:=1) (U O 0) HNE1.o).trans t.o);go_wp2_with fail;have t:=L ((aE (o:=1) (U O 0) HNE1.o).trans t.o);have y:=L ((aE (o:=1) (U O 0) HNE2.o).trans y.o);have i:=L ((aE (o:=1) (U O 0) HNE3.o).trans i.o);have d:=L (d.o.setCell (p:=⟨A.heap.size,1,W⟩) s.o (U O 0));have n:=L (n.o.D6 P.o (by decide) 1 (U O 0));have C:=L (C.o.D6 P.o (by decide) 1 (U O 0));have P:=L (aB (o:=1) P.o (U O 0));clear hd1 r0 r1 r2 rf q0 q1 q2 qf;have m:((j:Int)-1)=((j-1:Nat):Int):=by omega
   have hv6:O.wrap ((j-1:Nat):Int)=((j-1:Nat):Int):=wr (by omega) (by omega);rw[m];clear m;refine(uI aq _ cq q (j-1) _ n.o (aj (ag (k:=2) (by rw[HBQ.o];omega)) (by decide)) (by omega)).mono ?_;rintro e w15 ⟨am2,km2,cm2,rfl,_,m⟩;have t:=L (keep t.o m);have y:=L (keep y.o m);have i:=L (keep i.o m);have d:=L (chain d.o m);have n:=L (n.o.A5 m);have C:=L (C.o.A5 m);have P:=L (keep P.o m);clear m;have hal:∀o,ac w15.heap.size w15 (w15.alloc o):=λo=>(ae _ _).alloc (ai _) _
   have HAL:=L hal;clear hal
   by_cases Q:q%2^(j-1)=0
   .have T:(q%2^(j-1)!=0)=V:=by simp[Q]
    have hd2:∀o,(w15.alloc o).cell? ⟨w6.heap.size+1,0,W⟩=af (I al (X r).length cl):=λo=>Z (keep y.o (HAL.o o))
    have HQJ:=L Q;rw[T];clear Q;go_wp2_with fail;refine(lP al _ cl r br _ (C.o.A5 (HAL.o _)) HBR.o (by omega)).mono ?_;rintro e w16 ⟨rfl,m⟩;have m:=(HAL.o _).trans (m.mono (by simp));have i:=L (keep i.o m);have d:=L (chain d.o m);have P:=L (keep P.o m);clear m hd2;obtain⟨r0,r1,r2,rf⟩:=cells3 i.o;obtain⟨q0,q1,q2,qf⟩:=cells3 P.o
    by_cases hr0:r=0
    .have hH1:dE q r j=0:=yX HTB.o HQJ.o hr0;have hrd:decide (r=0)=K:=by simp[hr0]
     clear hr0
     by_cases g:aJ<B
     .have R:(9218868437227405311:Int)<(B:Int):=by unfold aJ at g;omega
      have f:bF N l=⟨aJ,1,V⟩:=by rw[HRA.o];exact if_pos g
      have h:=L f;clear f g;go_wp2_with fail;exact H (v:=cutV ⟨aJ,1,V⟩) (by simp[G,E,go_sem,r0,r1,r2,cutV,aJ]) rfl ⟨by rw[h.o],(((d.o).setCell (J _ 2) _).setCell (J _ 2) _).setCell (J _ 2) _⟩
     .have R:¬(9218868437227405311:Int)<(B:Int):=by unfold aJ at g;omega
      have f:bF N l=⟨B,dE q r j, !fB q r j⟩:=by rw[HRA.o];exact if_neg g
      rw[hH1,hL1]at f;have h:=L f;clear f g;go_wp2_with fail;exact H (v:=cutV ⟨B,0, !K⟩) (by simp[G,E,go_sem,r0,r1,r2,q0,q1,q2,cutV]) rfl ⟨by rw[h.o],(((d.o).setCell (J _ 2) _).setCell (J _ 2) _).setCell (J _ 2) _⟩
    .have hH1:dE q r j=1:=qJ HTB.o (.inr hr0);have hrd:decide (r=0)=V:=by simp[hr0]
     clear hr0
     by_cases g:aJ<B
     .have R:(9218868437227405311:Int)<(B:Int):=by unfold aJ at g;omega
      have f:bF N l=⟨aJ,1,V⟩:=by rw[HRA.o];exact if_pos g
      have h:=L f;clear f g;go_wp2_with fail;exact H (v:=cutV ⟨aJ,1,V⟩) (by simp[G,E,go_sem,r0,r1,r2,cutV,aJ]) rfl ⟨by rw[h.o],(((d.o.setCell (p:=⟨A.heap.size,1,W⟩) s.o (U O 1)).setCell (J _ 2) _).setCell (J _ 2) _).setCell (J _ 2) _⟩
     .have R:¬(9218868437227405311:Int)<(B:Int):=by unfold aJ at g;omega
      have f:bF N l=⟨B,dE q r j, !fB q r j⟩:=by rw[HRA.o];exact if_neg g
      rw[hH1,hL1]at f;have h:=L f;clear f g;go_wp2_with fail;exact H (v:=cutV ⟨B,1, !K⟩) (by simp[G,E,go_sem,r0,r1,r2,q0,q1,q2,cutV]) rfl ⟨by rw[h.o],(((d.o.setCell (p:=⟨A.heap.size,1,W⟩) s.o (U O 1)).setCell (J _ 2) _).setCell (J _ 2) _).setCell (J _ 2) _⟩
   .have T:(q%2^(j-1)!=0)=K:=by simp[Q]
    have hH1:dE q r j=1:=qJ HTB.o (.inl Q);rw[T];clear Q;have m:=HAL.o (Y #[I am2 km2 cm2] 381);have i:=L (keep i.o m);have d:=L (chain d.o m);have P:=L (keep P.o m);clear m;obtain⟨r0,r1,r2,rf⟩:=cells3 i.o;obtain⟨q0,q1,q2,qf⟩:=cells3 P.o
    by_cases g:aJ<B
    .have R:(9218868437227405311:Int)<(B:Int):=by unfold aJ at g;omega
     have f:bF N l=⟨aJ,1,V⟩:=by rw[HRA.o];exact if_pos g
     have h:=L f;clear f g;go_wp2_with fail;exact H (v:=cutV ⟨aJ,1,V⟩) (by simp[G,E,go_sem,r0,r1,r2,cutV,aJ]) rfl ⟨by rw[h.o],(((d.o.setCell (p:=⟨A.heap.size,1,W⟩) s.o (U O 1)).setCell (J _ 2) _).setCell (J _ 2) _).setCell (J _ 2) _⟩
    .have R:¬(9218868437227405311:Int)<(B:Int):=by unfold aJ at g;omega
     have f:bF N l=⟨B,dE q r j, !fB q r j⟩:=by rw[HRA.o];exact if_neg g
     rw[hH1,hL1]at f;have h:=L f;clear f g;go_wp2_with fail;exact H (v:=cutV ⟨B,1, !K⟩) (by simp[G,E,go_sem,r0,r1,r2,q0,q1,q2,cutV]) rfl ⟨by rw[h.o],(((d.o.setCell (p:=⟨A.heap.size,1,W⟩) s.o (U O 1)).setCell (J _ 2) _).setCell (J _ 2) _).setCell (J _ 2) _⟩
  .have htb:q.testBit (j-1)=V:=by simpa using htb
   have hH1:dE q r j= -1:=oJ htb;rw[htb]
   by_cases g:aJ<B
   .have R:(9218868437227405311:Int)<(B:Int):=by unfold aJ at g;omega
    have f:bF N l=⟨aJ,1,V⟩:=by rw[HRA.o];exact if_pos g
    have h:=L f;clear f g;go_wp2_with fail;exact H (v:=cutV ⟨aJ,1,V⟩) (by simp[G,E,go_sem,r0,r1,r2,cutV,aJ]) rfl ⟨by rw[h.o],(((d.o).setCell (J _ 2) _).setCell (J _ 2) _).setCell (J _ 2) _⟩
   .have R:¬(9218868437227405311:Int)<(B:Int):=by unfold aJ at g;omega
    have f:bF N l=⟨B,dE q r j, !fB q r j⟩:=by rw[HRA.o];exact if_neg g
    rw[hH1,hL1]at f;have h:=L f;clear f g;go_wp2_with fail;exact H (v:=cutV ⟨B,-1, !K⟩) (by simp[G,E,go_sem,r0,r1,r2,q0,q1,q2,cutV,hbrN]) rfl ⟨by rw[h.o],(((d.o).setCell (J _ 2) _).setCell (J _ 2) _).setCell (J _ 2) _⟩
theorem s9(a n:Option Addr)(k o c m b d:Nat)(w:World)(h:Wds w (I a k c) (X b))(p:Wds w (I n o m) (X d))(i:b≠0)(j:d≠0)
 (g:S b<=4000)(l:S d<=5000)(f:S b<=S d+1500):
 Calls prog 234 #[.agg #[I a k c],.agg #[I n o m]] w λe w'=>e=ao (cutV (bF b d))/\ac w.heap.size w w':=by
 by_cases q:S b<=S d+66
 .exact aFU a n k o c m b d w h p i j g l f q
 .exact aHh a n k o c m b d w h p i j g l f (by omega)
end Go.Proofs.YtakkmiomhackiaaGreatDoor
