/-
  The program, one part of its walk. Conditions: none.
-/
import Derived.Test.YtakkmiomhackiaaGreatDoorTd02
import Derived.Test.YtakkmiomhackiaaGreatDoorTd05
set_option linter.all false
set_option maxRecDepth 100000
set_option maxHeartbeats 16000000
open Go.Proofs.Tryz
open Bool renaming false->W,true->H
open Go renaming World->ak,bodyPost_ret->G,cell_of_one->K,free_of_one->bp,heap_alloc_new->ar,lt_of_block->bc,results->E
open Go.Ending renaming returned->bg
open Go.IntKind renaming i64->S,u64->ai,wrap_i64->bz,wrap_u64->cg
open Go.Obj renaming cells->X
open Go.Proofs.Tryz renaming results234->ac
open Go.Proofs.YtakkmiomhackiaaGreatDoor.Lim renaming bitlen->I,bitlen_gt->bh,bitlen_le->aw,limbs->Y,lt_bitlen->az,short->aj
open Go.Proofs.YtakkmiomhackiaaGreatDoor.Row renaming A8->bx
open Go.RowKit renaming Below->ae
open Go.RowKit.Below renaming heap_alloc->bm,refl->ag
open Go.Value renaming agg->ao,bool->av,int->U,slice->J
open Nat renaming div_lt_of_lt_mul->bw,le_add_right->O,le_of_lt->bu,le_refl->ah,le_trans->af,lt_of_lt_of_le->ba,mul_le_mul_right->bs,pow_add->au,testBit_eq_decide_div_mod_eq->bj,two_pow_pos->bk
open Option renaming none->V,some->Z
namespace Go.Proofs.YtakkmiomhackiaaGreatDoor
open Go.RowKit
theorem aKx(n:Nat):10^n<2^(4*n+1):=by
 have h:10^n<=16^n:=Nat.pow_le_pow_left (by decide) n;have e:16^n=2^(4*n):=by rw[Nat.pow_mul]
 rw[Nat.pow_succ];have:=bk (4*n);omega
theorem gY(n:Nat):I (10^n)<=4*n+1:=aw.2 (aKx n)
theorem aAt(n:Nat)(w:ak)(s:n<=1300):Calls prog 233 #[U S n] w λe w'=>aAq w (10^n) e w':=by
 have d:I (10^n)<=8192:=af (gY n) (by omega);have o:=L (aFR 10 n);have m:=L d;clear d;go_enter func233,ntmps233;go_wp2_with fail;refine(o.o _ (by decide) (by decide) (by omega) m.o).mono ?_;rintro e w1 ⟨a,k,c,rfl,j,l⟩;obtain⟨i,f,p⟩:=after1 l;have b:(w1.alloc (X #[J a k c] 381)).heap[w.heap.size]?=Z (X #[J V 0 0] 381 (0,0)):=(bm _ _ _ (bc i)).trans i;have g:=K b;have r:=bp b;have h:=L b;have q:=L j;clear j i b;go_wp2;exact G (v:=ao #[J a k c]) (by simp[E,results233,go_sem,g]) rfl ⟨a,k,c,rfl,(q.o.A4 _).D6 h.o (by decide) _ _,(f.alloc (by omega) _).setCell (by simp) _⟩
theorem aKn(w:ak)(o1 a:Obj):((w.alloc o1).alloc a).heap[w.heap.size]?=Z o1/\((w.alloc o1).alloc a).heap[w.heap.size+1]?=Z a/\ae w.heap.size w ((w.alloc o1).alloc a):=by
 refine⟨(bm _ _ _ (by simp)).trans (ar w _),?_,((ag _ _).alloc (ah _) _).alloc (by simp) _⟩;have:=ar (w.alloc o1) a
 simpa using this
theorem wr{z:Int}(a: -9223372036854775808<=z)(b:z<=9223372036854775807):S.wrap z=z:=by rw[bz];omega
theorem lP(a:Option Addr)(k c n b:Nat)(w:ak)(h:Wds w (J a k c) (Y n))(d:I n=b)(f:b<=100000):Calls prog 252 #[ao #[J a k c]] w λe w'=>
 e=bg (U S (b:Nat))/\ae w.heap.size w w':=by
 subst d;exact uH a k c n w h (af (aj (k:=100000) (by omega)) (by decide))
theorem kP{n:Nat}(h:n≠0):0<I n:=by
 rcases Nat.eq_zero_or_pos (I n)with a|a
 .have:=aw.1 (Nat.le_of_eq a);simp at this;omega
 .exact a
theorem lQ{n:Nat}(h:n≠0):2^(I n-1)<=n:=bh.1 (by have:=kP h;omega)
theorem mJ{n:Nat}(h:n≠0)(k:Nat):I (n*2^k)=I n+k:=by
 have a:=kP h;refine Nat.le_antisymm ?_ ?_
 .rw[aw,au];exact Nat.mul_lt_mul_of_pos_right az (bk k)
 .have:I n+k-1<I (n*2^k):=by
   rw[bh,show I n+k-1=(I n-1)+k by omega,au];exact bs _ (lQ h)
  omega
theorem aBs{N D:Nat}(c:D≠0)(h:I N=I D+66):66<=I (N/D)/\I (N/D)<=67:=by
 have f:N≠0:=by intro e;subst e;have:I 0=0:=rfl;omega
 have g:=kP c;have a:=lQ f;have d:=lQ c;constructor
 .have:65<I (N/D):=by
   rw[bh,Nat.le_div_iff_mul_le (by omega)];have b:2^65*D<=2^65*2^I D:=Nat.mul_le_mul_left _ (bu az);rw[<-au]at b;rw[show I N-1=65+I D by omega]at a;exact af b a
  omega
 .rw[aw];refine bw ?_;refine ba az ?_;rw[h,show I D+66=(I D-1)+67 by omega,au];exact bs _ d
theorem sG{q b j:Nat}(c:I q=b)(h:b<=53+j):q/2^j<9007199254740992:=by
 refine bw ?_;have a:q<2^b:=c▸az;refine ba a ?_;rw[show 9007199254740992=2^53 from rfl,Nat.mul_comm,<-au];exact Nat.pow_le_pow_right (by decide) (by omega)
theorem aFi(r:Nat):decide ((0:Int)<(I r:Int))=decide (r≠0):=by
 by_cases h:r=0
 .subst h;rfl
 .have:=kP h;simp[h,this]
theorem aBt(r:Nat):decide (0<I r)=!decide (r=0):=by
 by_cases h:r=0
 .subst h;rfl
 .have:=kP h;simp[h,this]
theorem yW{x q j B:Nat}(b:x*4503599627370496+q/2^j=B)(c:x<=3000)(a:q/2^j<9007199254740992):ai.wrap ((x:Int)*4503599627370496+(q:Int)/2^j)=(B:Int):=by
 have e:(q:Int)/2^j=((q/2^j:Nat):Int):=by simp
 rw[cg,e];omega
theorem cells3{w:ak}{b:Nat}{d c a:Value}{T:TypeId}(h:w.heap[b]?=Z (X #[d,c,a] T (0,0))):w.cell? ⟨b,0,V⟩=Z d/\w.cell? ⟨b,1,V⟩=Z c/\w.cell? ⟨b,2,V⟩=Z a/\∀o,w.frozen? ⟨b,o,V⟩=W:=
 ⟨aA h,aA h,aA h,free_at h⟩
theorem aBu{q j:Nat}(b:1<=j)(h:q%2^j=0):q.testBit (j-1)=W:=by
 obtain⟨c,a⟩:=Nat.dvd_of_mod_eq_zero h;rw[a,Nat.testBit_two_pow_mul];simp;omega
def dE(q r j:Nat):Int:=if q/2^(j-1)%2=1 then(if q%2^(j-1)≠0\/r≠0 then 1 else 0)else -1
theorem oJ{q r j:Nat}(h:q.testBit (j-1)=W):dE q r j= -1:=by
 unfold dE;rw[if_neg];intro a;rw[bj]at h;simp[a]at h
theorem yX{q r j:Nat}(h:q.testBit (j-1)=H)(a:q%2^(j-1)=0)(b:r=0):dE q r j=0:=by
 rw[bj]at h;unfold dE;rw[if_pos (by simpa using h),if_neg (by simp[a,b])]
theorem qJ{q r j:Nat}(h:q.testBit (j-1)=H)(a:q%2^(j-1)≠0\/r≠0):dE q r j=1:=by
 rw[bj]at h;unfold dE;rw[if_pos (by simpa using h),if_pos a]
def fB(q r j:Nat):Bool:=decide (q%2^j≠0)||decide (r≠0)
theorem aHM{q r:Nat}{b a:Int}{j x:Nat}(c:max ((I q:Int)-53-b) (-1074)=a)(d:a+b=(j:Int))(e:a+1074=(x:Int)):
 j4 q r b=if aJ<x*4503599627370496+q/2^j then⟨aJ,1,W⟩else⟨x*4503599627370496+q/2^j,dE q r j, !fB q r j⟩:=by
 unfold j4 dE fB;simp only[c,d,e,Int.toNat_natCast]
def cutV(c:Cut):Value:=ao #[U ai (c.bits:Int),U S c.half,av c.exact]
theorem aFU(a a':Option Addr)(k k' c c' l F:Nat)(w:ak)(f:Wds w (J a k c) (Y l))(d:Wds w (J a' k' c') (Y F))(hn0:l≠0)(hd0:F≠0)
 (hbn:I l<=4000)(hbd:I F<=5000)(T:I l<=I F+1500)(hcase:I l<=I F+66):
 Calls prog 234 #[ao #[J a k c],ao #[J a' k' c']] w λe w'=>e=bg (cutV (bF l F))/\ae w.heap.size w w':=by
 have hld:(Y F).length<=128:=aj (by omega);have HW:M (∀wx,ae w.heap.size w wx->Wds wx (J a k c) (Y l)/\Wds wx (J a' k' c') (Y F)):=λwx hx=>⟨f.A5 hx,d.A5 hx⟩
 clear f d;obtain⟨bn,d⟩:∃x,I l=x:=⟨_,rfl⟩;obtain⟨bd,f⟩:∃x,I F=x:=⟨_,rfl⟩;rw[d]at hbn T hcase;rw[f]at hbd T hcase;have HBN:=L d;have HBD:=L f;clear d f;have g:ae w.heap.size w (((w.alloc (X #[J a k c] 381)).alloc (X #[J a' k' c'] 381)).alloc (X #[U ai 0,U S 0,av W] 359)):=(((ag _ _).alloc (ah _) _).alloc (by simp) _).alloc (by simp;omega) _;obtain⟨g1,s,n,_,_⟩:=sC (ag (((w.alloc (X #[J a k c] 381)).alloc (X #[J a' k' c'] 381)).alloc (X #[U ai 0,U S 0,av W] 359)).heap.size _);go_enter func234,ntmps234;go_wp2_with fail;generalize ((w.alloc (X #[J a k c] 381)).alloc (X #[J a' k' c'] 381)).alloc (X #[U ai 0,U S 0,av W] 359)=w3 at*;have hc1:=K g1;have hc2:=K s;have h:w.heap.size<w3.heap.size:=by omega
 have i:w.heap.size+1<w3.heap.size:=by omega
 have G1:=L g1;have G2:=L s;have G3:=L n;clear g1 s n
 go_region_held3 (λw'=>w'.cell? ⟨w.heap.size,0,V⟩=Z (J a k c)/\w'.cell? ⟨w.heap.size+1,0,V⟩=Z (J a' k' c')) (first|exact⟨m,hx2⟩|exact⟨t,y⟩|go_keep)
  (first|(go_at_call 252;(with_reducible refine(lP a k c l _ _ (HW.o _ g.drew).1 HBN.o (by omega)).mono ?_);rintro e wx ⟨rfl,d⟩;have m:=(d.cell (p:=⟨w.heap.size,0,V⟩) (by simpa using h)).trans hc1;have hx2:=(d.cell (p:=⟨w.heap.size+1,0,V⟩) (by simpa using i)).trans hc2)|(go_at_call 252;(with_reducible refine(lP a' k' c' F _ _ (HW.o _ (chain g.drew d)).2 HBD.o (by omega)).mono ?_);rintro e A ⟨rfl,f⟩;have t:=(f.cell (p:=⟨w.heap.size,0,V⟩) (by simpa using ba h d.size)).trans m;have y:=(f.cell (p:=⟨w.heap.size+1,0,V⟩) (by simpa using ba i d.size)).trans hx2))
 have HBF:=L (chain (chain g.drew d) f);have g1:=keep (keep (w1:=w3.drew) G1.o d) f;have s:=keep (keep (w1:=w3.drew) G2.o d) f;have n:=keep (keep (w1:=w3.drew) G3.o d) f;clear d f m hx2 t y hc1 hc2 g G1 G2 G3 h i;have hr1:S.wrap ((bn:Int)-(bd:Int))=(bn:Int)-(bd:Int):=wr (by omega) (by omega);have G1:=L g1;have G2:=L s;have G3:=L n;clear g1 s n;obtain⟨u,R⟩:∃u:Nat,(66:Int)-((bn:Int)-(bd:Int))=(u:Int):=⟨(66-((bn:Int)-(bd:Int))).toNat,by omega⟩;have hr2:S.wrap (u:Int)=(u:Int):=wr (by omega) (by omega);have hup0:(0:Int)<=(u:Int):=by omega
 have hu2:u<=5066:=by omega
 have HU:M (mZ l F=(u:Int)):=L (by unfold mZ;rw[HBN.o,HBD.o,R]);have d:I l+u<=8192:=by rw[HBN.o];omega
 have f:bF l F=j4 (l*2^u/F) (l*2^u%F) (u:Int):=by unfold bF;rw[HU.o];simp
 have g:=L d;have h:=L f;clear d f;go_wp2_with fail;refine(aFg a k c l u _ (HW.o _ HBF.o).1 g.o).mono ?_;rintro e w4 ⟨an,kn,cn,rfl,m,d⟩;have s:=(HW.o _ (chain HBF.o d)).2;have hc1:=K (keep G1.o d);have hf1:=bp (keep G1.o d);have hc2:=K (keep G2.o d);have P:=L (aB (o:=0) (keep G1.o d) (J an kn cn));have Q:=L ((aE (w:=w4) (o:=0) (k:=w.heap.size+1) (b:=w.heap.size) (J an kn cn) (by omega)).trans (keep G2.o d));have i:=L ((aE (w:=w4) (o:=0) (k:=w.heap.size+2) (b:=w.heap.size) (J an kn cn) (by omega)).trans (keep G3.o d));have y:=L ((chain HBF.o d).setCell (p:=⟨w.heap.size,0,V⟩) (ah _) (J an kn cn));have t:=L (m.D6 (keep G1.o d) (by decide) 0 (J an kn cn));have A:=L (s.D6 (keep G1.o d) (by decide) 0 (J an kn cn));clear m s d;go_wp2_with fail;have hs5:=bc i.o;generalize w4.setCell ⟨w.heap.size,0,V⟩ (J an kn cn)=w5 at*;obtain⟨N,d⟩:∃N,l*2^u=N:=⟨_,rfl⟩;obtain⟨D,rfl⟩:∃D,D=F:=⟨_,rfl⟩;have C:I N=I D+66:=by rw[<-d,mJ hn0,HBN.o,HBD.o];omega
 have hNN:I N<=8192:=by rw[<-d,mJ hn0,HBN.o];omega
 have hDD:I D<=8192:=by rw[HBD.o];omega
 have hD0:=hd0;have f:=h.o;rw[d]at t f;clear d R g h;have d:(Y N).length<=1048576:=af (aj (k:=256) (by omega)) (by decide);have g:(Y D).length<=1048576:=af (aj (k:=256) (by omega)) (by decide);obtain⟨hq1,hq2⟩:=aBs hD0 C;refine(aFh _ _ _ _ _ _ N D w5 t.o A.o d g hD0).mono ?_;rintro e w6 ⟨aq,kq,cq,al,kl,cl,rfl,h,m,hb6⟩;have s:=chain y.o hb6;have n:=keep i.o hb6;clear P Q i y t A d g;obtain⟨va,vc,hve⟩:=bx h;injection hve with e1 e2 e3
 subst e1 e2 e3;obtain⟨va,vc,hve⟩:=bx m;injection hve with e1 e2 e3
 subst e1 e2 e3;obtain⟨q,i⟩:∃q,N/D=q:=⟨_,rfl⟩;obtain⟨r,g⟩:∃r,N%D=r:=⟨_,rfl⟩;rw[i]at h hq1 hq2 f;rw[g]at m f;simp only[i,g];have d:N%D<D:=Nat.mod_lt _ (by omega);rw[g]at d;clear i g C;obtain⟨bq,g⟩:∃b,I q=b:=⟨_,rfl⟩;rw[g]at hq1 hq2;have HBQ:=L g;clear g;obtain⟨br,i⟩:∃b,I r=b:=⟨_,rfl⟩;have HBR:=L i
 have hbr2:br<=9000:=by
  have g:=Lim.bitlen_mono (bu d);omega
 have hbrN:decide (0<br)=!decide (r=0):=by rw[<-i];exact aBt r
 clear i d;obtain⟨kk,hkk⟩:∃z,max ((bq:Int)-53-(u:Int)) (-1074)=z:=⟨_,rfl⟩;obtain⟨j,hj⟩:∃j:Nat,kk+(u:Int)=(j:Int):=⟨(kk+(u:Int)).toNat,by omega⟩;obtain⟨x,hx⟩:∃x:Nat,kk+1074=(x:Int):=⟨(kk+1074).toNat,by omega⟩;have hj1:13<=j:=by omega
 have hj2:j<=6000:=by omega
 have hx2:x<=3000:=by omega
 have hjb:bq<=53+j:=by omega
 have d:aBr (q/2^j)=bg (.tuple #[U ai ((q/2^j:Nat):Int),av H]):=if_pos (by have:=sG HBQ.o hjb;omega);have HWE:=L d;clear d;obtain⟨B,i⟩:∃B:Nat,x*4503599627370496+q/2^j=B:=⟨_,rfl⟩;have hB64:ai.wrap ((x:Int)*4503599627370496+(q:Int)/2^j)=(B:Int):=yW i hx2 (sG HBQ.o hjb);have hjt:((j:Int)-1).toNat=j-1:=by omega
 have d:=f.trans (aHM (q:=q) (r:=r) (by rw[HBQ.o];exact hkk) hj hx);rw[i]at d;have HRA:=L d;clear i d;obtain⟨A,C,d⟩:=aKn w6 (X #[J aq (Y q).length cq] 381) (X #[J al (Y r).length cl] 381);have h:=h.A5 d;have m:=m.A5 d;have n:=keep n d;have hs6:w.heap.size+3<=w6.heap.size:=by have:=hb6.size;omega
 have s:=chain s d;clear d;have t:=L A;have y:=L C;have i:=L n;have d:=L s;clear f n s A C;have hv1:S.wrap ((bq:Int)-53)=(bq:Int)-53:=wr (by omega) (by omega);have hv2:S.wrap ((bq:Int)-53-(u:Int))=(bq:Int)-53-(u:Int):=wr (by omega) (by omega);have hv3:S.wrap (j:Int)=(j:Int):=wr (by omega) (by omega);have hv4:S.wrap ((j:Int)-1)=(j:Int)-1:=wr (by omega) (by omega);have hv5:S.wrap (x:Int)=(x:Int):=wr (by omega) (by omega);have n:=L h;have C:=L m;clear h m;go_wp2_with fail;refine(lP aq _ cq q bq _ n.o HBQ.o (by omega)).mono ?_;rintro e w7 ⟨rfl,f⟩;have t:=L (keep t.o f);have y:=L (keep y.o f);have i:=L (keep i.o f);have d:=L (chain d.o f);have n:=L (n.o.A5 f);have C:=L (C.o.A5 f);clear f;have hd1:=K t.o;go_wp2_with fail;refine(uI aq _ cq q j _ n.o (af (aj (k:=2) (by rw[HBQ.o];omega)) (by decide)) (by omega)).mono ?_;rintro e w8 ⟨am,km,cm,rfl,h,f⟩;have t:=L (keep t.o f);have y:=L (keep y.o f);have i:=L (keep i.o f);have d:=L (chain d.o f);have n:=L (n.o.A5 f);have C:=L (C.o.A5 f);have hwM:=L h;have m:(Y (q/2^j)).length<=4294967296:=af (Lim.limbs_length_le (k:=1) (by have:=sG HBQ.o hjb;omega)) (by decide);have HML:=L m;clear f h hd1 m;have f:ae w8.heap.size w8 (w8.alloc (X #[J am km cm] 381)):=(ag _ _).alloc (ah _) _;have HM9:=L (ar w8 (X #[J am km cm] 381));have t:=L (keep t.o f);have y:=L (keep y.o f);have i:=L (keep i.o f);have d:=L (chain d.o f);have n:=L (n.o.A5 f);have C:=L (C.o.A5 f);have hwM:=L (hwM.o.A5 f);have hd2:=K y.o;have hd3:=K HM9.o;clear f
 by_cases Q:q%2^j=0
 .have T:(q%2^j !=0)=W:=by simp[Q]
  have htb:q.testBit (j-1)=W:=aBu (by omega) Q;have hL1:fB q r j=decide (r≠0):=by unfold fB;simp[Q]
  have hH1:dE q r j= -1:=oJ htb;rw[T];go_wp2_with fail;refine(lP al _ cl r br _ C.o HBR.o (by omega)).mono ?_;rintro e w10 ⟨rfl,f⟩;have t:=L (keep t.o f);have y:=L (keep y.o f);have i:=L (keep i.o f);have d:=L (chain d.o f);have n:=L (n.o.A5 f);have C:=L (C.o.A5 f);have hwM:=L (hwM.o.A5 f);have HM9:=L (keep HM9.o f);clear f hd2 hd3 Q;have hd3:=K HM9.o;go_wp2_with fail;refine(oI am km cm (q/2^j) _ hwM.o HML.o).mono ?_;rintro e A ⟨he,s⟩;subst he;rw[HWE.o];have t:=L (keep t.o s);have y:=L (keep y.o s);have i:=L (keep i.o s);have d:=L (chain d.o s);have n:=L (n.o.A5 s);have C:=L (C.o.A5 s);clear s;have hal:∀o,ae A.heap.size A (A.alloc o):=λo=>(ag _ _).alloc (ah _) _
  have hd1:∀o,(A.alloc o).cell? ⟨w6.heap.size,0,V⟩=Z (J aq (Y q).length cq):=λo=>K (keep t.o (hal o))
  have HAL:=L hal;clear hal;go_wp2_with fail;refine(qG aq cq q ((j:Int)-1) _ (n.o.A5 (HAL.o _)) (by omega) (by omega)).mono ?_;rintro e w13 ⟨rfl,m⟩;have P:=L (keep (ar A _) m);have m:=(HAL.o _).trans (m.mono (by simp));have i:=L (keep i.o m);have d:=L (chain d.o m);clear m hd1;obtain⟨r0,r1,r2,rf⟩:=cells3 i.o;obtain⟨q0,q1,q2,-⟩:=cells3 P.o;rw[hjt];rw[htb]
  by_cases g:aJ<B
  .have R:(9218868437227405311:Int)<(B:Int):=by unfold aJ at g;omega
   have f:bF l D=⟨aJ,1,W⟩:=by rw[HRA.o];exact if_pos g
   have h:=L f;clear f g;go_wp2_with fail;exact G (v:=cutV ⟨aJ,1,W⟩) (by simp[E,ac,go_sem,r0,r1,r2,cutV,aJ]) rfl ⟨by rw[h.o],(((d.o).setCell (O _ 2) _).setCell (O _ 2) _).setCell (O _ 2) _⟩
  .have R:¬(9218868437227405311:Int)<(B:Int):=by unfold aJ at g;omega
   have f:bF l D=⟨B,dE q r j, !fB q r j⟩:=by rw[HRA.o];exact if_neg g
   rw[hH1,hL1]at f;have h:=L f;clear f g;go_wp2_with fail;exact G (v:=cutV ⟨B,-1, !decide (r≠0)⟩) (by simp[E,ac,go_sem,r0,r1,r2,q0,q1,q2,cutV,hbrN]) rfl ⟨by rw[h.o],(((d.o).setCell (O _ 2) _).setCell (O _ 2) _).setCell (O _ 2) _⟩
 .have T:(q%2^j !=0)=H:=by simp[Q]
  have hL1:fB q r j=H:=by unfold fB;simp[Q]
  rw[T];clear Q;go_wp2_with fail;refine(oI am km cm (q/2^j) _ hwM.o HML.o).mono ?_;rintro e A ⟨he,s⟩;subst he;rw[HWE.o];have t:=L (keep t.o s);have y:=L (keep y.o s);have i:=L (keep i.o s);have d:=L (chain d.o s);have n:=L (n.o.A5 s);have C:=L (C.o.A5 s);have hs11:=bc y.o;clear s;have hal:∀o,ae A.heap.size A (A.alloc o):=λo=>(ag _ _).alloc (ah _) _
  have hd1:∀o,(A.alloc o).cell? ⟨w6.heap.size,0,V⟩=Z (J aq (Y q).length cq):=λo=>K (keep t.o (hal o))
  have HAL:=L hal;clear hal;go_wp2_with fail;refine(qG aq cq q ((j:Int)-1) _ (n.o.A5 (HAL.o _)) (by omega) (by omega)).mono ?_;rintro e w13 ⟨rfl,m⟩;have P:=L (keep (ar A _) m);have m:=(HAL.o _).trans (m.mono (by simp));have t:=L (keep t.o m);have y:=L (keep y.o m);have i:=L (keep i.o m);have d:=L (chain d.o m);have n:=L (n.o.A5 m);have C:=L (C.o.A5 m);clear m hd1;obtain⟨r0,r1,r2,rf⟩:=cells3 i.o;obtain⟨q0,q1,q2,qf⟩:=cells3 P.o;rw[hjt]
  by_cases htb:q.testBit (j-1)=H
  .have HTB:=L htb;rw[htb];clear htb;have HNE1:M (w6.heap.size≠A.heap.size):=L (by omega);have HNE2:M (w6.heap.size+1≠A.heap.size):=L (by omega);have HNE3:M (w.heap.size+2≠A.heap.size):=L (by omega);have s:M (w.heap.size<=A.heap.size):=L (by omega);have hd1:(w13.setCell ⟨A.heap.size,1,V⟩ (U S 0)).cell? ⟨w6.heap.size,0,V⟩=Z (J aq (Y q).length cq):=K ((aE (o:=1) (U S 0) HNE1.o).trans t.o);go_wp2_with fail;have t:=L ((aE (o:=1) (U S 0) HNE1.o).trans t.o);have y:=L ((aE (o:=1) (U S 0) HNE2.o).trans y.o);have i:=L ((aE (o:=1) (U S 0) HNE3.o).trans i.o);have d:=L (d.o.setCell (p:=⟨A.heap.size,1,V⟩) s.o (U S 0));have n:=L (n.o.D6 P.o (by decide) 1 (U S 0));have C:=L (C.o.D6 P.o (by decide) 1 (U S 0));have P:=L (aB (o:=1) P.o (U S 0));clear hd1 r0 r1 r2 rf q0 q1 q2 qf;have m:((j:Int)-1)=((j-1:Nat):Int):=by omega
   have hv6:S.wrap ((j-1:Nat):Int)=((j-1:Nat):Int):=wr (by omega) (by omega);rw[m];clear m;refine(uI aq _ cq q (j-1) _ n.o (af (aj (k:=2) (by rw[HBQ.o];omega)) (by decide)) (by omega)).mono ?_;rintro e w15 ⟨am2,km2,cm2,rfl,_,m⟩;have t:=L (keep t.o m);have y:=L (keep y.o m);have i:=L (keep i.o m);have d:=L (chain d.o m);have n:=L (n.o.A5 m);have C:=L (C.o.A5 m);have P:=L (keep P.o m);clear m;have hal:∀o,ae w15.heap.size w15 (w15.alloc o):=λo=>(ag _ _).alloc (ah _) _
   have HAL:=L hal;clear hal
   by_cases Q:q%2^(j-1)=0
   .have T:(q%2^(j-1)!=0)=W:=by simp[Q]
    have hd2:∀o,(w15.alloc o).cell? ⟨w6.heap.size+1,0,V⟩=Z (J al (Y r).length cl):=λo=>K (keep y.o (HAL.o o))
    have HQJ:=L Q;rw[T];clear Q;go_wp2_with fail;refine(lP al _ cl r br _ (C.o.A5 (HAL.o _)) HBR.o (by omega)).mono ?_;rintro e w16 ⟨rfl,m⟩;have m:=(HAL.o _).trans (m.mono (by simp));have i:=L (keep i.o m);have d:=L (chain d.o m);have P:=L (keep P.o m);clear m hd2;obtain⟨r0,r1,r2,rf⟩:=cells3 i.o;obtain⟨q0,q1,q2,qf⟩:=cells3 P.o
    by_cases hr0:r=0
    .have hH1:dE q r j=0:=yX HTB.o HQJ.o hr0;have hrd:decide (r=0)=H:=by simp[hr0]
     clear hr0
     by_cases g:aJ<B
     .have R:(9218868437227405311:Int)<(B:Int):=by unfold aJ at g;omega
      have f:bF l D=⟨aJ,1,W⟩:=by rw[HRA.o];exact if_pos g
      have h:=L f;clear f g;go_wp2_with fail;exact G (v:=cutV ⟨aJ,1,W⟩) (by simp[E,ac,go_sem,r0,r1,r2,cutV,aJ]) rfl ⟨by rw[h.o],(((d.o).setCell (O _ 2) _).setCell (O _ 2) _).setCell (O _ 2) _⟩
     .have R:¬(9218868437227405311:Int)<(B:Int):=by unfold aJ at g;omega
      have f:bF l D=⟨B,dE q r j, !fB q r j⟩:=by rw[HRA.o];exact if_neg g
      rw[hH1,hL1]at f;have h:=L f;clear f g;go_wp2_with fail;exact G (v:=cutV ⟨B,0, !H⟩) (by simp[E,ac,go_sem,r0,r1,r2,q0,q1,q2,cutV]) rfl ⟨by rw[h.o],(((d.o).setCell (O _ 2) _).setCell (O _ 2) _).setCell (O _ 2) _⟩
    .have hH1:dE q r j=1:=qJ HTB.o (.inr hr0);have hrd:decide (r=0)=W:=by simp[hr0]
     clear hr0
     by_cases g:aJ<B
     .have R:(9218868437227405311:Int)<(B:Int):=by unfold aJ at g;omega
      have f:bF l D=⟨aJ,1,W⟩:=by rw[HRA.o];exact if_pos g
      have h:=L f;clear f g;go_wp2_with fail;exact G (v:=cutV ⟨aJ,1,W⟩) (by simp[E,ac,go_sem,r0,r1,r2,cutV,aJ]) rfl ⟨by rw[h.o],(((d.o.setCell (p:=⟨A.heap.size,1,V⟩) s.o (U S 1)).setCell (O _ 2) _).setCell (O _ 2) _).setCell (O _ 2) _⟩
     .have R:¬(9218868437227405311:Int)<(B:Int):=by unfold aJ at g;omega
      have f:bF l D=⟨B,dE q r j, !fB q r j⟩:=by rw[HRA.o];exact if_neg g
      rw[hH1,hL1]at f;have h:=L f;clear f g;go_wp2_with fail;exact G (v:=cutV ⟨B,1, !H⟩) (by simp[E,ac,go_sem,r0,r1,r2,q0,q1,q2,cutV]) rfl ⟨by rw[h.o],(((d.o.setCell (p:=⟨A.heap.size,1,V⟩) s.o (U S 1)).setCell (O _ 2) _).setCell (O _ 2) _).setCell (O _ 2) _⟩
   .have T:(q%2^(j-1)!=0)=H:=by simp[Q]
    have hH1:dE q r j=1:=qJ HTB.o (.inl Q);rw[T];clear Q;have m:=HAL.o (X #[J am2 km2 cm2] 381);have i:=L (keep i.o m);have d:=L (chain d.o m);have P:=L (keep P.o m);clear m;obtain⟨r0,r1,r2,rf⟩:=cells3 i.o;obtain⟨q0,q1,q2,qf⟩:=cells3 P.o
    by_cases g:aJ<B
    .have R:(9218868437227405311:Int)<(B:Int):=by unfold aJ at g;omega
     have f:bF l D=⟨aJ,1,W⟩:=by rw[HRA.o];exact if_pos g
     have h:=L f;clear f g;go_wp2_with fail;exact G (v:=cutV ⟨aJ,1,W⟩) (by simp[E,ac,go_sem,r0,r1,r2,cutV,aJ]) rfl ⟨by rw[h.o],(((d.o.setCell (p:=⟨A.heap.size,1,V⟩) s.o (U S 1)).setCell (O _ 2) _).setCell (O _ 2) _).setCell (O _ 2) _⟩
    .have R:¬(9218868437227405311:Int)<(B:Int):=by unfold aJ at g;omega
     have f:bF l D=⟨B,dE q r j, !fB q r j⟩:=by rw[HRA.o];exact if_neg g
     rw[hH1,hL1]at f;have h:=L f;clear f g;go_wp2_with fail;exact G (v:=cutV ⟨B,1, !H⟩) (by simp[E,ac,go_sem,r0,r1,r2,q0,q1,q2,cutV]) rfl ⟨by rw[h.o],(((d.o.setCell (p:=⟨A.heap.size,1,V⟩) s.o (U S 1)).setCell (O _ 2) _).setCell (O _ 2) _).setCell (O _ 2) _⟩
  .have htb:q.testBit (j-1)=W:=by simpa using htb
   have hH1:dE q r j= -1:=oJ htb;rw[htb]
   by_cases g:aJ<B
   .have R:(9218868437227405311:Int)<(B:Int):=by unfold aJ at g;omega
    have f:bF l D=⟨aJ,1,W⟩:=by rw[HRA.o];exact if_pos g
    have h:=L f;clear f g;go_wp2_with fail;exact G (v:=cutV ⟨aJ,1,W⟩) (by simp[E,ac,go_sem,r0,r1,r2,cutV,aJ]) rfl ⟨by rw[h.o],(((d.o).setCell (O _ 2) _).setCell (O _ 2) _).setCell (O _ 2) _⟩
   .have R:¬(9218868437227405311:Int)<(B:Int):=by unfold aJ at g;omega
    have f:bF l D=⟨B,dE q r j, !fB q r j⟩:=by rw[HRA.o];exact if_neg g
    rw[hH1,hL1]at f;have h:=L f;clear f g;go_wp2_with fail;exact G (v:=cutV ⟨B,-1, !H⟩) (by simp[E,ac,go_sem,r0,r1,r2,q0,q1,q2,cutV,hbrN]) rfl ⟨by rw[h.o],(((d.o).setCell (O _ 2) _).setCell (O _ 2) _).setCell (O _ 2) _⟩
end Go.Proofs.YtakkmiomhackiaaGreatDoor
