/-
  The program, one part of its walk. Conditions: none.
-/
import Derived.Test.YtakkmiomhackiaaGreatDoorBf02
import Derived.Test.YtakkmiomhackiaaGreatDoorBf03
import Derived.Deep.Upon
set_option linter.all false
set_option maxRecDepth 100000
set_option maxHeartbeats 16000000
open Go.Proofs.Tryz
open Array renaming getElem?_eq_getElem->fe,getElem?_setIfInBounds->ez
open Bool renaming false->W,true->V
open Go renaming Addr->cg,Calls->bx,Oper->bw,Operand->ee,TypeId->dw,Value->ac,World->Z,bodyPost_ret->E,cell_of_one->ah,free_of_one->et,heap_alloc_new->ct,lt_of_block->ck,maxLen->dt,results->Q,wpList->dh
open Go.Builtin renaming append->ei,append_->fu,firstCells->em,lenOf->fv
open Go.Callee renaming builtin->eh
open Go.Ending renaming returned->bu
open Go.IntKind renaming i64->Y,u64->cj,u8->ag,wrap_i64->fm,wrap_u64->fq
open Go.Obj renaming cells->G
open Go.Obj.cells renaming injEq->ft
open Go.Oper renaming wp->ek
open Go.Proofs.Tryz renaming func109->bc,func134->cw,func140->dp,func189->bj,ntmps109->bh,ntmps134->cz,ntmps140->dq,ntmps189->bk,prog->H,results189->bm,results234->ak
open Go.Proofs.YtakkmiomhackiaaGreatDoor.Keeps renaming A8->du
open Go.Proofs.YtakkmiomhackiaaGreatDoor.Lim renaming bitlen->O,bitlen_gt->dv,bitlen_le->dj,limbs->af,lt_bitlen->dl,short->co
open Go.Proofs.YtakkmiomhackiaaGreatDoor.Row renaming A7->ew
open Go.Region renaming wanted->ej
open Go.RowKit renaming Below->ao
open Go.RowKit.Below renaming heap_alloc->ep,refl->bz
open Go.Value renaming agg->cr,bool->ae,int->U,ownBlock->fa,slice->J,tuple->ai
open Int renaming cast_ofNat_Int->ba,natCast_one->aw,natCast_zero->av
open List renaming eq_nil_of_length_eq_zero->fj,getElem?_append_left->fh,getElem?_append_right->fi,getElem?_eq_some_iff->dy,getElem?_map->fk,length_append->fg
open Nat renaming add_mul->di,div_lt_of_lt_mul->ev,le_add_right->X,le_of_lt->eu,le_refl->ar,le_trans->bp,lt_of_lt_of_le->dm,mul_le_mul_right->cv,pow_add->cu,testBit_eq_decide_div_mod_eq->dx,two_pow_pos->eo
open Option renaming none->S,some->I
open Option.some renaming injEq->fc
open Or renaming inl->aj,inr->au
namespace Go.Proofs.YtakkmiomhackiaaGreatDoor
open Go.RowKit
variable {bytes j q r t:Nat}{a:Act}{o:bw}
def aLZ(n:Nat):10^n<2^(4*n+1):=by
 have h:10^n<=16^n:=Nat.pow_le_pow_left (by decide) n;have e:16^n=2^(4*n):=by rw[Nat.pow_mul]
 rw[Nat.pow_succ];have:=eo (4*n);omega
def iB(n:Nat):O (10^n)<=4*n+1:=dj.2 (aLZ n)
def aBs(n:Nat)(w:Z)(s:n<=1300):bx H 233 #[n] w λe w'=>aBp w (10^n) e w':=by
 have d:O (10^n)<=8192:=bp (iB n) (by omega);have o:=A (aG9 10 n);have m:=A d;clear d;go_enter func233,ntmps233;go_wp2_with fail;refine(o.o _ (by decide) (by decide) (by omega) m.o).mono ?_;rintro e w1 ⟨a,k,c,rfl,j,l⟩;obtain⟨i,f,p⟩:=after1 l;have b:(w1.alloc (G #[J a k c] 381)).heap[w.heap.size]?=I (G #[()] 381 (0,0)):=(ep _ _ _ (ck i)).trans i;have g:=ah b;have r:=et b;have h:=A b;have q:=A j;clear j i b;go_wp2;exact E (v:=cr #[J a k c]) (by simp[Q,results233,go_sem,g]) rfl ⟨a,k,c,rfl,(q.o.A6 _).B5 h.o (by decide) _ _,(f.alloc (by omega) _).setCell (by simp) _⟩
def aLP(w:Z)(o1 a:Obj):((w.alloc o1).alloc a).heap[w.heap.size]?=I o1/\((w.alloc o1).alloc a).heap[w.heap.size+1]?=I a/\ao w w ((w.alloc o1).alloc a):=by
 refine⟨(ep _ _ _ (by simp)).trans (ct w _),?_,((bz _ _).alloc (ar _) _).alloc (by simp) _⟩;have:=ct (w.alloc o1) a
 simpa using this
def wr{z:Int}(a: -9223372036854775808<=z)(b:z<=9223372036854775807):Y.wrap z=z:=by rw[fm];omega
def lY(a:Option cg)(k c n b:Nat)(w:Z)(h:Wds w (J a k c) (af n))(d:O n=b)(f:b<=100000):bx H 252 #[cr #[J a k c]] w λe w'=>
 e=bu (U Y (b:Nat))/\ao w w w':=by
 subst d;exact wH a k c n w h (bp (co (k:=100000) (by omega)) (by decide))
def kZ{n:Nat}(h:n≠0):0<O n:=by
 rcases Nat.eq_zero_or_pos (O n)with a|a
 .have:=dj.1 (Nat.le_of_eq a);simp at this;omega
 .exact a
def lZ{n:Nat}(h:n≠0):2^(O n-1)<=n:=dv.1 (by have:=kZ h;omega)
def mS{n:Nat}(h:n≠0)(k:Nat):O (n*2^k)=O n+k:=by
 have a:=kZ h;refine Nat.le_antisymm ?_ ?_
 .rw[dj,cu];exact Nat.mul_lt_mul_of_pos_right dl (eo k)
 .have:O n+k-1<O (n*2^k):=by
   rw[dv,show O n+k-1=(O n-1)+k by omega,cu];exact cv _ (lZ h)
  omega
def aCA{N D:Nat}(c:D≠0)(h:O N=O D+66):66<=O (N/D)/\O (N/D)<=67:=by
 have f:N≠0:=by intro e;subst e;have:O 0=0:=rfl;omega
 have g:=kZ c;have a:=lZ f;have d:=lZ c;constructor
 .have:65<O (N/D):=by
   rw[dv,Nat.le_div_iff_mul_le (by omega)];have b:2^65*D<=2^65*2^O D:=Nat.mul_le_mul_left _ (eu dl);rw[<-cu]at b;rw[show O N-1=65+O D by omega]at a;exact bp b a
  omega
 .rw[dj];refine ev ?_;refine dm dl ?_;rw[h,show O D+66=(O D-1)+67 by omega,cu];exact cv _ d
def tT{b:Nat}(c:O q=b)(h:b<=53+j):q/2^j<9007199254740992:=by
 refine ev ?_;have a:q<2^b:=c▸dl;refine dm a ?_;rw[show 9007199254740992=2^53 from rfl,Nat.mul_comm,<-cu];exact Nat.pow_le_pow_right (by decide) (by omega)
def aGB(r:Nat):decide ((0:Int)<(O r:Int))=decide (r≠0):=by
 by_cases h:r=0
 .subst h;rfl
 .have:=kZ h;simp[h,this]
def aCB(r:Nat):decide (0<O r)=!decide (r=0):=by
 by_cases h:r=0
 .subst h;rfl
 .have:=kZ h;simp[h,this]
def aAI{x B:Nat}(b:x*4503599627370496+q/2^j=B)(c:x<=3000)(a:q/2^j<9007199254740992):cj.wrap ((x:Int)*4503599627370496+(q:Int)/2^j)=(B:Int):=by
 have e:(q:Int)/2^j=((q/2^j:Nat):Int):=by simp
 rw[fq,e];omega
def cells3{w:Z}{b:Nat}{d c a:ac}{T:dw}(h:w.heap[b]?=I (G #[d,c,a] T (0,0))):w.cell? b=I d/\w.cell? ⟨b,1,S⟩=I c/\w.cell? ⟨b,2,S⟩=I a/\∀o,w.frozen? ⟨b,o,S⟩=W:=
 ⟨aA h,aA h,aA h,free_at h⟩
def aCC(b:1<=j)(h:q%2^j=0):q.testBit (j-1)=W:=by
 obtain⟨c,a⟩:=Nat.dvd_of_mod_eq_zero h;rw[a,Nat.testBit_two_pow_mul];simp;omega
def dI(q r j:Nat):Int:=if q/2^(j-1)%2=1 then(if q%2^(j-1)≠0\/r≠0 then 1 else 0)else -1
def pD(h:q.testBit (j-1)=W):dI q r j= -1:=by
 unfold dI;rw[if_neg];intro a;rw[dx]at h;simp[a]at h
def aAJ(h:q.testBit (j-1)=V)(a:q%2^(j-1)=0)(b:r=0):dI q r j=0:=by
 rw[dx]at h;unfold dI;rw[if_pos (by simpa using h),if_neg (by simp[a,b])]
def rS(h:q.testBit (j-1)=V)(a:q%2^(j-1)≠0\/r≠0):dI q r j=1:=by
 rw[dx]at h;unfold dI;rw[if_pos (by simpa using h),if_pos a]
def fE(q r j:Nat):Bool:=decide (q%2^j≠0)||decide (r≠0)
def aI9{b a:Int}{x:Nat}(c:max ((O q:Int)-53-b) (-1074)=a)(d:a+b=(j:Int))(e:a+1074=(x:Int)):
 kD q r b=if aM<x*4503599627370496+q/2^j then⟨aM,1,W⟩else⟨x*4503599627370496+q/2^j,dI q r j, !fE q r j⟩:=by
 unfold kD dI fE;simp only[c,d,e,Int.toNat_natCast]
def cutV(c:Cut):ac:=cr #[U cj c.bits,c.a,c.exact]
def aHc(a a':Option cg)(k k' c c' l K:Nat)(w:Z)(f:Wds w (J a k c) (af l))(d:Wds w (J a' k' c') (af K))(j1:l≠0)(k3:K≠0)
 (k4:O l<=4000)(k5:O K<=5000)(T:O l<=O K+1500)(h6:O l<=O K+66):
 bx H 234 #[cr #[J a k c],cr #[J a' k' c']] w λe w'=>e=bu (cutV (bH l K))/\ao w w w':=by
 have l5:(af K).length<=128:=co (by omega);have HW:M (∀wx,ao w w wx->Wds wx (J a k c) (af l)/\Wds wx (J a' k' c') (af K)):=λwx hx=>⟨f.A4 hx,d.A4 hx⟩
 clear f d;obtain⟨bn,d⟩:∃x,O l=x:=⟨_,rfl⟩;obtain⟨bd,f⟩:∃x,O K=x:=⟨_,rfl⟩;rw[d]at k4 T h6;rw[f]at k5 T h6;have h7:=A d;have h9:=A f;clear d f;have g:ao w w (((w.alloc (G #[J a k c] 381)).alloc (G #[J a' k' c'] 381)).alloc (G #[U cj 0,U Y 0,ae W] 359)):=(((bz _ _).alloc (ar _) _).alloc (by simp) _).alloc (by simp;omega) _;obtain⟨g1,s,n,_,_⟩:=tQ (bz (((w.alloc (G #[J a k c] 381)).alloc (G #[J a' k' c'] 381)).alloc (G #[U cj 0,U Y 0,ae W] 359)).heap.size _);go_enter func234,ntmps234;go_wp2_with fail;generalize ((w.alloc (G #[J a k c] 381)).alloc (G #[J a' k' c'] 381)).alloc (G #[U cj 0,U Y 0,ae W] 359)=w3 at*;have i3:=ah g1;have i4:=ah s;have h:w.heap.size<w3.heap.size:=by omega
 have i:w.heap.size+1<w3.heap.size:=by omega
 have G1:=A g1;have G2:=A s;have G3:=A n;clear g1 s n
 go_region_held3 (λw'=>w'.cell? w=I (J a k c)/\w'.cell? ⟨w.heap.size+1,0,S⟩=I (J a' k' c')) (first|exact⟨m,h8⟩|exact⟨t,y⟩|go_keep)
  (first|(go_at_call 252;(with_reducible refine(lY a k c l _ _ (HW.o _ g.drew).1 h7.o (by omega)).mono ?_);rintro e wx ⟨rfl,d⟩;have m:=(d.cell (p:=w) (by simpa using h)).trans i3;have h8:=(d.cell (p:=⟨w.heap.size+1,0,S⟩) (by simpa using i)).trans i4)|(go_at_call 252;(with_reducible refine(lY a' k' c' K _ _ (HW.o _ (chain g.drew d)).2 h9.o (by omega)).mono ?_);rintro e C ⟨rfl,f⟩;have t:=(f.cell (p:=w) (by simpa using dm h d.size)).trans m;have y:=(f.cell (p:=⟨w.heap.size+1,0,S⟩) (by simpa using dm i d.size)).trans h8))
 have i5:=A (chain (chain g.drew d) f);have g1:=keep (keep (w1:=w3.drew) G1.o d) f;have s:=keep (keep (w1:=w3.drew) G2.o d) f;have n:=keep (keep (w1:=w3.drew) G3.o d) f;clear d f m h8 t y i3 i4 g G1 G2 G3 h i;have l6:Y.wrap ((bn:Int)-(bd:Int))=(bn:Int)-(bd:Int):=wr (by omega) (by omega);have G1:=A g1;have G2:=A s;have G3:=A n;clear g1 s n;obtain⟨u,R⟩:∃u:Nat,(66:Int)-((bn:Int)-(bd:Int))=(u:Int):=⟨(66-((bn:Int)-(bd:Int))).toNat,by omega⟩;have l7:Y.wrap (u:Int)=(u:Int):=wr (by omega) (by omega);have l1:(0:Int)<=(u:Int):=by omega
 have l8:u<=5066:=by omega
 have HU:M (nM l K=(u:Int)):=A (by unfold nM;rw[h7.o,h9.o,R]);have d:O l+u<=8192:=by rw[h7.o];omega
 have f:bH l K=kD (l*2^u/K) (l*2^u%K) (u:Int):=by unfold bH;rw[HU.o];simp
 have g:=A d;have h:=A f;clear d f;go_wp2_with fail;refine(aGz a k c l u _ (HW.o _ i5.o).1 g.o).mono ?_;rintro e w4 ⟨an,kn,cn,rfl,m,d⟩;have s:=(HW.o _ (chain i5.o d)).2;have i3:=ah (keep G1.o d);have l9:=et (keep G1.o d);have i4:=ah (keep G2.o d);have L:=A (aB (o:=0) (keep G1.o d) (J an kn cn));have P:=A ((aE (w:=w4) (o:=0) (k:=w.heap.size+1) (b:=w.heap.size) (J an kn cn) (by omega)).trans (keep G2.o d));have i:=A ((aE (w:=w4) (o:=0) (k:=w.heap.size+2) (b:=w.heap.size) (J an kn cn) (by omega)).trans (keep G3.o d));have y:=A ((chain i5.o d).setCell (p:=w) (ar _) (J an kn cn));have t:=A (m.B5 (keep G1.o d) (by decide) 0 (J an kn cn));have C:=A (s.B5 (keep G1.o d) (by decide) 0 (J an kn cn));clear m s d;go_wp2_with fail;have m0:=ck i.o;generalize w4.setCell w (J an kn cn)=w5 at*;obtain⟨N,d⟩:∃N,l*2^u=N:=⟨_,rfl⟩;obtain⟨D,rfl⟩:∃D,D=K:=⟨_,rfl⟩;have F:O N=O D+66:=by rw[<-d,mS j1,h7.o,h9.o];omega
 have m1:O N<=8192:=by rw[<-d,mS j1,h7.o];omega
 have m2:O D<=8192:=by rw[h9.o];omega
 have j2:=k3;have f:=h.o;rw[d]at t f;clear d R g h;have d:(af N).length<=1048576:=bp (co (k:=256) (by omega)) (by decide);have g:(af D).length<=1048576:=bp (co (k:=256) (by omega)) (by decide);obtain⟨j3,j4⟩:=aCA j2 F;refine(aGA _ _ _ _ _ _ N D w5 t.o C.o d g j2).mono ?_;rintro e w6 ⟨aq,kq,cq,al,kl,cl,rfl,h,m,i6⟩;have s:=chain y.o i6;have n:=keep i.o i6;clear L P i y t C d g;obtain⟨va,vc,i7⟩:=ew h;injection i7 with e1 e2 e3
 subst e1 e2 e3;obtain⟨va,vc,i7⟩:=ew m;injection i7 with e1 e2 e3
 subst e1 e2 e3;obtain⟨q,i⟩:∃q,N/D=q:=⟨_,rfl⟩;obtain⟨r,g⟩:∃r,N%D=r:=⟨_,rfl⟩;rw[i]at h j3 j4 f;rw[g]at m f;simp only[i,g];have d:N%D<D:=Nat.mod_lt _ (by omega);rw[g]at d;clear i g F;obtain⟨bq,g⟩:∃b,O q=b:=⟨_,rfl⟩;rw[g]at j3 j4;have h2:=A g;clear g;obtain⟨br,i⟩:∃b,O r=b:=⟨_,rfl⟩;have j5:=A i
 have l2:br<=9000:=by
  have g:=Lim.bitlen_mono (eu d);omega
 have i1:decide (0<br)=!decide (r=0):=by rw[<-i];exact aCB r
 clear i d;obtain⟨kk,k6⟩:∃z,max ((bq:Int)-53-(u:Int)) (-1074)=z:=⟨_,rfl⟩;obtain⟨j,hj⟩:∃j:Nat,kk+(u:Int)=(j:Int):=⟨(kk+(u:Int)).toNat,by omega⟩;obtain⟨x,hx⟩:∃x:Nat,kk+1074=(x:Int):=⟨(kk+1074).toNat,by omega⟩;have m3:13<=j:=by omega
 have m4:j<=6000:=by omega
 have h8:x<=3000:=by omega
 have i8:bq<=53+j:=by omega
 have d:aCz (q/2^j)=bu (ai #[U cj ((q/2^j:Nat):Int),ae V]):=if_pos (by have:=tT h2.o i8;omega);have j6:=A d;clear d;obtain⟨B,i⟩:∃B:Nat,x*4503599627370496+q/2^j=B:=⟨_,rfl⟩;have l3:cj.wrap ((x:Int)*4503599627370496+(q:Int)/2^j)=(B:Int):=aAI i h8 (tT h2.o i8);have j7:((j:Int)-1).toNat=j-1:=by omega
 have d:=f.trans (aI9 (q:=q) (r:=r) (by rw[h2.o];exact k6) hj hx);rw[i]at d;have g7:=A d;clear i d;obtain⟨C,F,d⟩:=aLP w6 (G #[J aq (af q).length cq] 381) (G #[J al (af r).length cl] 381);have h:=h.A4 d;have m:=m.A4 d;have n:=keep n d;have m5:w.heap.size+3<=w6.heap.size:=by have:=i6.size;omega
 have s:=chain s d;clear d;have t:=A C;have y:=A F;have i:=A n;have d:=A s;clear f n s C F;have m6:Y.wrap ((bq:Int)-53)=(bq:Int)-53:=wr (by omega) (by omega);have m7:Y.wrap ((bq:Int)-53-(u:Int))=(bq:Int)-53-(u:Int):=wr (by omega) (by omega);have m8:Y.wrap (j:Int)=(j:Int):=wr (by omega) (by omega);have m9:Y.wrap ((j:Int)-1)=(j:Int)-1:=wr (by omega) (by omega);have n0:Y.wrap (x:Int)=(x:Int):=wr (by omega) (by omega);have n:=A h;have F:=A m;clear h m;go_wp2_with fail;refine(lY aq _ cq q bq _ n.o h2.o (by omega)).mono ?_;rintro e w7 ⟨rfl,f⟩;have t:=A (keep t.o f);have y:=A (keep y.o f);have i:=A (keep i.o f);have d:=A (chain d.o f);have n:=A (n.o.A4 f);have F:=A (F.o.A4 f);clear f;have h3:=ah t.o;go_wp2_with fail;refine(wI aq _ cq q j _ n.o (bp (co (k:=2) (by rw[h2.o];omega)) (by decide)) (by omega)).mono ?_;rintro e w8 ⟨am,km,cm,rfl,h,f⟩;have t:=A (keep t.o f);have y:=A (keep y.o f);have i:=A (keep i.o f);have d:=A (chain d.o f);have n:=A (n.o.A4 f);have F:=A (F.o.A4 f);have h4:=A h;have m:(af (q/2^j)).length<=4294967296:=bp (Lim.limbs_length_le (k:=1) (by have:=tT h2.o i8;omega)) (by decide);have j8:=A m;clear f h h3 m;have f:ao w8 w8 (w8.alloc (G #[J am km cm] 381)):=(bz _ _).alloc (ar _) _;have i0:=A (ct w8 (G #[J am km cm] 381));have t:=A (keep t.o f);have y:=A (keep y.o f);have i:=A (keep i.o f);have d:=A (chain d.o f);have n:=A (n.o.A4 f);have F:=A (F.o.A4 f);have h4:=A (h4.o.A4 f);have i9:=ah y.o;have j9:=ah i0.o;clear f
 by_cases P:q%2^j=0
 .have T:(q%2^j !=0)=W:=by simp[P]
  have g8:q.testBit (j-1)=W:=aCC (by omega) P;have h5:fE q r j=decide (r≠0):=by unfold fE;simp[P]
  have h1:dI q r j= -1:=pD g8;rw[T];go_wp2_with fail;refine(lY al _ cl r br _ F.o j5.o (by omega)).mono ?_;rintro e i2 ⟨rfl,f⟩;have t:=A (keep t.o f);have y:=A (keep y.o f);have i:=A (keep i.o f);have d:=A (chain d.o f);have n:=A (n.o.A4 f);have F:=A (F.o.A4 f);have h4:=A (h4.o.A4 f);have i0:=A (keep i0.o f);clear f i9 j9 P;have j9:=ah i0.o;go_wp2_with fail;refine(pC am km cm (q/2^j) _ h4.o j8.o).mono ?_;rintro e C ⟨he,s⟩;subst he;rw[j6.o];have t:=A (keep t.o s);have y:=A (keep y.o s);have i:=A (keep i.o s);have d:=A (chain d.o s);have n:=A (n.o.A4 s);have F:=A (F.o.A4 s);clear s;have g9:∀o,ao C C (C.alloc o):=λo=>(bz _ _).alloc (ar _) _
  have h3:∀o,(C.alloc o).cell? w6=I (J aq (af q).length cq):=λo=>ah (keep t.o (g9 o))
  have h0:=A g9;clear g9;go_wp2_with fail;refine(rP aq cq q ((j:Int)-1) _ (n.o.A4 (h0.o _)) (by omega) (by omega)).mono ?_;rintro e k0 ⟨rfl,m⟩;have L:=A (keep (ct C _) m);have m:=(h0.o _).trans (m.mono (by simp));have i:=A (keep i.o m);have d:=A (chain d.o m);clear m h3;obtain⟨r0,r1,r2,rf⟩:=cells3 i.o;obtain⟨q0,q1,q2,-⟩:=cells3 L.o;rw[j7];rw[g8]
  by_cases g:aM<B
  .have R:(9218868437227405311:Int)<(B:Int):=by unfold aM at g;omega
   have f:bH l D=⟨aM,1,W⟩:=by rw[g7.o];exact if_pos g
   have h:=A f;clear f g;go_wp2_with fail;exact E (v:=cutV ⟨aM,1,W⟩) (by simp[Q,ak,go_sem,r0,r1,r2,cutV,aM]) rfl ⟨by rw[h.o],(((d.o).setCell (X _ 2) _).setCell (X _ 2) _).setCell (X _ 2) _⟩
  .have R:¬(9218868437227405311:Int)<(B:Int):=by unfold aM at g;omega
   have f:bH l D=⟨B,dI q r j, !fE q r j⟩:=by rw[g7.o];exact if_neg g
   rw[h1,h5]at f;have h:=A f;clear f g;go_wp2_with fail;exact E (v:=cutV ⟨B,-1, !decide (r≠0)⟩) (by simp[Q,ak,go_sem,r0,r1,r2,q0,q1,q2,cutV,i1]) rfl ⟨by rw[h.o],(((d.o).setCell (X _ 2) _).setCell (X _ 2) _).setCell (X _ 2) _⟩
 .have T:(q%2^j !=0)=V:=by simp[P]
  have h5:fE q r j=V:=by unfold fE;simp[P]
  rw[T];clear P;go_wp2_with fail;refine(pC am km cm (q/2^j) _ h4.o j8.o).mono ?_;rintro e C ⟨he,s⟩;subst he;rw[j6.o];have t:=A (keep t.o s);have y:=A (keep y.o s);have i:=A (keep i.o s);have d:=A (chain d.o s);have n:=A (n.o.A4 s);have F:=A (F.o.A4 s);have l4:=ck y.o;clear s;have g9:∀o,ao C C (C.alloc o):=λo=>(bz _ _).alloc (ar _) _
  have h3:∀o,(C.alloc o).cell? w6=I (J aq (af q).length cq):=λo=>ah (keep t.o (g9 o))
  have h0:=A g9;clear g9;go_wp2_with fail;refine(rP aq cq q ((j:Int)-1) _ (n.o.A4 (h0.o _)) (by omega) (by omega)).mono ?_;rintro e k0 ⟨rfl,m⟩;have L:=A (keep (ct C _) m);have m:=(h0.o _).trans (m.mono (by simp));have t:=A (keep t.o m);have y:=A (keep y.o m);have i:=A (keep i.o m);have d:=A (chain d.o m);have n:=A (n.o.A4 m);have F:=A (F.o.A4 m);clear m h3;obtain⟨r0,r1,r2,rf⟩:=cells3 i.o;obtain⟨q0,q1,q2,qf⟩:=cells3 L.o;rw[j7]
  by_cases g8:q.testBit (j-1)=V
  .have j0:=A g8;rw[g8];clear g8;have i2:M (w6.heap.size≠C.heap.size):=A (by omega);have k1:M (w6.heap.size+1≠C.heap.size):=A (by omega);have k2:M (w.heap.size+2≠C.heap.size):=A (by omega);have s:M (w.heap.size<=C.heap.size):=A (by omega);have h3:(k0.setCell ⟨C.heap.size,1,S⟩ (U Y 0)).cell? w6=I (J aq (af q).length cq):=ah ((aE (o:=1) (U Y 0) i2.o).trans t.o);go_wp2_with fail;have t:=A ((aE (o:=1) (U Y 0) i2.o).trans t.o);have y:=A ((aE (o:=1) (U Y 0) k1.o).trans y.o);have i:=A ((aE (o:=1) (U Y 0) k2.o).trans i.o);have d:=A (d.o.setCell (p:=⟨C.heap.size,1,S⟩) s.o (U Y 0));have n:=A (n.o.B5 L.o (by decide) 1 (U Y 0));have F:=A (F.o.B5 L.o (by decide) 1 (U Y 0));have L:=A (aB (o:=1) L.o (U Y 0));clear h3 r0 r1 r2 rf q0 q1 q2 qf;have m:((j:Int)-1)=((j-1:Nat):Int):=by omega
   have n4:Y.wrap ((j-1:Nat):Int)=((j-1:Nat):Int):=wr (by omega) (by omega);rw[m];clear m;refine(wI aq _ cq q (j-1) _ n.o (bp (co (k:=2) (by rw[h2.o];omega)) (by decide)) (by omega)).mono ?_;rintro e h3 ⟨k7,k8,k9,rfl,_,m⟩;have t:=A (keep t.o m);have y:=A (keep y.o m);have i:=A (keep i.o m);have d:=A (chain d.o m);have n:=A (n.o.A4 m);have F:=A (F.o.A4 m);have L:=A (keep L.o m);clear m;have g9:∀o,ao h3 h3 (h3.alloc o):=λo=>(bz _ _).alloc (ar _) _
   have h0:=A g9;clear g9
   by_cases P:q%2^(j-1)=0
   .have T:(q%2^(j-1)!=0)=W:=by simp[P]
    have i9:∀o,(h3.alloc o).cell? ⟨w6.heap.size+1,0,S⟩=I (J al (af r).length cl):=λo=>ah (keep y.o (h0.o o))
    have l0:=A P;rw[T];clear P;go_wp2_with fail;refine(lY al _ cl r br _ (F.o.A4 (h0.o _)) j5.o (by omega)).mono ?_;rintro e n5 ⟨rfl,m⟩;have m:=(h0.o _).trans (m.mono (by simp));have i:=A (keep i.o m);have d:=A (chain d.o m);have L:=A (keep L.o m);clear m i9;obtain⟨r0,r1,r2,rf⟩:=cells3 i.o;obtain⟨q0,q1,q2,qf⟩:=cells3 L.o
    by_cases g9:r=0
    .have h1:dI q r j=0:=aAJ j0.o l0.o g9;have i9:decide (r=0)=V:=by simp[g9]
     clear g9
     by_cases g:aM<B
     .have R:(9218868437227405311:Int)<(B:Int):=by unfold aM at g;omega
      have f:bH l D=⟨aM,1,W⟩:=by rw[g7.o];exact if_pos g
      have h:=A f;clear f g;go_wp2_with fail;exact E (v:=cutV ⟨aM,1,W⟩) (by simp[Q,ak,go_sem,r0,r1,r2,cutV,aM]) rfl ⟨by rw[h.o],(((d.o).setCell (X _ 2) _).setCell (X _ 2) _).setCell (X _ 2) _⟩
     .have R:¬(9218868437227405311:Int)<(B:Int):=by unfold aM at g;omega
      have f:bH l D=⟨B,dI q r j, !fE q r j⟩:=by rw[g7.o];exact if_neg g
      rw[h1,h5]at f;have h:=A f;clear f g;go_wp2_with fail;exact E (v:=cutV ⟨B,0, !V⟩) (by simp[Q,ak,go_sem,r0,r1,r2,q0,q1,q2,cutV]) rfl ⟨by rw[h.o],(((d.o).setCell (X _ 2) _).setCell (X _ 2) _).setCell (X _ 2) _⟩
    .have h1:dI q r j=1:=rS j0.o (au g9);have i9:decide (r=0)=W:=by simp[g9]
     clear g9
     by_cases g:aM<B
     .have R:(9218868437227405311:Int)<(B:Int):=by unfold aM at g;omega
      have f:bH l D=⟨aM,1,W⟩:=by rw[g7.o];exact if_pos g
      have h:=A f;clear f g;go_wp2_with fail;exact E (v:=cutV ⟨aM,1,W⟩) (by simp[Q,ak,go_sem,r0,r1,r2,cutV,aM]) rfl ⟨by rw[h.o],(((d.o.setCell (p:=⟨C.heap.size,1,S⟩) s.o (U Y 1)).setCell (X _ 2) _).setCell (X _ 2) _).setCell (X _ 2) _⟩
     .have R:¬(9218868437227405311:Int)<(B:Int):=by unfold aM at g;omega
      have f:bH l D=⟨B,dI q r j, !fE q r j⟩:=by rw[g7.o];exact if_neg g
      rw[h1,h5]at f;have h:=A f;clear f g;go_wp2_with fail;exact E (v:=cutV ⟨B,1, !V⟩) (by simp[Q,ak,go_sem,r0,r1,r2,q0,q1,q2,cutV]) rfl ⟨by rw[h.o],(((d.o.setCell (p:=⟨C.heap.size,1,S⟩) s.o (U Y 1)).setCell (X _ 2) _).setCell (X _ 2) _).setCell (X _ 2) _⟩
   .have T:(q%2^(j-1)!=0)=V:=by simp[P]
    have h1:dI q r j=1:=rS j0.o (aj P);rw[T];clear P;have m:=h0.o (G #[J k7 k8 k9] 381);have i:=A (keep i.o m);have d:=A (chain d.o m);have L:=A (keep L.o m);clear m;obtain⟨r0,r1,r2,rf⟩:=cells3 i.o;obtain⟨q0,q1,q2,qf⟩:=cells3 L.o
    by_cases g:aM<B
    .have R:(9218868437227405311:Int)<(B:Int):=by unfold aM at g;omega
     have f:bH l D=⟨aM,1,W⟩:=by rw[g7.o];exact if_pos g
     have h:=A f;clear f g;go_wp2_with fail;exact E (v:=cutV ⟨aM,1,W⟩) (by simp[Q,ak,go_sem,r0,r1,r2,cutV,aM]) rfl ⟨by rw[h.o],(((d.o.setCell (p:=⟨C.heap.size,1,S⟩) s.o (U Y 1)).setCell (X _ 2) _).setCell (X _ 2) _).setCell (X _ 2) _⟩
    .have R:¬(9218868437227405311:Int)<(B:Int):=by unfold aM at g;omega
     have f:bH l D=⟨B,dI q r j, !fE q r j⟩:=by rw[g7.o];exact if_neg g
     rw[h1,h5]at f;have h:=A f;clear f g;go_wp2_with fail;exact E (v:=cutV ⟨B,1, !V⟩) (by simp[Q,ak,go_sem,r0,r1,r2,q0,q1,q2,cutV]) rfl ⟨by rw[h.o],(((d.o.setCell (p:=⟨C.heap.size,1,S⟩) s.o (U Y 1)).setCell (X _ 2) _).setCell (X _ 2) _).setCell (X _ 2) _⟩
  .have g8:q.testBit (j-1)=W:=by simpa using g8
   have h1:dI q r j= -1:=pD g8;rw[g8]
   by_cases g:aM<B
   .have R:(9218868437227405311:Int)<(B:Int):=by unfold aM at g;omega
    have f:bH l D=⟨aM,1,W⟩:=by rw[g7.o];exact if_pos g
    have h:=A f;clear f g;go_wp2_with fail;exact E (v:=cutV ⟨aM,1,W⟩) (by simp[Q,ak,go_sem,r0,r1,r2,cutV,aM]) rfl ⟨by rw[h.o],(((d.o).setCell (X _ 2) _).setCell (X _ 2) _).setCell (X _ 2) _⟩
   .have R:¬(9218868437227405311:Int)<(B:Int):=by unfold aM at g;omega
    have f:bH l D=⟨B,dI q r j, !fE q r j⟩:=by rw[g7.o];exact if_neg g
    rw[h1,h5]at f;have h:=A f;clear f g;go_wp2_with fail;exact E (v:=cutV ⟨B,-1, !V⟩) (by simp[Q,ak,go_sem,r0,r1,r2,q0,q1,q2,cutV,i1]) rfl ⟨by rw[h.o],(((d.o).setCell (X _ 2) _).setCell (X _ 2) _).setCell (X _ 2) _⟩
def lM(s:Nat)(b:s<=8)(w:Z):bx H 109 #[s] w λe w'=>e=bu (ae (bL s))/\w'=w:=by
 have a:s=0\/s=1\/s=2\/s=3\/s=4\/s=5\/s=6\/s=7\/s=8:=by omega
 rcases a with rfl|rfl|rfl|rfl|rfl|rfl|rfl|rfl|rfl
 .rw[show bL 0=W from rfl];simp only[av,aw,ba];go_enter bc,bh;go_wp2;go_ret;exact⟨rfl,rfl⟩
 .rw[show bL 1=W from rfl];simp only[av,aw,ba];go_enter bc,bh;go_wp2;go_ret;exact⟨rfl,rfl⟩
 .rw[show bL 2=V from rfl];simp only[av,aw,ba];go_enter bc,bh;go_wp2;go_ret;exact⟨rfl,rfl⟩
 .rw[show bL 3=V from rfl];simp only[av,aw,ba];go_enter bc,bh;go_wp2;go_ret;exact⟨rfl,rfl⟩
 .rw[show bL 4=W from rfl];simp only[av,aw,ba];go_enter bc,bh;go_wp2;go_ret;exact⟨rfl,rfl⟩
 .rw[show bL 5=V from rfl];simp only[av,aw,ba];go_enter bc,bh;go_wp2;go_ret;exact⟨rfl,rfl⟩
 .rw[show bL 6=W from rfl];simp only[av,aw,ba];go_enter bc,bh;go_wp2;go_ret;exact⟨rfl,rfl⟩
 .rw[show bL 7=W from rfl];simp only[av,aw,ba];go_enter bc,bh;go_wp2;go_ret;exact⟨rfl,rfl⟩
 .rw[show bL 8=V from rfl];simp only[av,aw,ba];go_enter bc,bh;go_wp2;go_ret;exact⟨rfl,rfl⟩
def iK(c:UInt8)(w:Z):bx H 134 #[U ag c.toNat] w λe w'=>e=bu (ae (aI c))/\w'=w:=by
 by_cases a:c=32
 .have d:aI c=V:=by rw[a];rfl
  have g:=A d;have i:(c.toNat:Int)=32:=by rw[a];rfl
  clear d a;go_enter cw,cz;go_wp2;go_ret;exact⟨by rw[g.o];rfl,rfl⟩
 by_cases h:c=9
 .have d:aI c=V:=by rw[h];rfl
  have g:=A d;have i:(c.toNat:Int)=9:=by rw[h];rfl
  clear d a h;go_enter cw,cz;go_wp2;go_ret;exact⟨by rw[g.o];rfl,rfl⟩
 by_cases b:c=10
 .have d:aI c=V:=by rw[b];rfl
  have g:=A d;have i:(c.toNat:Int)=10:=by rw[b];rfl
  clear d a h b;go_enter cw,cz;go_wp2;go_ret;exact⟨by rw[g.o];rfl,rfl⟩
 by_cases f:c=13
 .have d:aI c=V:=by rw[f];rfl
  have g:=A d;have i:(c.toNat:Int)=13:=by rw[f];rfl
  clear d a h b f;go_enter cw,cz;go_wp2;go_ret;exact⟨by rw[g.o];rfl,rfl⟩
 have d:aI c=W:=by simp[aI,a,h,b,f]
 have g:=A d;obtain⟨-,l,-⟩:=aD (c:=c) (n:=32) a rfl;obtain⟨-,m,-⟩:=aD (c:=c) (n:=9) h rfl;obtain⟨-,j,-⟩:=aD (c:=c) (n:=10) b rfl;obtain⟨-,k,-⟩:=aD (c:=c) (n:=13) f rfl;clear d a h b f;go_enter cw,cz;go_wp2;go_ret;exact⟨by rw[g.o];rfl,rfl⟩
def lN(c:UInt8)(w:Z):bx H 140 #[U ag c.toNat] w λe w'=>e=bu (.string ⟨(aH c).toArray⟩)/\w'=w:=by
 by_cases a:c=110
 .have f:aH c= [110,117,108,108]:=by rw[a];rfl
  have g:=A f;have h:(c.toNat:Int)=110:=by rw[a];rfl
  clear f a;go_enter dp,dq;go_wp2;go_ret;exact⟨by rw[g.o];rfl,rfl⟩
 by_cases b:c=116
 .have f:aH c= [116,114,117,101]:=by rw[b];rfl
  have g:=A f;have h:(c.toNat:Int)=116:=by rw[b];rfl
  clear f a b;go_enter dp,dq;go_wp2;go_ret;exact⟨by rw[g.o];rfl,rfl⟩
 by_cases d:c=102
 .have f:aH c= [102,97,108,115,101]:=by rw[d];rfl
  have g:=A f;have h:(c.toNat:Int)=102:=by rw[d];rfl
  clear f a b d;go_enter dp,dq;go_wp2;go_ret;exact⟨by rw[g.o];rfl,rfl⟩
 have f:aH c= []:=by simp[aH,a,b,d]
 have g:=A f;obtain⟨-,i,-⟩:=aD (c:=c) (n:=110) a rfl;obtain⟨-,k,-⟩:=aD (c:=c) (n:=116) b rfl;obtain⟨-,j,-⟩:=aD (c:=c) (n:=102) d rfl;clear f a b d;go_enter dp,dq;go_wp2;go_ret;exact⟨by rw[g.o];rfl,rfl⟩
def aK6(o:Option UInt8)(e:Ending):Prop:=match o with
 | some b=>e=bu (ai #[U ag b.toNat,ae V])
 | none=>e=bu (ai #[U ag 0,ae W])
def aCI(c:UInt8)(w:Z):bx H 189 #[U ag c.toNat] w λe w'=>aK6 (cO c) e/\w'=w:=by
 by_cases b:c=34
 .have d:cO c=I 34:=by rw[b];rfl
  have l:=A d;have m:(c.toNat:Int)=34:=by rw[b];rfl
  clear d b;go_enter bj,bk;go_wp2;exact E (v:=ai #[U ag 34,ae V]) (by simp[Q,bm,go_sem,m]) rfl ⟨by rw[l.o];rfl,rfl⟩
 by_cases g:c=92
 .have d:cO c=I 92:=by rw[g];rfl
  have l:=A d;have m:(c.toNat:Int)=92:=by rw[g];rfl
  clear d b g;go_enter bj,bk;go_wp2;exact E (v:=ai #[U ag 92,ae V]) (by simp[Q,bm,go_sem,m]) rfl ⟨by rw[l.o];rfl,rfl⟩
 by_cases h:c=47
 .have d:cO c=I 47:=by rw[h];rfl
  have l:=A d;have m:(c.toNat:Int)=47:=by rw[h];rfl
  clear d b g h;go_enter bj,bk;go_wp2;exact E (v:=ai #[U ag 47,ae V]) (by simp[Q,bm,go_sem,m]) rfl ⟨by rw[l.o];rfl,rfl⟩
 by_cases j:c=98
 .have d:cO c=I 8:=by rw[j];rfl
  have l:=A d;have m:(c.toNat:Int)=98:=by rw[j];rfl
  clear d b g h j;go_enter bj,bk;go_wp2;exact E (v:=ai #[U ag 8,ae V]) (by simp[Q,bm,go_sem,m]) rfl ⟨by rw[l.o];rfl,rfl⟩
 by_cases a:c=102
 .have d:cO c=I 12:=by rw[a];rfl
  have l:=A d;have m:(c.toNat:Int)=102:=by rw[a];rfl
  clear d b g h j a;go_enter bj,bk;go_wp2;exact E (v:=ai #[U ag 12,ae V]) (by simp[Q,bm,go_sem,m]) rfl ⟨by rw[l.o];rfl,rfl⟩
 by_cases f:c=110
 .have d:cO c=I 10:=by rw[f];rfl
  have l:=A d;have m:(c.toNat:Int)=110:=by rw[f];rfl
  clear d b g h j a f;go_enter bj,bk;go_wp2;exact E (v:=ai #[U ag 10,ae V]) (by simp[Q,bm,go_sem,m]) rfl ⟨by rw[l.o];rfl,rfl⟩
 by_cases i:c=114
 .have d:cO c=I 13:=by rw[i];rfl
  have l:=A d;have m:(c.toNat:Int)=114:=by rw[i];rfl
  clear d b g h j a f i;go_enter bj,bk;go_wp2;exact E (v:=ai #[U ag 13,ae V]) (by simp[Q,bm,go_sem,m]) rfl ⟨by rw[l.o];rfl,rfl⟩
 by_cases k:c=116
 .have d:cO c=I 9:=by rw[k];rfl
  have l:=A d;have m:(c.toNat:Int)=116:=by rw[k];rfl
  clear d b g h j a f i k;go_enter bj,bk;go_wp2;exact E (v:=ai #[U ag 9,ae V]) (by simp[Q,bm,go_sem,m]) rfl ⟨by rw[l.o];rfl,rfl⟩
 have d:cO c=S:=by simp[cO,b,g,h,j,a,f,i,k]
 have l:=A d;obtain⟨-,s,-⟩:=aD (c:=c) (n:=34) b rfl;obtain⟨-,x,-⟩:=aD (c:=c) (n:=92) g rfl;obtain⟨-,u,-⟩:=aD (c:=c) (n:=47) h rfl;obtain⟨-,t,-⟩:=aD (c:=c) (n:=98) j rfl;obtain⟨-,r,-⟩:=aD (c:=c) (n:=102) a rfl;obtain⟨-,o,-⟩:=aD (c:=c) (n:=110) f rfl;obtain⟨-,p,-⟩:=aD (c:=c) (n:=114) i rfl;obtain⟨-,q,-⟩:=aD (c:=c) (n:=116) k rfl;clear d b g h j a f i k;go_enter bj,bk;go_wp2;exact E (v:=ai #[U ag 0,ae W]) (by simp[Q,bm,go_sem]) rfl ⟨by rw[l.o];rfl,rfl⟩
section
def aQ(s e:Nat)(w:Z)(v:ac)(n:Nat)(b:List ac):Prop:=b.length=n*s/\((v=J S 0 0/\n=0)\/
 ∃g off cap a,v=J (I ⟨g,off,S⟩) n cap/\w.heap[g]?=I (G a e (0,0))/\n<=cap/\off+cap*s<=a.size/\cap<=dt/\∀(j:Nat)(u:ac),b[j]?=I u->a[off+j]?=I u)
def lB(t e s bytes:Nat):Prop:=H.underlying t=I (.slice e)/\0<s/\∃i z,H.info? e=I i/\i.zero=I z/\i.size=s/\i.bytes=bytes/\z.cells.size=s
def oC(g:Nat):∀(a:List ac)(o:Nat)(w:Z)(c:Array ac)(T:dw),w.heap[g]?=I (G c T (0,0))->
 ∃b,(w.setCells g o a).heap[g]?=I (G b T (0,0))/\b.size=c.size/\(∀j u,a[j]?=I u->o+j<c.size->b[o+j]?=I u)/\(∀k,k<o->b[k]?=c[k]?)/\Keeps (λk=>k=g) w (w.setCells g o a):=by
 intro a
 induction a with
 | nil=>intro o w c T h;exact⟨c,h,rfl,λj u d=>by simp at d,λ_ _=>rfl,du _ _⟩
 | cons x a q=>
  intro o w c T h;obtain⟨b,l,i,n,e,m⟩:=q (o+1) (w.setCell ⟨g,o,S⟩ x) _ T (aB h x);refine⟨b,l,by rw[i];simp,?_,?_,((du (λk=>k=g) w).A3 (p:=⟨g,o,S⟩) (aj rfl) x).same m⟩
  .intro j u d f;cases j with
   | zero=>
    simp at d;subst d;rw[Nat.add_zero,e o (by omega),ez,if_pos rfl,if_pos (by omega)]
   | succ j=>
    have:=n j u (by simpa using d) (by simp;omega);rw[show o+(j+1)=o+1+j by omega];exact this
  .intro k r;rw[e k (by omega),ez,if_neg (by omega)]
section
variable {s e:Nat} {w:Z} {v:ac} {n:Nat} {cs:List ac}
def aQ.nil(s e:Nat)(w:Z):aQ s e w (J S 0 0) 0 []:=⟨by simp,aj ⟨rfl,rfl⟩⟩
def aQ.A2{F:Nat->Prop}{w':Z}(h:aQ s e w v n cs)(c:Keeps F w w')(d:∀k,v.ownBlock=I k->¬F k):aQ s e w' v n cs:=by
 refine⟨h.1,?_⟩;rcases h.2 with f|⟨g,off,cap,a,rfl,b,rest⟩
 .exact aj f
 .exact au ⟨g,off,cap,a,rfl,c.B7 b (d g rfl),rest⟩
def aQ.A7(h:aQ s e w v n cs):∃a c,v=J a n c:=by
 rcases h.2 with⟨rfl,rfl⟩|⟨g,off,cap,b,rfl,_⟩
 .exact⟨S,0,rfl⟩
 .exact⟨_,_,rfl⟩
def aQ.lt(h:aQ s e w v n cs){k:Nat}(a:v.ownBlock=I k):k<w.heap.size:=by
 rcases h.2 with⟨rfl,_⟩|⟨g,off,cap,b,rfl,c,_⟩
 .cases a
 .cases a;exact ck c
def aQ.ne(h:aQ s e w v n cs){b:Nat}{c:Array ac}{T:dw}(f:w.heap[b]?=I (G c T (0,0)))(i:T≠e):v.ownBlock≠I b:=by
 rcases h.2 with⟨rfl,_⟩|⟨g,off,cap,j,rfl,a,_⟩
 .simp[fa]
 .intro d;simp only[fa,fc]at d;subst d;rw[f]at a;simp only[fc,ft]at a;exact i a.2.1
def aQ.B3{g off cap:Nat}(h:aQ s e w (J (g,off) n cap) n cs){j:Nat}{u:ac}(i:cs[j]?=I u):w.cell? ⟨g,off+j,S⟩=I u:=by
 rcases h.2 with⟨a,_⟩|⟨k,b,c,f,a,d,o,l,m,hi⟩
 .cases a
 .cases a;rw[aA d];exact hi j u i
def aQ.K9{B:Nat}(h:w.ownsRow B e s v n cs):aQ s e w v n cs/\∀k,v.ownBlock=I k->B<=k:=by
 rcases h.2 with⟨rfl,rfl⟩|⟨g,cap,c,rfl,m,i,o,l,p,f⟩
 .exact⟨⟨h.1,aj ⟨rfl,rfl⟩⟩,λk b=>by cases b⟩
 .refine⟨⟨h.1,au ⟨g,0,cap,c,rfl,i,o,by omega,l,λj u d=>?_⟩⟩,λk b=>by cases b;exact m⟩;have a:j<cs.length:=(dy.1 d).1;have:=congrArg (λx=>x[j]?) f;rw[h.1]at a;simp only[List.getElem?_take,if_pos a,Array.getElem?_toList,d]at this
  simpa using this
def bC{D:Array bw}{rest:List bw}{a0:Exit->Act->Z->Prop}(a2:lB t e s bytes)(K:o.guard=S)(so x:ee)
 (ho:o.op=.call {callee:=eh ei,args:= #[so,x],argTypes:= #[t,t]})(hs:a.eval so=v)(h:aQ s e w v n cs)(ad:cg)(m c:Nat)(d:List ac)(hx:a.eval x=J (I ad) m c)(r:d.length=m*s)
 (l:∀j u,d[j]?=I u->w.cell? (ad.add j)=I u)(h1:∀u∈d,u.oneCell'=V)(g9:1<=m)(hb:(n+m)*bytes<=140737488355328)(hm:n+m<=dt)
 (a1:∀g off cap w',aQ s e w' (J (I ⟨g,off,S⟩) (n+m) cap) (n+m) (cs++d)->(v.ownBlock=I g\/(w.heap.size<=g/\g<w'.heap.size))->Keeps (λk=>v.ownBlock=I k) w w'->dh H D a0 rest (a.put o.dst (J (I ⟨g,off,S⟩) (n+m) cap)) w'):
 dh H D a0 (o::rest) a w:=by
 obtain⟨ht,L,i,z,hi,hz,N,P,R⟩:=a2;have g2:∀{w':Z}{T:Option Nat},w.grownBy w' T->(∀k,T=I k->v.ownBlock=I k)->Keeps (λk=>v.ownBlock=I k) w w':=λB hr=>(du _ w).D7 B (λk e=>aj (hr k e))
 have C:∀v' w',w'.ownsRow w.heap.size e s v' (n+m) (cs++d)->w.grownBy w' S->dh H D a0 rest (a.put o.dst v') w':=by
  intro v' w' f p;obtain⟨y,F⟩:=aQ.K9 f;rcases f.2 with⟨_,hn⟩|⟨g,cap,g0,rfl,q,B,_⟩
  .omega
  .exact a1 g 0 cap w' y (au ⟨q,ck B⟩) (g2 p (λk e=>by cases e))
 obtain⟨p,h⟩:=h;rcases h with⟨rfl,rfl⟩|⟨g,off,cap,g0,rfl,B,-,h0,g3,q⟩
 .exact wpList_append_grows w K so x t ho e i z s bytes ht hi hz N P R L S 0 0 cs hs (λ_=>⟨rfl,rfl⟩) p (λb hb=>by cases hb) ad m c d hx r l h1 (by omega) hm hb C
 .refine wpList_append_arg w K so x t ho e i z s bytes ht hi hz N P R L g off n cap cs hs p (λj u y=>by rw[aA B];exact q j u y) ad m c d hx r l h1 ?_ hm hb ?_ (λ_=>C)
  .intro f j y;have F:(n+m)*s<=cap*s:=cv s f;rw[di]at F;rw[r]at y;refine⟨?_,free_at B _⟩;rw[aA B,fe (by omega)];rfl
  .intro f;have F:(n+m)*s<=cap*s:=cv s f;rw[di]at F;obtain⟨g1,g4,h2,g5,g6,g7⟩:=oC g d (off+n*s) w g0 e B;refine a1 g off cap _ ⟨by rw[fg,p,r,di],au ⟨g,off,cap,g1,rfl,g4,f,by omega,g3,?_⟩⟩ (aj rfl) (g7.mono (λk e=>by rw[e];rfl));intro j u y
   by_cases g8:j<cs.length
   .rw[fh g8]at y;rw[g6 _ (by omega)];exact q j u y
   .rw[fi (by omega)]at y;have h3:=(dy.1 y).1;have:=g5 (j-cs.length) u y (by omega);rw[show off+n*s+(j-cs.length)=off+j by omega]at this;exact this
def vW{ty:Nat}(a0:lB t e s bytes)(f:aQ s e w v n cs)(C:cg)(m c:Nat)(a:List ac)(h:a.length=m*s)
 (d:∀j u,a[j]?=I u->w.cell? (C.add j)=I u)(h1:∀u∈a,u.oneCell'=V)(g8:1<=m)(hb:(n+m)*bytes<=140737488355328)(hm:n+m<=dt):
 ∃g off cap w',(fu #[t,t] ty #[v,J (I C) m c]).run H w=.ok (J (I ⟨g,off,S⟩) (n+m) cap) w'/\aQ s e w' (J (I ⟨g,off,S⟩) (n+m) cap) (n+m) (cs++a)/\(v.ownBlock=I g\/(w.heap.size<=g/\g<w'.heap.size))/\Keeps (λk=>v.ownBlock=I k) w w':=by
 obtain⟨ht,D,i,z,hi,hz,B,F,K⟩:=a0;have g0:∀{w':Z}{L:Option Nat},w.grownBy w' L->(∀k,L=I k->v.ownBlock=I k)->Keeps (λk=>v.ownBlock=I k) w w':=λr N=>(du _ w).D7 r (λk e=>aj (N k e))
 have x:∀y w',w'.ownsRow w.heap.size e s y (n+m) (cs++a)->(∀k,y.ownBlock=I k->True)->w.grownBy w' S->∃g cap,y=J (I ⟨g,0,S⟩) (n+m) cap/\aQ s e w' (J (I ⟨g,0,S⟩) (n+m) cap) (n+m) (cs++a)/\(v.ownBlock=I g\/(w.heap.size<=g/\g<w'.heap.size))/\Keeps (λk=>v.ownBlock=I k) w w':=by
  intro y w' b _ l;obtain⟨p,q⟩:=aQ.K9 b;rcases b.2 with⟨_,T⟩|⟨g,cap,R,rfl,o,r,_⟩
  .omega
  .exact⟨g,cap,rfl,p,au ⟨o,ck r⟩,g0 l (λk e=>by cases e)⟩
 obtain⟨l,f⟩:=f;rcases f with⟨rfl,rfl⟩|⟨g,off,cap,R,rfl,r,-,g9,g1,o⟩
 .obtain rfl:cs= []:=fj (by simpa using l);obtain⟨y,w',b,r1,r2,_⟩:=run_append_own (P:=H) w w.heap.size t ty e i z s bytes ht hi hz B F K D (J S 0 0) 0 [] (World.ownsRow_nil w _ e s) C m c a h d h1 hm hb (ar _);obtain⟨g,cap,rfl,h2,h3,h4⟩:=x y w' r1 (λ_ _=>trivial) r2;exact⟨g,0,cap,w',b,h2,h3,h4⟩
 .by_cases N:n+m<=cap
  .subst B;have g2:(n+m)*i.size<=cap*i.size:=cv _ N;rw[di]at g2
   have p:∀j,j<a.length->(w.cell? ⟨g,off+n*i.size+j,S⟩).isSome=V:=by
    intro j q;rw[h]at q;rw[aA r,fe (by omega)];rfl
   have b:=run_append_room_cells (P:=H) w t ty e i ht hi g off n cap C m c a h d h1 N p (λj _=>free_at r _);obtain⟨T,g3,h0,g4,g5,g6⟩:=oC g a (off+n*i.size) w R e r;refine⟨g,off,cap,_,b,⟨by rw[fg,l,h,di],au ⟨g,off,cap,T,rfl,g3,N,by omega,g1,?_⟩⟩,aj rfl,g6.mono (λk e=>by rw[e];rfl)⟩;intro j u q
   by_cases g7:j<cs.length
   .rw[fh g7]at q;rw[g5 _ (by omega)];exact o j u q
   .rw[fi (by omega)]at q;have h5:=(dy.1 q).1;have:=g4 (j-cs.length) u q (by omega);rw[show off+n*i.size+(j-cs.length)=off+j by omega]at this;exact this
  .obtain⟨y,w',b,r1,r2⟩:=run_append_arg_grows (P:=H) w t ty e i z s bytes ht hi hz B F K D ⟨g,off,S⟩ n cap cs l (λj u q=>by rw[Addr.add_lit,aA r];exact o j u q) C m c a h d (by omega) hm hb;obtain⟨T,p,rfl,h2,h3,h4⟩:=x y w' r1 (λ_ _=>trivial) r2;exact⟨T,0,p,w',b,h2,h3,h4⟩
def bP{f:Array bw}{K:Act->Z->Prop}{a0:Exit->Act->Z->Prop}{D:Prop}(a1:lB t e s bytes)(l:o.guard=S)(y x:ee)
 (z:o.op=.call {callee:=eh ei,args:= #[y,x],argTypes:= #[t,t]})(B:a.eval y=v)(h:aQ s e w v n cs)(p:cg)(m c:Nat)(b:List ac)(C:a.eval x=J (I p) m c)(q:b.length=m*s)
 (d:∀j u,b[j]?=I u->w.cell? (p.add j)=I u)(F:∀u∈b,u.oneCell'=V)(r:1<=m)(L:(n+m)*bytes<=140737488355328)(N:n+m<=dt)
 (a2:∀g off cap w',aQ s e w' (J (I ⟨g,off,S⟩) (n+m) cap) (n+m) (cs++b)->(v.ownBlock=I g\/(w.heap.size<=g/\g<w'.heap.size))->Keeps (λk=>v.ownBlock=I k) w w'->K (a.put o.dst (J (I ⟨g,off,S⟩) (n+m) cap)) w'):
 if ej o (yielded f a.tmps)=V then ek H o a w K a0 else D:=by
 have P:ej o (yielded f a.tmps)=V:=by simp[ej,l]
 rw[if_pos P];obtain⟨g,off,cap,w',i,R,T,h4⟩:=vW (ty:=o.type) a1 h p m c b q d F r L N;unfold ek execOp;simp only[z,resolve,invoke,builtin,Sem.run_bind,Sem.run_pure,Result.andThen_ok,List.map_toArray,List.map_cons,List.map_nil,B,C,i];exact a2 g off cap w' R T h4
def xG(w:Z)(k:Nat)(d:Option cg)(c:Nat):(em k 0 (J d 0 c)).run H w=.ok #[] w:=by
 cases d with
 | none=>simp[em]
 | some b=>
  have h:=run_loadCells_list (P:=H) w b [] (λj v a=>by simp at a)
  simpa[em]using h
def sD{b:Array bw}{rest:List bw}{R:Exit->Act->Z->Prop}(T:lB t e s bytes)(j:o.guard=S)(m x:ee)
 (r:o.op=.call {callee:=eh ei,args:= #[m,x],argTypes:= #[t,t]})(y:a.eval m=v)(d:aQ s e w v n cs)(p:Option cg)(c:Nat)(B:a.eval x=J p 0 c)
 (a0:dh H b R rest (a.put o.dst v) w):
 dh H b R (o::rest) a w:=by
 obtain⟨q,-,i,z,hi,-,-,-,-⟩:=T
 obtain⟨k,L,C,D,l⟩:∃k L C,v=J k L C/\L<=C:=by
  rcases d.2 with⟨rfl,_⟩|⟨g,off,cap,f,rfl,-,h,_⟩
  .exact⟨_,_,_,rfl,ar _⟩
  .exact⟨_,_,_,rfl,h⟩
 subst D;have f:Src H i.size t (J p 0 c) 0 [] w:=⟨aj ⟨e,q⟩,λw'=>by simp[fv],xG w _ p c,xG w.drew _ p c,by simp,λu F=>by simp at F⟩;have h:=run_append_nothing (P:=H) w t t o.type e i q hi k L C l (J p 0 c) f;refine wpList_plain j λK N=>?_
 unfold ek;simp[execOp,r,resolve,invoke,builtin,y,B,h,Result.andThen];exact N _ _ a0
end
def Win.M7{m:Type}{e:Nat}{enc:m->ac}{w:Z}{v:ac}{l:List m}(h:Win e enc w v l):aQ 1 e w v l.length (l.map enc):=by
 refine⟨by simp,?_⟩;rcases h with⟨rfl,rfl⟩|⟨g,off,cap,b,rfl,d,i,k,f,hi⟩
 .exact aj ⟨rfl,rfl⟩
 .refine au ⟨g,off,cap,b,rfl,d,i,by omega,f,λj u a=>?_⟩;rw[fk]at a;cases c:l[j]? with
  | none=>rw[c]at a;cases a
  | some x=>rw[c]at a;simp at a;subst a;exact hi j x c
def aQ.E8{p:Type}{e n:Nat}{enc:p->ac}{w:Z}{v:ac}{l:List p}(h:aQ 1 e w v n (l.map enc)):Win e enc w v l:=by
 obtain⟨b,h⟩:=h;have j:l.length=n:=by simpa using b
 subst j;rcases h with⟨rfl,d⟩|⟨g,off,cap,a,rfl,c,m,o,k,hi⟩
 .exact aj ⟨rfl,fj d⟩
 .exact au ⟨g,off,cap,a,rfl,c,m,by omega,k,λi x f=>hi i (enc x) (by rw[fk,f];rfl)⟩
end
