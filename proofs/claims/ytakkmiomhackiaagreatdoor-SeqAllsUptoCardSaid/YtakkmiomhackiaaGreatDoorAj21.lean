/-
  The program, one part of its walk. Conditions: none.
-/
import Derived.Test.YtakkmiomhackiaaGreatDoorAj14
import Derived.Test.YtakkmiomhackiaaGreatDoorRows
import Derived.JoinedCond
import Derived.KernelRfl
set_option linter.all false
set_option maxRecDepth 100000
set_option maxHeartbeats 16000000
open Go.Proofs.Tryz
open Bool renaming false->Y,true->N
open ByteArray renaming size_extract->dm
open Go renaming Calls->av,World->h,cell_of_one->ag,free_of_one->ar,joinedFacts->em,lt_of_block->cj,results->ak
open Go.Ending renaming returned->az
open Go.IntKind renaming i64->I,u64->g,u8->et,wrap_u64->bg
open Go.Lib renaming trimLeftB->bk,trimRightB->au
open Go.Obj renaming cells->S
open Go.OpenSpec renaming ofChange->ew
open Go.Proofs renaming intOf->bj
open Go.Proofs.Tryz renaming f7->ae,func160->bm,ntmps160->bp,prog->aw,results120->bs,results121->cw,results163->eh
open Go.Proofs.YtakkmiomhackiaaGreatDoor.Fig renaming figs->bx
open Go.RowKit renaming Below->ao,Hid->ah
open Go.Value renaming agg->ai,bool->Z,int->J,slice->O,string->E,tuple->bh
open Int renaming lt_or_le->dv
open List renaming dropWhile_cons->cu,length->ej,reverse_append->dx,reverse_singleton->dy
open Nat renaming pow_le_pow_left->dq
open Option renaming none->U,some->Q
open Or renaming inl->af,inr->ac
namespace Go.Proofs.YtakkmiomhackiaaGreatDoor
open Go.RowKit
def aKf{n k:Nat}(b:n<10000^k)(a:k<=1048576):(bx n).length<=1048576:=bo (Fig.figs_length_le b) a
def yU{X a n:Nat}(b:X<10000^a):X*10^n<10000^(a+n):=by
 rw[Nat.pow_add];exact Nat.mul_lt_mul_of_lt_of_le b (dq (by decide) n) (Nat.pow_pos (by decide))
def yV(neg:Bool)(a:ByteArray)(e:Int)(m:Nat)(k:Int)(w:h)(u:a.size<=2147483648)(x: -4611686018427387904<=e)(q:e<=4611686018427387904)
 (z:a.data.toList= []\/m=0\/320<(a.size:Int)+e\/(a.size:Int)+e< -340):
 av aw 160 #[ai #[neg,a,e],J g m,k] w λr w'=>r=az (J I (aW ⟨neg,a.data.toList,e⟩ m k))/\ao w w w':=by
 have i:a.data.toList.length=a.size:=by simp
 have s:I.wrap ((a.size:Int)+e)=(a.size:Int)+e:=by rw[b9];omega
 have f:=(dk w w).alloc (hU _) (S #[neg,a,J I e] 251);by_cases t:a.size=0
 .have c:a.data.toList= []:=eb (by omega);by_cases d:m=0
  .subst d;have b:aW ⟨neg,a.data.toList,e⟩ 0 k=0:=(by unfold aW;rw[c];simp);rw[b];simp only[gL];clear z c b;go_enter bm,bp;go_wp2;go_ret;exact⟨rfl,f⟩
  .have b:aW ⟨neg,a.data.toList,e⟩ m k= -1:=(by unfold aW;rw[c];simp;omega);rw[b];have o:(0:Int)<(m:Int):=(by omega);clear z c b;go_enter bm,bp;go_wp2;go_ret;exact⟨rfl,f⟩
 .have c:a.data.toList≠ []:=λe=>by rw[e]at i;simp at i;omega
  have p:¬(a.size:Int)=0:=by omega
  have o:((a.size:Int)==0)=Y:=by simpa using p
  have v:(0:Int)<(a.size:Int):=by omega
  by_cases d:m=0
  .subst d;have b:aW ⟨neg,a.data.toList,e⟩ 0 k=1:=(by unfold aW;rw[pz (by simp),pz c]);rw[b];simp only[gL];clear z c b;go_enter bm,bp;go_wp2;go_ret;exact⟨rfl,f⟩
  .have n:¬(m:Int)=0:=(by omega);have y:((m:Int)==0)=Y:=(by simpa using n);by_cases j:320<(a.size:Int)+e
   .have b:aW ⟨neg,a.data.toList,e⟩ m k=1:=(by unfold aW fJ;simp only[i];rw[py (by simp[c,d]),pz j]);rw[b];clear z c b;go_enter bm,bp;go_wp2;go_ret;exact⟨rfl,f⟩
   .have l:(a.size:Int)+e< -340:=by
     rcases z with z|z|z|z
     .exact absurd z c
     .exact absurd z d
     .exact absurd z j
     .exact z
    have b:aW ⟨neg,a.data.toList,e⟩ m k= -1:=(by unfold aW fJ;simp only[i];rw[py (by simp[c,d]),py j,pz l]);rw[b];clear z c b;go_enter bm,bp;go_wp2;go_ret;exact⟨rfl,f⟩
def aLx{d:Oo}(e:∀c∈d,isD c=N):∀c∈bG d,48<=c.toNat/\c.toNat<=57:=by
 unfold bG;intro c b;split at b
 .rcases List.mem_append.1 b with a|a
  .exact kK (e c (List.mem_of_mem_take a))
  .rw[List.mem_singleton.1 a];decide
 .exact kK (e c b)
def aKg(a:Oo):(bG a).length<=801:=by
 unfold bG;split
 .rw[cn,List.length_take];simp;omega
 .omega
def aAm(neg:Bool)(d:ByteArray)(e:Int)(m:Nat)(k:Int)(w:h)(f:gC ⟨neg,d.data.toList,e⟩)(hs:d.size<=2147483648)
 (y:d.data.toList≠ [])(hm:m≠0)(l:m<18446744073709551616)(ht:(d.size:Int)+e<=320)(k9: -340<=(d.size:Int)+e)(hk: -1100<=k)(h5:k<=1100):
 av aw 160 #[ai #[neg,d,e],J g m,k] w λr w'=>r=az (J I (aW ⟨neg,d.data.toList,e⟩ m k))/\ao w w w':=by
 have hl:d.data.toList.length=d.size:=by simp
 have q0:I.wrap ((d.size:Int)+e)=(d.size:Int)+e:=by rw[b9];omega
 have q1:¬(320:Int)<(d.size:Int)+e:=by omega
 have q2:¬(d.size:Int)+e< -340:=by omega
 have l0:d.size≠0:=λa1=>y (eb (by omega));have z1:¬(d.size:Int)=0:=by omega
 have z2:((d.size:Int)==0)=Y:=by simpa using z1
 have y1:¬(m:Int)=0:=by omega
 have y2:((m:Int)==0)=Y:=by simpa using y1
 have a:=aGS f y;have q:=yS d.data.toList e;obtain⟨c0,t0,u0,z,i⟩:=aDy y;have F:c0≠48:=f.first c0 t0 z;have j:=aLx f.f;have s:=aKg d.data.toList;have h7:=A (λW:h=>aH5 neg d e W hs (by omega) (by omega))
 have hv:aW ⟨neg,d.data.toList,e⟩ m k=gG (bO (bG d.data.toList)*10^(eD d.data.toList e).toNat*2^(-k).toNat) (m*10^(-eD d.data.toList e).toNat*2^k.toNat):=by
  unfold aW fJ numOf fI;simp only[hl];rw[py (by simp[y,hm]),py q1,py q2]
 rw[hv];unfold fV at h7;simp only at h7;unfold numOf at a;simp only at a;obtain⟨C,hC⟩:∃C:ByteArray,(⟨(bG d.data.toList).toArray⟩:ByteArray)=C:=⟨_,rfl⟩;have G:bG d.data.toList=C.data.toList:=by rw[<-hC]
 simp only[hC]at h7;rw[G]at q i j s a⊢;have t:C.data.toList.length=C.size:=by simp
 rw[t]at q s;generalize eD d.data.toList e=a0 at*;have H:0<C.size:=by rw[<-t,i];simp
 have P:C[0].toNat≠48:=by
  have c:C.data.toList[0]?=Q C[0]:=by rw[List.getElem?_eq_getElem (by omega)];rfl
  rw[i]at c;simp at c;rw[<-c];intro a1;exact F (kb a1)
 obtain⟨T,hT⟩:∃T,T=801:=⟨_,rfl⟩;have c:bO C.data.toList<10000^T:=a7 (kH λx hx=>(j x hx).2) (bo (dq (by decide) _) (Nat.pow_le_pow_right (by decide) (by omega)));have i6:=A (λW:h=>aFp C W j (by omega) H P);obtain⟨X,hX⟩:∃X,bO C.data.toList=X:=⟨_,rfl⟩;rw[hX]at i6 c a⊢;have V:X≠0:=λa1=>by rw[a1]at a;simp at a
 have h6: -1141<=a0:=by omega
 have i2:a0<=320:=by omega
 have h4:m<10000^5:=a7 l (by decide);have k0:=A V;have i0:=A (aKf (yU (n:=a0.toNat) c) (by omega));have i1:=A (aKf (yU (n:=(-a0).toNat) h4) (by omega));obtain⟨Xn,B⟩:∃Xn,X*10^a0.toNat=Xn:=⟨_,rfl⟩;obtain⟨Yn,D⟩:∃Yn,m*10^(-a0).toNat=Yn:=⟨_,rfl⟩;rw[B]at i0⊢;rw[D]at i1⊢;obtain⟨Xf,u⟩:∃Xf,Xn*2^(-k).toNat=Xf:=⟨_,rfl⟩;obtain⟨Yf,v⟩:∃Yf,Yn*2^k.toNat=Yf:=⟨_,rfl⟩;rw[u,v];have i7:=A B;have i8:=A u;have i9:=A D;have j0:=A v;have k1:=A (λW:h=>sM m W l);have k2:=A hm;clear f y a z i F j s hv hC G t H P hX V c l q hm B u D v h4;have q:=(dk w w).alloc (hU _) (S #[neg,d,e] 251);have s:(w.alloc (S #[neg,d,e] 251)).heap[w.heap.size]?=Q (S #[neg,d,e] 251 (0,0)):=aL w _;go_enter bm,bp;go_wp2_with fail;refine(h7.o _).mono ?_;rintro r w1 ⟨rfl,a⟩;have s:=keep s a;have q:=chain q a;obtain⟨c0,c1,c2,cf⟩:=cells3 s;have h8:=A s;have HB:=A q;clear s q a;go_wp2_with fail;have s:=aB (o:=2) (aB (o:=1) (aB (o:=0) h8.o (Z neg)) (E C)) (J I a0);have q:=((HB.o.setCell (p:=w) (hU _) (Z neg)).setCell (p:=⟨w.heap.size,1,U⟩) (hU _) (E C)).setCell (p:=⟨w.heap.size,2,U⟩) (hU _) (J I a0);generalize ((w1.setCell {block:=w.heap.size,off:=0} (Z neg)).setCell {block:=w.heap.size,off:=1} (E C)).setCell {block:=w.heap.size,off:=2} (J I a0)=w2 at*;have s:w2.heap[w.heap.size]?=Q (S #[neg,C,a0] 251 (0,0)):=s;clear h8 HB c0 c1 c2 cf;refine(i6.o _).mono ?_;rintro r F ⟨ax,kx,cx,rfl,i,a⟩;have s:=keep s a;have q:=chain q a;have k3:=cj s;have t:(F.alloc (S #[O ax kx cx] 324)).heap[F.heap.size]?=Q (S #[O ax kx cx] 324 (0,0)):=aL F _;have s:=(de F (S #[O ax kx cx] 324) _ k3).trans s;have q:=q.alloc (by omega) (S #[O ax kx cx] 324);have i:=i.A5 (S #[O ax kx cx] 324);have h8:=A s;have j:=A t;have HB:=A q;have v:=A i;clear s q t i a;go_wp2_with fail;generalize F.alloc (S #[O ax kx cx] 324)=w4 at*;refine(k1.o _).mono ?_;rintro r z ⟨ay,ky,cy,rfl,y,c⟩;have s:=keep h8.o c;have t:=keep j.o c;have q:=chain HB.o c;have i:=v.o.A7 c;have k4:=cj t;have f:(z.alloc (S #[O ay ky cy] 324)).heap[z.heap.size]?=Q (S #[O ay ky cy] 324 (0,0)):=aL z _;have s:=(de z (S #[O ay ky cy] 324) _ (cj s)).trans s;have t:=(de z (S #[O ay ky cy] 324) _ k4).trans t;have q:=q.alloc (by omega) (S #[O ay ky cy] 324);have i:=i.A5 (S #[O ay ky cy] 324);have y:=y.A5 (S #[O ay ky cy] 324);have h9:F.heap.size≠z.heap.size:=by omega
 have j1:w.heap.size<=F.heap.size:=by omega
 have j2:w.heap.size<=z.heap.size:=by omega
 obtain⟨c0,c1,c2,cf⟩:=cells3 s;have c8:=ag t;have j3:=ag f;have f8:=ar t;have j5:=ar f;have j:=A t;have a:=A f;have HB:=A q;have v:=A i;have P:=A y;clear s t f q i y c
 have k5:(∃n:Nat,a0=(n:Int)/\n<=1141)\/(∃n:Nat,a0= -(n:Int)/\1<=n/\n<=1141):=by
  rcases dv a0 0 with a1|a1
  .exact ac ⟨(-a0).toNat,by omega,by omega,by omega⟩
  .exact af ⟨a0.toNat,by omega,by omega⟩
 have k6:(∃K:Nat,k=(K:Int)/\K<=1100)\/(∃K:Nat,k= -(K:Int)/\1<=K/\K<=1100):=by
  rcases dv k 0 with a1|a1
  .exact ac ⟨(-k).toNat,by omega,by omega,by omega⟩
  .exact af ⟨k.toNat,by omega,by omega⟩
 clear hk h5 h6 i2;rcases k5 with⟨n,rfl,hn⟩|⟨n,rfl,l1,hn⟩
 all_goals
  rcases k6 with⟨K,rfl,hK⟩|⟨K,rfl,l2,hK⟩
  all_goals
   have j6:=A (λW:h=>aLf K W (by omega));go_wp2_with fail;generalize c:z.alloc (S #[O ay ky cy] 324)=w6 at*;clear c
   first
    | (have e1:X=Xn:=by have:=i7.o;simpa using this
       have e2:m*10^n=Yn:=by have:=i9.o;simpa using this
       refine(xW ay ky cy m n _ P.o k2.o (by omega) (by rw[e2];exact i1.o)).mono ?_;rintro r w7 ⟨l,u,G,rfl,H,c⟩;rw[e2]at H;have t:=keep j.o c;have f:=keep a.o c;have q:=chain HB.o c;have i:=v.o.A7 c;rw[e1]at i;have j5:=ar f;have j3:=ag f;have j:=A ((aE (o:=0) (O l u G) h9).trans t);have a:=A (aB (o:=0) f (O l u G));have P:=A (H.E0 f (by decide) 0 (O l u G));have v:=A (i.E0 f (by decide) 0 (O l u G));have HB:=A (q.setCell (p:=z) j2 (O l u G));have h6:=ag j.o;have V:=ag a.o;have i2:=ar j.o;have h4:=ar a.o;clear H c t f q i e1 e2;go_wp2_with fail;generalize w7.setCell z (O l u G)=i at*;obtain⟨x1,x2,x3,y1,y2,y3,G8,h5,FX,FY⟩:∃x1 x2 x3 y1 y2 y3,M (i.heap[F.heap.size]?=Q (S #[O x1 x2 x3] 324 (0,0)))/\M (i.heap[z.heap.size]?=Q (S #[O y1 y2 y3] 324 (0,0)))/\M (Fgs i (O x1 x2 x3) (bx Xn))/\M (Fgs i (O y1 y2 y3) (bx Yn)):=⟨ax,kx,cx,l,u,G,j,a,v,P⟩;clear h6 V i2 h4 j5 j3)
    | (have e1 : X * 10 ^ n = Xn := by have := i7.o; simpa using this
       have e2:m=Yn:=by have:=i9.o;simpa using this
       refine(xW ax kx cx X n _ v.o k0.o (by omega) (by rw[e1];exact i0.o)).mono ?_;rintro r w7 ⟨l,u,G,rfl,H,c⟩;rw[e1]at H;have t:=keep j.o c;have f:=keep a.o c;have q:=chain HB.o c;have y:=P.o.A7 c;rw[e2]at y;have f8:=ar t;have c8:=ag t;have a:=A ((aE (o:=0) (O l u G) h9.symm).trans f);have j:=A (aB (o:=0) t (O l u G));have v:=A (H.E0 t (by decide) 0 (O l u G));have P:=A (y.E0 t (by decide) 0 (O l u G));have HB:=A (q.setCell (p:=F) j1 (O l u G));have h6:=ag j.o;have V:=ag a.o;have i2:=ar j.o;have h4:=ar a.o;clear H c t f q y e1 e2;go_wp2_with fail;generalize w7.setCell F (O l u G)=i at*;obtain⟨x1,x2,x3,y1,y2,y3,G8,h5,FX,FY⟩:∃x1 x2 x3 y1 y2 y3,M (i.heap[F.heap.size]?=Q (S #[O x1 x2 x3] 324 (0,0)))/\M (i.heap[z.heap.size]?=Q (S #[O y1 y2 y3] 324 (0,0)))/\M (Fgs i (O x1 x2 x3) (bx Xn))/\M (Fgs i (O y1 y2 y3) (bx Yn)):=⟨l,u,G,ay,ky,cy,j,a,v,P⟩;clear h6 V i2 h4 f8 c8)
   have j7:=cj G8.o;have j8:=cj h5.o;have d8:=ag G8.o;have i2:=ag h5.o;have j9:=aGK (k:=K) (by omega);have l3:I.wrap (K:Int)=(K:Int):=(by rw[b9];omega);have fx:=FX.o;have fy:=FY.o
   first
    | (have e1:Xn*2 ^ K=Xf:=by have:=i8.o;simpa using this
       have e2:Yn=Yf:=by have:=j0.o;simpa using this
       go_region_with
        (first|(go_at_call 186;(with_reducible refine(j6.o _).mono ?_);rintro r wx ⟨ap,kp,cp,rfl,h4,c⟩;have B:=(c.cell (p:=F) (by simpa using j7)).trans d8)|(go_at_call 185;(with_reducible refine(j4 x1 ap x2 kp x3 cp Xn (2^K) _ ((fx.B0).A7 c) h4 i0.o j9).mono ?_);rintro r wy ⟨H,V,cm,rfl,G,l⟩;have y8:=keep (keep (w1:=i.drew) G8.o c) l;have i3:=ar y8;have D:=ag y8))
       all_goals
        rw[e1]at G;have u:=keep (keep (w1:=i.drew) h5.o c) l;have i4:=((fy.B0).A7 c).A7 l;rw[e2]at i4;have h6:=(chain (chain HB.o.drew c) l).setCell (p:=F) j1 (O H V cm);have ZX:=A (G.E0 y8 (by decide) 0 (O H V cm));have ZY:=A (i4.E0 y8 (by decide) 0 (O H V cm));have z8:=ag (aB (o:=0) y8 (O H V cm));have k8:=ag ((aE (w:=wy) (o:=0) (k:=z.heap.size) (b:=F.heap.size) (O H V cm) h9.symm).trans u);have ZB:=A h6;clear c l h4 G B D i3 y8 u i4 h6 d8 i2 fx fy e1 e2;go_wp2_with fail;refine(xU H y1 V y2 cm y3 Xf Yf _ ZX.o ZY.o).mono ?_;rintro r wz ⟨rfl,i4⟩;have i5:=chain ZB.o i4;go_wp2;go_ret;exact⟨rfl,i5⟩)
    | (have e1 : Xn = Xf := by have := i8.o; simpa using this
       have e2:Yn*2^K=Yf:=by have:=j0.o;simpa using this
       go_region_with
        (first|(go_at_call 186;(with_reducible refine(j6.o _).mono ?_);rintro r wx ⟨ap,kp,cp,rfl,h4,c⟩;have B:=(c.cell (p:=z) (by simpa using j8)).trans i2)|(go_at_call 185;(with_reducible refine(j4 y1 ap y2 kp y3 cp Yn (2^K) _ ((fy.B0).A7 c) h4 i1.o j9).mono ?_);rintro r wy ⟨H,V,cm,rfl,G,l⟩;have u:=keep (keep (w1:=i.drew) h5.o c) l;have i3:=ar u;have D:=ag u))
       all_goals
        rw[e2]at G;have y8:=keep (keep (w1:=i.drew) G8.o c) l;have h5:=((fx.B0).A7 c).A7 l;rw[e1]at h5;have h6:=(chain (chain HB.o.drew c) l).setCell (p:=z) j2 (O H V cm);have ZX:=A (h5.E0 u (by decide) 0 (O H V cm));have ZY:=A (G.E0 u (by decide) 0 (O H V cm));have k8:=ag (aB (o:=0) u (O H V cm));have z8:=ag ((aE (w:=wy) (o:=0) (k:=F.heap.size) (b:=z.heap.size) (O H V cm) h9).trans y8);have ZB:=A h6;clear c l h4 G B D i3 y8 u h5 h6 d8 i2 fx fy e1 e2;go_wp2_with fail;refine(xU x1 H x2 V x3 cm Xf Yf _ ZX.o ZY.o).mono ?_;rintro r wz ⟨rfl,i4⟩;have i5:=chain ZB.o i4;go_wp2;go_ret;exact⟨rfl,i5⟩)
def nD(neg:Bool)(a:ByteArray)(e:Int)(m:Nat)(k:Int)(w:h)(b:gC ⟨neg,a.data.toList,e⟩)(i:a.size<=2147483648)(n: -4611686018427387904<=e)(d:e<=4611686018427387904)
 (f:m<18446744073709551616)(l: -1100<=k)(c:k<=1100):
 av aw 160 #[ai #[neg,a,e],J g m,k] w λr w'=>r=az (J I (aW ⟨neg,a.data.toList,e⟩ m k))/\ao w w w':=by
 by_cases p:a.data.toList= []\/m=0\/320<(a.size:Int)+e\/(a.size:Int)+e< -340
 .exact yV neg a e m k w i n d p
 .have o:a.data.toList≠ []:=λe=>p (af e);have j:m≠0:=λe=>p (ac (af e));exact aAm neg a e m k w b i o j f (by omega) (by omega) l c
def wO(b:Nat):fN b<9007199254740992:=by
 have:=mf b (show 4503599627370496>0 by decide);unfold fN;split<;>omega
def lG(b:Nat): -1074<=fX b/\fX b<=972:=by
 have:=mf (b/4503599627370496) (show 2048>0 by decide);unfold fX nN;omega
def aFt(neg:Bool)(i:ByteArray)(e:Int)(w:h)(b:gC ⟨neg,i.data.toList,e⟩)(v:i.size<=2147483648)(x: -4611686018427387904<=e)(o:e<=4611686018427387904):
 av aw 158 #[ai #[neg,i,e]] w λr w'=>∃f:Nat,r=az (J g f)/\nC ⟨neg,i.data.toList,e⟩ f/\ao w w w':=by
 have k:=A (λ(W:h)(f:Nat)=>nD neg i e (fN f) (fX f) W b v x o (by have:=wO f;omega) (by have:=lG f;omega) (by have:=lG f;omega));obtain⟨d,c⟩:∃d:Dml,⟨neg,i.data.toList,e⟩=d:=⟨_,rfl⟩;rw[c]at k⊢
 have a:0<=aW d (fN 0) (fX 0):=by
  unfold aW;rw[oV.1,pz (ac rfl)];split
  .decide
  .simp
 have m:=A a;clear b c a;have g1:(w.alloc (S #[neg,i,e] 251)).heap[w.heap.size]?=Q (S #[neg,i,e] 251 (0,0)):=aL w _;have a:=(dk w w).alloc (hU _) (S #[neg,i,e] 251);go_enter func158,ntmps158;go_wp2;go_loopw [3,4] (λl y wr=>∃b hi:Nat,l=J g b/\y=J g hi/\b<=hi/\hi<=9218868437227405311/\M (0<=aW d (fN b) (fX b))/\M (hi=9218868437227405311\/aW d (fN (hi+1)) (fX (hi+1))<0)/\wr.heap[w.heap.size]?=Q (S #[neg,i,e] 251 (0,0))/\ao w w wr) (λl y _=>(bj y).toNat-(bj l).toNat)
 case atStart=>exact⟨0,9218868437227405311,rfl,rfl,by decide,hU _,m,A (af rfl),g1,a⟩
 case round=>
  clear g1 a;obtain⟨b,hi,rfl,rfl,z,n,s,t,g1,c⟩:=hrel;by_cases B:b<hi
  .have C:(b:Int)<(hi:Int):=(by omega);obtain⟨a,j⟩:∃a,b+(hi-b+1)/2=a:=⟨_,rfl⟩;have w1:g.wrap ((hi:Int)-(b:Int))=((hi-b:Nat):Int):=(by rw[bg];omega);have w2:g.wrap (((hi-b:Nat):Int)+1)=((hi-b:Nat):Int)+1:=(by rw[bg];omega);have P:g.wrap ((b:Int)+(((hi-b:Nat):Int)+1)/2)=(a:Int):=(by rw[bg];omega);have D:b<a:=(by omega);have p:a<=hi:=(by omega);clear j;obtain⟨F,c1,c2,G⟩:=cells3 g1;have H:=A g1;clear g1;go_wp2_with fail;refine(yT a _ (by omega)).mono ?_;rintro r w1 ⟨rfl,rfl⟩;go_wp2_with fail;refine(k.o _ a).mono ?_;rintro r w2 ⟨rfl,j⟩;have g1:=keep H.o j;have c:=chain c j;obtain⟨K,q⟩:∃K,aW d (fN a) (fX a)=K:=⟨_,rfl⟩;rw[q];have u:=A q;clear q F c1 c2 G j;by_cases j:0<=K
   .have q:=A (show 0<=aW d (fN a) (fX a) by rw[u.o];exact j);go_wp2_with fail;exact⟨⟨a,hi,rfl,rfl,p,n,q,t,g1,c⟩,by simp[bj];omega⟩
   .have F:g.wrap ((a:Int)-1)=((a-1:Nat):Int):=(by rw[bg];omega);have q:=A (show a-1=9218868437227405311\/aW d (fN (a-1+1)) (fX (a-1+1))<0 from ac (by rw[show a-1+1=a by omega,u.o];omega));go_wp2_with fail;exact⟨⟨b,a-1,rfl,rfl,by omega,by omega,s,q,g1,c⟩,by simp[bj];omega⟩
  .obtain rfl:b=hi:=(by omega);have C:¬(b:Int)<(b:Int):=(by omega);have a:=A (show nC d b from⟨n,s.o,t.o⟩);clear g1;go_wp2;go_ret;exact⟨b,rfl,a.o,c⟩
def uM:Option Nat->Value
 | none=>bh #[J g 0,Z Y]
 | some x=>bh #[J g (x:Nat),Z N]
def aFu(neg:Bool)(c:ByteArray)(e:Int)(w:h)(a:gC ⟨neg,c.data.toList,e⟩)(D:c.size<=2147483648)(K: -4611686018427387904<=e)(k:e<=4611686018427387904):
 av aw 120 #[ai #[neg,c,e],J I 1] w λr w'=>r=az (uM (cF ⟨neg,c.data.toList,e⟩))/\ao w w w':=by
 have l:=A (λW:h=>aFt neg c e W a D K k);have m:=A (λ(W:h)(f:Nat)=>nD neg c e (fN f) (fX f) W a D K k (by have:=wO f;omega) (by have:=lG f;omega) (by have:=lG f;omega));have q:=A (λ(W:h)(f:Nat)=>nD neg c e (2*fN f+1) (fX f-1) W a D K k (by have:=wO f;omega) (by have:=lG f;omega) (by have:=lG f;omega));have b:=A (λf=>aH4 (f:=f) a);obtain⟨d,n⟩:∃d:Dml,⟨neg,c.data.toList,e⟩=d:=⟨_,rfl⟩;have i:d.a=neg:=by rw[<-n]
 rw[n]at l m q b⊢;have j:=A i;clear a n i;have g1:(w.alloc (S #[neg,c,e] 251)).heap[w.heap.size]?=Q (S #[neg,c,e] 251 (0,0)):=aL w _;have n:=(dk w w).alloc (hU _) (S #[neg,c,e] 251);go_enter func120,ntmps120;go_wp2_with fail;refine(l.o _).mono ?_;rintro r w1 ⟨f,rfl,i,a⟩;have g1:=keep g1 a;have n:=chain n a;have o:f<=9218868437227405311:=i.le;have s:=A (b.o f i);clear i a;go_wp2_with fail;refine(yT f _ (by omega)).mono ?_;rintro r w2 ⟨rfl,rfl⟩;obtain⟨z,c1,c2,-⟩:=cells3 g1;go_wp2_with fail;refine(m.o _ f).mono ?_;rintro r w3 ⟨rfl,a⟩;have g1:=keep g1 a;have n:=chain n a;obtain⟨X,i⟩:∃X,aW d (fN f) (fX f)=X:=⟨_,rfl⟩;rw[i];clear i a z c1 c2;obtain⟨z,c1,c2,-⟩:=cells3 g1;have i:=wO f;have t:=lG f;have u:g.wrap ((2:Int)*((fN f:Nat):Int))=((2*fN f:Nat):Int):=by rw[bg];omega
 have y:I.wrap (fX f-1)=fX f-1:=by rw[b9];omega
 have P:(X==0)=N\/(X==0)=Y:=by cases X==0<;>simp
 have a:∀x,gB d f=x->cF d=x:=λx a0=>s.o.symm.trans a0;have p:=A a;clear a s b l m;rcases P with P|P
 all_goals
  go_wp2_with fail;refine(q.o _ f).mono ?_;rintro r w4 ⟨rfl,a⟩;have g1:=keep g1 a;have n:=chain n a;obtain⟨H,m⟩:∃H,aW d (2*fN f+1) (fX f-1)=H:=⟨_,rfl⟩;rw[m];have m:lE d f=H:=m;have b:=A m;clear m a z c1 c2 u y i t;obtain⟨z,-,-,-⟩:=cells3 g1
  have s:(((0:Int)<H)\/(¬(0:Int)<H/\H=0/\(f:Int)%2=1))/\rC d f=f+1\/((¬(0:Int)<H/\H=0/\(f:Int)%2=0)\/(¬(0:Int)<H/\¬H=0))/\rC d f=f:=by
   unfold rC;rw[b.o];by_cases i:0<H
   .exact af ⟨af i,pz (af i)⟩
   .by_cases a:H=0
    .by_cases l:f%2=1
     .exact af ⟨ac ⟨i,a,by omega⟩,pz (ac ⟨a,l⟩)⟩
     .exact ac ⟨af ⟨i,a,by omega⟩,py (by omega)⟩
    .exact ac ⟨ac ⟨i,a⟩,py (by omega)⟩
  clear b;have b:=A n;rcases s with⟨i,a⟩|⟨i,a⟩
  .obtain⟨F,T⟩:∃F,f+1=F:=⟨_,rfl⟩;rw[T]at a;have w1:g.wrap ((f:Int)+1)=(F:Int):=(by rw[bg];omega);have g4:(0:Int)<(F:Int):=(by omega);by_cases t:f=9218868437227405311
   .have V:=A (p.o U (by unfold gB;rw[a,pz (by unfold aM;omega)]));have o1:(9218868437227405311:Int)<(F:Int):=(by omega);clear a t p T o;rcases i with u|⟨u,l,B⟩
    all_goals
     (try subst l);try have k4:((f:Int)%2==1)=N:=by simpa using B
     go_wp2_with fail;exact bb (v:=bh #[J g 0,Z Y]) (by simp[ak,bs,go_sem]) rfl ⟨by rw[V.o];rfl,b.o⟩
   .have o1:¬(9218868437227405311:Int)<(F:Int):=(by omega);obtain⟨G,y⟩:∃G,F+9223372036854775808=G:=⟨_,rfl⟩;have o2:g.wrap ((F:Int)+9223372036854775808)=(G:Int):=by rw[bg];omega
    have V:=A (p.o (Q (if d.a=N then G else F)) (by
     unfold gB;rw[a,py (by unfold aM;omega),y];congr 1;by_cases C:d.a=N
     .rw[pz ⟨C,by omega⟩,pz C]
     .rw[py (λa0=>C a0.1),py C]))
    rw[j.o]at V;clear a t p T o y;rcases i with u|⟨u,l,B⟩
    all_goals
     (try subst l);try have k4:((f:Int)%2==1)=N:=by simpa using B
     cases neg
     .go_wp2_with fail;exact bb (v:=bh #[J g (F:Int),Z N]) (by simp[ak,bs,go_sem]) rfl ⟨by rw[V.o];rfl,b.o⟩
     .go_wp2_with fail;exact bb (v:=bh #[J g (G:Int),Z N]) (by simp[ak,bs,go_sem]) rfl ⟨by rw[V.o];rfl,b.o⟩
  .have o1:¬(9218868437227405311:Int)<(f:Int):=(by omega);obtain⟨G,y⟩:∃G,f+9223372036854775808=G:=⟨_,rfl⟩;have o2:g.wrap ((f:Int)+9223372036854775808)=(G:Int):=(by rw[bg];omega);have V:=A (p.o (Q (if d.a=N/\0<f then G else f)) (by unfold gB;rw[a,py (by unfold aM;omega),y]));rw[j.o]at V;clear a p o y;rcases i with⟨u,l,B⟩|⟨u,l⟩
   all_goals
    (try have o:(H==0)=Y:=by simpa using l);try subst l
    cases neg
    .go_wp2_with fail;exact bb (v:=bh #[J g (f:Int),Z N]) (by simp[ak,bs,go_sem]) rfl ⟨by rw[V.o];rfl,b.o⟩
    .by_cases a:0<f
     .have p:(0:Int)<(f:Int):=(by omega);rw[pz ⟨rfl,a⟩]at V;go_wp2_with fail;exact bb (v:=bh #[J g (G:Int),Z N]) (by simp[ak,bs,go_sem]) rfl ⟨by rw[V.o];rfl,b.o⟩
     .have p:¬(0:Int)<(f:Int):=(by omega);rw[py (λa0=>a a0.2)]at V;go_wp2_with fail;exact bb (v:=bh #[J g (f:Int),Z N]) (by simp[ak,bs,go_sem]) rfl ⟨by rw[V.o];rfl,b.o⟩
def aFv{t:ByteArray}(c:0<t.size)(a:t[0]=48):bk t.data.toList 48=bk (t.extract 1 t.size).data.toList 48/\(t.extract 1 t.size).size=t.size-1:=by
 have e:t.data.toList=48::(t.extract 1 t.size).data.toList:=by
  have b:=bA c;rw[kz,a]at b;rw[b];congr 1;simp;rw[lj (by simp)]
 refine⟨?_,by simp⟩;rw[e];unfold bk;rw[cu,pz (by decide)]
def aH6{t:ByteArray}(c:∀c:0<t.size,t[0]≠48):bk t.data.toList 48=t.data.toList:=by
 unfold bk;by_cases b:0<t.size
 .have a:=bA b;rw[kz]at a;rw[a,cu,py (by simpa using c b)]
 .have:t.data.toList= []:=eb (by rw[show t.data.toList.length=t.size by simp];omega);rw[this];rfl
def aA4{t:ByteArray}{n:Nat}(c:t.size=n+1):t.data.toList=(t.extract 0 n).data.toList++ [t[n]]:=by
 have e:=List.take_append_drop n t.data.toList;have a:=bA (s:=t) (i:=n) (by omega);rw[cY (s:=t) (i:=n+1) (by omega)]at a;rw[a]at e;have b:(t.extract 0 n).data.toList=t.data.toList.take n:=by simp
 rw[b,e]
def aFw{t:ByteArray}{n:Nat}(b:t.size=n+1)(a:t[n]=48):au t.data.toList 48=au (t.extract 0 n).data.toList 48/\(t.extract 0 n).size=n:=by
 refine⟨?_,by simp;omega⟩;rw[aA4 b,a];unfold au;rw[dx,dy,nt,cu,pz (by decide)]
def aH7{t:ByteArray}(c:∀n,∀c:t.size=n+1,t[n]≠48):au t.data.toList 48=t.data.toList:=by
 unfold au;by_cases b:t.size=0
 .have:t.data.toList= []:=eb (by rw[show t.data.toList.length=t.size by simp];omega);rw[this];rfl
 .obtain⟨n,a⟩:∃n,t.size=n+1:=⟨t.size-1,by omega⟩;rw[aA4 a,dx,dy,nt,cu,py (by simpa using c n a)];simp
def aFx(neg:Bool)(q:ByteArray)(e:Int)(w:h)(hs:q.size<=2147483648)(he: -4611686018427387904<=e)(g6:e<=4611686018427387904):
 av aw 163 #[ai #[neg,q,e]] w λr w'=>r=az (fV (cB neg q.data.toList e))/\ao w w w':=by
 obtain⟨T,d⟩:∃T,bk q.data.toList 48=T:=⟨_,rfl⟩;obtain⟨a1,f⟩:∃a1,cB neg q.data.toList e=a1:=⟨_,rfl⟩;have a:(if au T 48= []then⟨Y,[],0⟩else⟨neg,au T 48,e+T.length-(au T 48).length⟩:Dml)=a1:=by rw[<-f,<-d];rfl
 rw[f];have y:=A a;obtain⟨g1,c,i⟩:=fU w (S #[neg,q,e] 251) (S #[Z Y,"",J I 0] 251);have HT:=A d;clear f a d;go_enter func163,ntmps163;go_wp2;go_loopw [6] (λ_ wr=>∃t:ByteArray,wr.heap[w.heap.size]?=Q (S #[neg,t,e] 251 (0,0))/\wr.heap[w.heap.size+1]?=Q (S #[Z Y,"",J I 0] 251 (0,0))/\ao w w wr/\t.size<=2147483648/\M (bk t.data.toList 48=T)) (λ_ wr=>match wr.cell? ⟨w.heap.size,1,U⟩with|some (E s)=>s.size|_=>0)
 case atStart=>exact⟨q,g1,c,i,hs,HT⟩
 case round=>
  clear g1 c i;obtain⟨t,g1,c,i,H,j⟩:=hrel;obtain⟨-,c1,-,cf⟩:=cells3 g1;by_cases a:∃f:0<t.size,t[0].toNat=48
  .obtain⟨f,d⟩:=a;obtain⟨C,F⟩:=aFv f (kb d);have l:((t[0].toNat:Nat):Int)=48:=(by omega);have z:=aB (o:=1) g1 (E (t.extract 1 t.size));have G:=(aE (w:=wr) (o:=1) (b:=w.heap.size) (k:=w.heap.size+1) (E (t.extract 1 t.size)) (by omega)).trans c;have K:=A (C.symm.trans j.o);have m:=i.setCell (p:=⟨w.heap.size,1,U⟩) (hU _) (E (t.extract 1 t.size));have P:=aA (o:=1) z;have B:(t.extract 1 t.size).size<t.size:=(by omega);clear C F d;go_wp2_with fail;refine⟨⟨t.extract 1 t.size,z,G,m,by omega,K⟩,?_⟩;rw[P,c1];exact B
  .have l:=aH6 (t:=t) λf V=>a ⟨f,by rw[V];rfl⟩
   have hq:¬(0:Int)<(t.size:Int)\/((0:Int)<(t.size:Int)/\∃f:0<t.size,¬((t[0].toNat:Nat):Int)=48/\(((t[0].toNat:Nat):Int)==48)=Y):=by
    by_cases f:0<t.size
    .have:¬((t[0].toNat:Nat):Int)=48:=λV=>a ⟨f,by omega⟩;exact ac ⟨by omega,f,this,by simpa using this⟩
    .exact af (by omega)
   have W:T=t.data.toList:=j.o.symm.trans l;clear a l j;subst W;have j:t.data.toList.length=t.size:=(by simp);rw[j]at y;obtain⟨a0,l⟩:∃a0,au t.data.toList 48=a0:=⟨_,rfl⟩;rw[l]at y;have HU:=A l;clear l j;rcases hq with q1|⟨q1,f,-,q3⟩
   all_goals
    go_wp2;go_loopw [21] (λ_ wr=>∃(u:ByteArray)(x:Int),wr.heap[w.heap.size]?=Q (S #[neg,u,x] 251 (0,0))/\wr.heap[w.heap.size+1]?=Q (S #[Z Y,"",J I 0] 251 (0,0))/\ao w w wr/\u.size<=2147483648/\x+u.size=e+t.size/\M (au u.data.toList 48=a0)) (λ_ wr=>match wr.cell? ⟨w.heap.size,1,U⟩with|some (E s)=>s.size|_=>0)
    case atStart=>exact⟨t,e,g1,c,i,H,rfl,HU⟩
    case round=>
     clear g1 c i c1 cf;obtain⟨u,x,g1,c,i,g7,hx,j⟩:=hrel;obtain⟨c0,c1,c2,cf⟩:=cells3 g1;by_cases a:∃n,∃f:u.size=n+1,u[n].toNat=48
     .obtain⟨n,f,d⟩:=a;have X:(0:Int)<(u.size:Int):=(by omega);obtain⟨C,F⟩:=aFw f (kb d);have l:n<u.size:=(by omega);have p2:(((u[n]'l).toNat:Nat):Int)=48:=(by omega);have p3:I.wrap ((u.size:Int)-1)=(n:Int):=(by rw[b9];omega);have p4:I.wrap (x+1)=x+1:=(by rw[b9];omega);have p5:(n:Int)<(u.size:Int):=(by omega);have p6:(n:Int)<=(u.size:Int):=(by omega);have z:=aB (o:=2) (aB (o:=1) g1 (E (u.extract 0 n))) (J I (x+1));have G:=(aE (o:=2) (b:=w.heap.size) (k:=w.heap.size+1) (J I (x+1)) (by omega)).trans ((aE (w:=wr) (o:=1) (b:=w.heap.size) (k:=w.heap.size+1) (E (u.extract 0 n)) (by omega)).trans c);have K:=A (C.symm.trans j.o);have m:=(i.setCell (p:=⟨w.heap.size,1,U⟩) (hU _) (E (u.extract 0 n))).setCell (p:=⟨w.heap.size,2,U⟩) (hU _) (J I (x+1));have P:=aA (o:=1) z;have B:(u.extract 0 n).size<u.size:=(by omega);have D:x+1+((u.extract 0 n).size:Int)=e+(t.size:Int):=(by rw[F];omega);have g5:=A D;clear C d f D;go_wp2_with fail;refine⟨⟨u.extract 0 n,x+1,z,G,m,by omega,g5.o,K⟩,?_⟩;rw[P,c1];exact B
     .have B:=aH7 (t:=u) λn f V=>a ⟨n,f,by rw[V];rfl⟩;have K:a0=u.data.toList:=j.o.symm.trans B;have C:u.data.toList.length=u.size:=(by simp);have D:x=e+(t.size:Int)-(u.size:Int):=(by omega);subst K;rw[C]at y;by_cases f:u.size=0
      .have X:(u.size:Int)=0:=(by omega);have p2:¬(0:Int)<(u.size:Int):=(by omega);have d:u.data.toList= []:=eb (by omega);rw[pz d]at y;have h0:=aA (o:=0) c;have z:=aA (o:=1) c;have G:=aA (o:=2) c;have hf:=free_at c;have m:=aB (o:=2) (aB (o:=1) (aB (o:=0) c (Z Y)) (E ⟨#[]⟩)) (J I 0);have P:=aA (o:=0) m;have r1:=aA (o:=1) m;have r2:=aA (o:=2) m;have F:=A (((i.setCell (p:=⟨w.heap.size+1,0,U⟩) (lh _) (Z Y)).setCell (p:=⟨w.heap.size+1,1,U⟩) (lh _) (E ⟨#[]⟩)).setCell (p:=⟨w.heap.size+1,2,U⟩) (lh _) (J I 0));clear d m D a B j;go_wp2_with fail;exact bb (v:=ai #[Z Y,"",J I 0]) (by simp[ak,eh,go_sem,P,r1,r2]) rfl ⟨by rw[<-y.o];rfl,F.o⟩
      .obtain⟨n,hn⟩:∃n,u.size=n+1:=⟨u.size-1,by omega⟩;have X:¬(u.size:Int)=0:=(by omega);have p2:(0:Int)<(u.size:Int):=(by omega);have p0:((u.size:Int)==0)=Y:=(by simpa using X);have p3:I.wrap ((u.size:Int)-1)=(n:Int):=(by rw[b9];omega);have p5:(n:Int)<(u.size:Int):=(by omega);have l:n<u.size:=(by omega);have p6:¬(((u[n]'l).toNat:Nat):Int)=48:=λV=>a ⟨n,hn,by omega⟩;have p7:((((u[n]'l).toNat:Nat):Int)==48)=Y:=(by simpa using p6);have d:u.data.toList≠ []:=λV=>(by rw[V]at C;simp at C;omega);rw[py d]at y;have h0:=aA (o:=0) c;have z:=aA (o:=1) c;have G:=aA (o:=2) c;have hf:=free_at c;have m:=aB (o:=2) (aB (o:=1) (aB (o:=0) c (Z neg)) (E u)) (J I x);have P:=aA (o:=0) m;have r1:=aA (o:=1) m;have r2:=aA (o:=2) m;have F:=A (((i.setCell (p:=⟨w.heap.size+1,0,U⟩) (lh _) (Z neg)).setCell (p:=⟨w.heap.size+1,1,U⟩) (lh _) (E u)).setCell (p:=⟨w.heap.size+1,2,U⟩) (lh _) (J I x));have g5:=A D;clear d m D a B j hn;go_wp2_with fail;exact bb (v:=ai #[neg,u,x]) (by simp[ak,eh,go_sem,P,r1,r2]) rfl ⟨by rw[<-y.o,<-g5.o];rfl,F.o⟩
def yW{s:ByteArray}{i:Nat}{c:UInt8}{t:Oo}(a:s.data.toList.drop i=c::t):∃hi:i<s.size,s[i]=c:=by
 have hi:i<s.size:=pj λe=>by rw[cY e]at a;cases a
 refine⟨hi,?_⟩;rw[bA hi]at a;injection a
def yX{W r:Oo}(a:∀d∈W,isD d=N)(b:bR r=Y):over (W++r)=W.length:=by
 unfold over;rw[(iL a b).1]
def aKh(l:Oo)(j:∀d∈l,isD d=N):fH l<=351843720888329:=by
 unfold fH
 suffices ∀(l:Oo)(a:Nat),(∀d∈l,isD d=N)->a<=351843720888329->l.foldl dD a<=351843720888329 from this l 0 j (by decide)
 intro l
 induction l with
 | nil=>intro a _ f;exact f
 | cons c t i=>
  intro a e f;refine i _ (λd b=>e d (List.mem_cons_of_mem _ b)) ?_;have:=kK (e c fi);unfold dD;split<;>omega
def aKi{l:Oo}{c:UInt8}:fH (l++ [c])=dD (fH l) c:=by unfold fH;rw[List.foldl_append];rfl
def aH8(K:ByteArray)(w:h)(neg:Bool)(W:Oo)(P:Option Oo)(a0:Option mX)(a6:aAN K.data.toList neg W P a0)(hs:K.size<=2147483648):
 av aw 121 #[K] w λr w'=>r=az (fV (j3 neg W P a0))/\ao w w w':=by
 obtain⟨u,hl,G⟩:=a6;obtain⟨⟨an,ad,ax⟩,j⟩:∃z,j3 neg W P a0=z:=⟨_,rfl⟩;rw[j];have HA:=A j;clear j
 obtain⟨s,j5,n3,l7⟩:∃s:ByteArray,s.data.toList=u/\s.size<=2147483648/\((neg=N/\K.extract 1 K.size=s/\∃a6:0<K.size,K[0]=45)\/(neg=Y/\s=K/\∃a6:0<K.size,K[0]≠45)):=by
  cases neg with
  | true=>
   have hl:K.data.toList=45::u:=hl;obtain⟨T,m⟩:=yW (s:=K) (i:=0) (by rw[kz];exact hl);refine⟨K.extract 1 K.size,?_,by simp;omega,af ⟨rfl,rfl,T,m⟩⟩;have e:(K.extract 1 K.size).data.toList=K.data.toList.drop 1:=(by simp;rw[lj (by simp)]);rw[e,hl];rfl
  | false=>
   have hl:K.data.toList=u:=hl;refine⟨K,hl,hs,ac ⟨rfl,rfl,?_⟩⟩;cases j:W with
   | nil=>exact absurd j G.ne
   | cons c t=>
    have h2:K.data.toList.drop 0=c::(t++(pL P++eL a0)):=(by rw[kz,hl,G.is,j];rfl);obtain⟨T,m⟩:=yW h2;refine⟨T,?_⟩;rw[m];rintro rfl;have:=G.f 45 (by rw[j];exact fi);revert this;decide
 have l8:s.data.toList.length=s.size:=by simp
 have m3:=A (λ(W:h)(i:Nat)(hi:i<=s.size)=>aES W s i hi n3);have n4:=A (λ(W:h)(i:Nat)=>uZ W s i);have j:s.data.toList=W++(pL P++eL a0):=j5.trans G.is;have q:s.size=W.length+(pL P++eL a0).length:=by rw[<-l8,j,cn]
 have l:s.data.toList.drop W.length=pL P++eL a0:=by rw[j,mv]
 have X:over s.data.toList=W.length:=by rw[j];exact yX G.f (aJw G.a)
 have C:(s.extract 0 W.length).data.toList=W:=by
  rw[show(s.extract 0 W.length).data.toList=s.data.toList.take W.length by simp,j,mu]
 obtain⟨n,hn⟩:∃n,W.length=n:=⟨_,rfl⟩;rw[hn]at q l X C;have o0:n<=s.size:=by omega
 have H:(0:Nat)+over (s.data.toList.drop 0)=n:=by rw[kz,X,Nat.zero_add]
 have V:∀W:h,av aw 161 #[s,J I 0] W λe w'=>e=az (J I n)/\w'=W:=λW=>by
  have:=m3.o W 0 (Nat.zero_le _);rw[H]at this;exact this
 have n5:=A V;obtain⟨g2,g3,hb⟩:=fU w (S #[Z Y,"",J I 0] 251) (S #[neg,"",J I 0] 251);have G2:=A g2;have G3:=A g3;have HB:=A hb;clear g2 g3 hb;have HU:=A G;have m4:=A q;have k7:=A l;have k8:=A C;clear hl G j5 j q l X C H hn V;have l0:=A (λ(W':h)(d:ByteArray)(x:Int)(m:d.size<=2147483648)(h2: -4611686018427387904<=x)(C:x<=4611686018427387904)=>aFx neg d x W' m h2 C);obtain⟨B,hB⟩:∃B,w.heap.size+1=B:=⟨_,rfl⟩;have l1:w.heap.size<=B:=by omega
 have k0:w.heap.size≠B:=by omega
 rcases l7 with⟨k9,he,T,m⟩|⟨k9,he,T,m⟩
 case' inl=>
  have k1:((K[0].toNat:Nat):Int)=45:=by rw[m];rfl
  have k2:(1:Int)<=(K.size:Int):=by omega
  subst k9;clear m;go_enter func121,ntmps121;go_wp2_with fail;clear k1 k2 he T hs;generalize ((w.alloc (S #[Z Y,"",J I 0] 251)).alloc (S #[Z N,"",J I 0] 251))=w1 at*
 case' inr=>
  subst he;have k1:¬((s[0].toNat:Nat):Int)=45:=λa6=>m (kb (show s[0].toNat=45 by omega));have k2:(((s[0].toNat:Nat):Int)==45)=Y:=by simpa using k1
  subst k9;clear m;go_enter func121,ntmps121;go_wp2_with fail;generalize j:s[0].toNat=z at*;clear k1 k2 T hs j;generalize ((w.alloc (S #[Z Y,"",J I 0] 251)).alloc (S #[Z Y,"",J I 0] 251))=w1 at*
 all_goals
  rw[hB]at*;refine(n5.o _).mono ?_;rintro r w2 ⟨rfl,rfl⟩;have o1:(n:Int)<=(s.size:Int):=by omega
  obtain⟨c0,c1,c2,cf⟩:=cells3 G3.o;obtain⟨p,hp⟩:∃p,n+(pL P).length=p:=⟨_,rfl⟩;have X:s.data.toList.drop p=eL a0:=by rw[<-hp,<-lr,k7.o,mv]
  have G:p+(eL a0).length=s.size:=by have:=m4.o;rw[cn]at this;omega
  have m5:=A (show ∀F,P=Q F->n+1+F.length=p/\s.data.toList.drop n=46::(F++eL a0)from λF e=>by
   subst e;exact⟨by rw[<-hp];simp[pL];omega,k7.o⟩)
  have m6:=A (show P=U->n=p from λe=>by subst e;simpa[pL]using hp)
  have l9:(a0=U/\p=s.size)\/(∃x V j,a0=Q x/\p+1=V/\(∃a6:V<s.size,(x.a= []/\s[V].toNat≠45/\s[V].toNat≠43/\V=j)\/(x.a= [43]/\s[V].toNat=43/\V+1=j)\/(x.a= [45]/\s[V].toNat=45/\V+1=j))/\s.data.toList.drop j=x.X/\(∃a6:p<s.size,s[p].toNat≠46)/\(∀d∈x.X,isD d=N)):=by
   cases q:a0 with
   | none=>exact af ⟨rfl,by rw[q]at G;exact G⟩
   | some x=>
    obtain⟨m,h2,C,h4⟩:=HU.o.a x q;have j5:s.data.toList.drop p=x.c::(x.a++x.X):=(by rw[X,q];rfl);have l:s.data.toList.drop (p+1)=x.a++x.X:=(by rw[<-lr,j5];rfl);obtain⟨i0,j0⟩:=yW j5;have j6:∃a6:p<s.size,s[p].toNat≠46:=⟨i0,by rw[j0];rcases m with e|e<;>rw[e]<;>decide⟩;refine ac ⟨x,p+1,p+1+x.a.length,rfl,rfl,?_,by rw[<-lr,l,mv],j6,h4⟩;rcases h2 with e|e|e
    .rw[e]at l⊢;cases hX:x.X with
     | nil=>exact absurd hX C
     | cons c t=>
      rw[hX]at l h4;obtain⟨i1,H⟩:=yW (s:=s) (i:=p+1) (c:=c) (t:=t) l;have hc:=kK (h4 c fi);exact⟨i1,af ⟨rfl,by rw[H];omega,by rw[H];omega,rfl⟩⟩
    .rw[e]at l⊢;obtain⟨i1,H⟩:=yW (s:=s) (i:=p+1) (c:=43) (t:=x.X) l;exact⟨i1,ac (af ⟨rfl,by rw[H];rfl,rfl⟩)⟩
    .rw[e]at l⊢;obtain⟨i1,H⟩:=yW (s:=s) (i:=p+1) (c:=45) (t:=x.X) l;exact⟨i1,ac (ac ⟨rfl,by rw[H];rfl,rfl⟩)⟩
  have o2:p<=s.size:=by omega
  clear hp G X;have m7:P=U\/∃F,P=Q F:=by cases P;exact af rfl;exact ac ⟨_,rfl⟩
  have l:∀F,P=Q F->(s.extract 0 n++s.extract (n+1) p).data.toList=W++F/\(s.extract 0 n++s.extract (n+1) p).size<=s.size/\F.length=p-(n+1)/\n+1<=p:=by
   intro F X;obtain⟨e1,e2⟩:=m5.o F X;have e3:(s.extract (n+1) p).data.toList=(s.data.toList.drop (n+1)).take (p-(n+1)):=(by simp);have e4:s.data.toList.drop (n+1)=F++eL a0:=(by rw[<-lr,e2];rfl);refine⟨?_,?_,by omega,by omega⟩
   .have G:(s.extract 0 n++s.extract (n+1) p).data.toList=(s.extract 0 n).data.toList++(s.extract (n+1) p).data.toList:=(by simp);rw[G,e3,k8.o,e4,show p-(n+1)=F.length by omega,mu]
   .simp only[pw,dm];omega
  have l3:=A l
  have l4:=A (show ∀F,P=Q F->(∃a6:n<s.size,s[n].toNat=46)/\∀W:h,av aw 161 #[s,J I ((n:Int)+1)] W λe w'=>e=az (J I p)/\w'=W from λF X=>by
   obtain⟨e1,e2⟩:=m5.o F X;obtain⟨i0,j0⟩:=yW e2;refine⟨⟨i0,by rw[j0];rfl⟩,λW=>?_⟩;have e4:s.data.toList.drop (n+1)=F++eL a0:=by rw[<-lr,e2];rfl
   have:=m3.o W (n+1) (by omega);rw[e4,yX (HU.o.c F X).2 (aEW HU.o.a),e1]at this;exact this)
  clear l;rcases l9 with⟨q,m8⟩|⟨x,V,j,q,m9,⟨n0,m0⟩,H,⟨o3,l5⟩,l6⟩
  .have a1:¬(p:Int)<(s.size:Int):=(by omega);have l2:pW a0=0:=(by rw[q];rfl);rcases m7 with X|⟨F,X⟩
   .have m1:=m6.o X;have a2:¬(n:Int)<(s.size:Int):=(by omega);have hD:=k8.o;have j5:(s.extract 0 n).size<=2147483648:=(by simp only[dm];omega);have HV:=A (show ∀b,cB b (s.extract 0 n).data.toList 0=j3 b W P a0 from λb=>by unfold j3;rw[hD,l2,X];simp);clear hD l2 q X m8 m1;go_wp2_with fail;have j6:=G2.o;have j7:=HB.o
    with_reducible refine(l0.o _ (s.extract 0 n) 0 j5 (by decide) (by decide)).mono ?_
    rintro r w9 ⟨rfl,l⟩;have g2:=keep j6 l;have G:=chain j7 l;rw[HV.o,HA.o];obtain⟨y0,y1,y2,yf⟩:=cells3 g2;have gg:=aB (o:=2) (aB (o:=1) (aB (o:=0) g2 (Z an)) (E ⟨ad.toArray⟩)) (J I ax);have r0:=aA (o:=0) gg;have r1:=aA (o:=1) gg;have r2:=aA (o:=2) gg;have j8:=A (((G.setCell (p:=⟨w.heap.size,0,U⟩) (hU _) (Z an)).setCell (p:=⟨w.heap.size,1,U⟩) (hU _) (E ⟨ad.toArray⟩)).setCell (p:=⟨w.heap.size,2,U⟩) (hU _) (J I ax));clear gg l G;unfold fV;go_wp2_with fail;exact bb (v:=ai #[an,E ⟨ad.toArray⟩,ax]) (by simp[ak,cw,go_sem,r0,r1,r2]) rfl ⟨rfl,j8.o⟩
   .obtain⟨⟨hi,j9⟩,k6⟩:=l4.o F X;obtain⟨d1,d2,d3,-⟩:=l3.o F X;have m2:=A k6;obtain⟨f,hf⟩:∃f,p-(n+1)=f:=⟨_,rfl⟩;rw[hf]at d3;have HV:=A (show ∀b,cB b (s.extract 0 n++s.extract (n+1) p).data.toList (-(f:Int))=j3 b W P a0 from λb=>by unfold j3;rw[d1,l2,X];simp[d3]);have j5:(s.extract 0 n++s.extract (n+1) p).size<=2147483648:=(by omega);have t1:((s[n].toNat:Nat):Int)=46:=(by rw[j9];rfl);have t2:(n:Int)<(s.size:Int):=(by omega);have t3:I.wrap ((n:Int)+1)=(n:Int)+1:=(by rw[b9];omega);have t4:I.wrap ((p:Int)-(n:Int))=(f:Int)+1:=(by rw[b9];omega);have t5:I.wrap (f:Int)=(f:Int):=(by rw[b9];omega);have t6:I.wrap (-(f:Int))= -(f:Int):=(by rw[b9];omega);have t7:(n:Int)+1<=(p:Int):=(by omega);have t8:(p:Int)<=(s.size:Int):=(by omega);have n1: -4611686018427387904<= -(f:Int):=(by omega);have n2: -(f:Int)<=4611686018427387904:=(by omega);have j6:=(aE (w:=w2) (o:=2) (b:=B) (k:=w.heap.size) (J I (-(f:Int))) k0).trans G2.o;have j7:=HB.o.setCell (p:=⟨B,2,U⟩) l1 (J I (-(f:Int)));clear k6 d1 d2 d3 hf l2 j9 q m8;go_wp2_with fail;refine(m2.o _).mono ?_;rintro r w3 ⟨rfl,rfl⟩;go_wp2_with fail
    with_reducible refine(l0.o _ (s.extract 0 n++s.extract (n+1) p) (-(f:Int)) j5 n1 n2).mono ?_
    rintro r w9 ⟨rfl,l⟩;have g2:=keep j6 l;have G:=chain j7 l;rw[HV.o,HA.o];obtain⟨y0,y1,y2,yf⟩:=cells3 g2;have gg:=aB (o:=2) (aB (o:=1) (aB (o:=0) g2 (Z an)) (E ⟨ad.toArray⟩)) (J I ax);have r0:=aA (o:=0) gg;have r1:=aA (o:=1) gg;have r2:=aA (o:=2) gg;have j8:=A (((G.setCell (p:=⟨w.heap.size,0,U⟩) (hU _) (Z an)).setCell (p:=⟨w.heap.size,1,U⟩) (hU _) (E ⟨ad.toArray⟩)).setCell (p:=⟨w.heap.size,2,U⟩) (hU _) (J I ax));clear gg l G;unfold fV;go_wp2_with fail;exact bb (v:=ai #[an,E ⟨ad.toArray⟩,ax]) (by simp[ak,cw,go_sem,r0,r1,r2]) rfl ⟨rfl,j8.o⟩
  .have l2:∀i(m:j<=i)(h2:i<s.size),bR (s.data.toList.drop i)=N/\48<=s[i].toNat/\s[i].toNat<=57/\x.X.take (i+1-j)=x.X.take (i-j)++ [s[i]]:=by
    intro i m h2;have e1:s.data.toList.drop i=x.X.drop (i-j):=(by rw[<-H,lr,show j+(i-j)=i by omega]);have e2:=bA h2
    have hl:i-j<x.X.length:=by
     have:=congrArg ej H;rw[ea,l8]at this;omega
    rw[e1]at e2⊢;have e3:=List.drop_eq_getElem_cons hl;rw[e3]at e2⊢;injection e2 with e4 _;have hm:=l6 (x.X[i-j]) (List.getElem_mem _);refine⟨hm,?_,?_,?_⟩
    .rw[<-e4];exact(kK hm).1
    .rw[<-e4];exact(kK hm).2
    .rw[show i+1-j=(i-j)+1 by omega,List.take_succ_eq_append_getElem hl,e4]
   have n6:=A l2
   have n7:=A (show x.X.take (s.size-j)=x.X by
    rw[lj];have:=congrArg ej H;rw[ea,l8]at this;omega)
   have n8:j<=s.size:=(by rcases m0 with⟨_,_,_,a6⟩|⟨_,_,a6⟩|⟨_,_,a6⟩<;>omega);have n1:=A (show ∀a:Nat,a=fH x.X->pW a0=if x.a= [45]then -(a:Int)else(a:Int)from λa a6=>by rw[q,a6];rfl);clear l2 H l6 q;have a1:(p:Int)<(s.size:Int):=(by omega);have a2:(V:Int)<(s.size:Int):=(by omega);have a3:I.wrap ((p:Int)+1)=(V:Int):=by rw[b9];omega
   have l6:(x.a= [45]/\s[V].toNat=45/\V+1=j)\/(x.a≠ [45]/\s[V].toNat=43/\V+1=j)\/(x.a≠ [45]/\s[V].toNat≠45/\s[V].toNat≠43/\V=j):=by
    rcases m0 with⟨T,m,h2,C⟩|⟨T,m,C⟩|⟨T,m,C⟩
    .exact ac (ac ⟨by rw[T];decide,m,h2,C⟩)
    .exact ac (af ⟨by rw[T];decide,m,C⟩)
    .exact af ⟨T,m,C⟩
   clear m0;have a4:V+1=j->I.wrap ((V:Int)+1)=(j:Int):=λa6=>(by rw[b9];omega);rcases m7 with X|⟨F,X⟩
   all_goals
    first
    | (obtain⟨⟨hi,j9⟩,k6⟩:=l4.o F X;obtain⟨d1,d2,d3,d4⟩:=l3.o F X;have m2:=A k6;obtain⟨f,hf⟩: ∃f,p - (n+1)=f:=⟨_,rfl⟩;rw [hf]at d3;have t1:((s[n].toNat:Nat):Int)=46:=by rw [j9];rfl
       have t2:(n:Int)<(s.size:Int):=(by omega);have t3:I.wrap ((n:Int)+1)=(n:Int)+1:=(by rw[b9];omega);have t4:I.wrap ((p:Int)-(n:Int))=(f:Int)+1:=(by rw[b9];omega);have t5:I.wrap (f:Int)=(f:Int):=(by rw[b9];omega);obtain⟨q,H⟩:∃q:Int,-(f:Int)=q:=⟨_,rfl⟩;have t6:I.wrap (-(f:Int))=q:=(by rw[b9];omega);have t7:(n:Int)+1<=(p:Int):=(by omega);have t8:(p:Int)<=(s.size:Int):=by omega
       have HV:=A (show ∀b,cB b (s.extract 0 n++s.extract (n+1) p).data.toList (q+pW a0)=j3 b W P a0 from λb=>by
        unfold j3;rw[d1,X,<-H];congr 1;show -(f:Int)+pW a0=pW a0-(F.length:Int);rw[d3];omega)
       have j5:(s.extract 0 n++s.extract (n+1) p).size<=2147483648:=(by omega);have m0: -2147483648<=q:=(by omega);have n2:q<=0:=(by omega);have j6:=(aE (w:=w2) (o:=2) (b:=B) (k:=w.heap.size) (J I q) k0).trans G2.o;have l2:=aB (o:=2) G3.o (J I q);have j7:=HB.o.setCell (p:=⟨B,2,U⟩) l1 (J I q);clear k6 d1 d2 d3 d4 hf j9 X H m9 l5;go_wp2_with fail;refine(m2.o _).mono ?_;rintro r w3 ⟨rfl,rfl⟩;rcases l6 with⟨T,m,C⟩|⟨T,m,C⟩|⟨T,m,h2,C⟩
       case' inl=>
        have a5:=a4 C;go_wp2_with fail
       case' inr.inl=>
        have a5:=a4 C;go_wp2_with fail
       case' inr.inr=>
        have C:=C.symm;subst C;have b3:¬((s[j].toNat:Nat):Int)=45:=(by omega);have b4:(((s[j].toNat:Nat):Int)==45)=Y:=(by simpa using b3);have b5:¬((s[j].toNat:Nat):Int)=43:=(by omega);have b6:(((s[j].toNat:Nat):Int)==43)=Y:=(by simpa using b5);go_wp2_with fail
       all_goals
        have c0:=aA (o:=0) l2;have c2:=aA (o:=2) l2;have cf:=free_at l2;generalize s.extract 0 n++s.extract (n+1) p=D at*;generalize w3.setCell ⟨B,2,U⟩ (J I q)=wc at*)
    | (have m1 := m6.o X
       subst m1;have b1:¬((s[n].toNat:Nat):Int)=46:=(by omega);have b2:(((s[n].toNat:Nat):Int)==46)=Y:=(by simpa using b1);obtain⟨q,H⟩:∃q:Int,0=q:=⟨_,rfl⟩;have hD:=k8.o;have j5:(s.extract 0 n).size<=2147483648:=(by simp only[dm];omega);have HV:=A (show ∀b,cB b (s.extract 0 n).data.toList (q+pW a0)=j3 b W P a0 from λb=>by unfold j3;rw[hD,X,<-H];simp);have m0: -2147483648<=q:=(by omega);have n2:q<=0:=(by omega);have l2:=G3.o;rw[H]at c2;have j6:=G2.o;have j7:=HB.o;clear hD X H m9 l5;rcases l6 with⟨T,m,C⟩|⟨T,m,C⟩|⟨T,m,h2,C⟩
       case' inl=>
        have a5:=a4 C;go_wp2_with fail
       case' inr.inl=>
        have a5:=a4 C;go_wp2_with fail
       case' inr.inr=>
        have C:=C.symm;subst C;have b3:¬((s[j].toNat:Nat):Int)=45:=(by omega);have b4:(((s[j].toNat:Nat):Int)==45)=Y:=(by simpa using b3);have b5:¬((s[j].toNat:Nat):Int)=43:=(by omega);have b6:(((s[j].toNat:Nat):Int)==43)=Y:=(by simpa using b5);go_wp2_with fail
       all_goals
        generalize s.extract 0 n=D at*;generalize w2=wc at*)
   all_goals
    go_loopw [8,4] (λe v wr=>∃i a:Nat,v=J I i/\e=J I a/\j<=i/\i<=s.size/\M (a=fH (x.X.take (i-j)))/\a<=351843720888329/\wc=wr) (λ_ v _=>s.size-(bj v).toNat)
    case atStart=>exact⟨j,0,rfl,rfl,hU _,n8,A (by simp[fH]),by decide,rfl⟩
    case round=>
     obtain⟨i,a,rfl,rfl,n0,o4,m2,ha,rfl⟩:=hrel;have H:=λW:h=>n4.o W i;by_cases n9:i<s.size
     .obtain⟨b1,b2,b3,b4⟩:=n6.o i n0 n9;rw[b1]at H;have l2:=A H;have k1:(i:Int)<(s.size:Int):=(by omega);have k2:et.wrap (((s[i].toNat:Nat):Int)-48)=((s[i].toNat-48:Nat):Int):=(by rw[ms];omega);have j9:fH (x.X.take (i+1-j))=dD a s[i]:=(by rw[b4,aKi,<-m2.o]);have n2:I.wrap ((i:Int)+1)=((i+1:Nat):Int):=(by rw[b9];omega);unfold dD at j9;by_cases k6:a<35184372088832
      .rw[pz k6]at j9;have o5:s[i].toNat-48<=9:=(by omega);generalize s[i].toNat-48=y at*;have k3:(a:Int)<35184372088832:=(by omega);have k4:I.wrap ((10:Int)*(a:Int))=((10*a:Nat):Int):=(by rw[b9];omega);have k5:I.wrap (((10*a:Nat):Int)+(y:Int))=((10*a+y:Nat):Int):=(by rw[b9];omega);have m0:=A j9.symm;have m1:=A (show 10*a+y<=351843720888329 by omega);clear j9 H b1 b2 b3 b4 k6 ha;go_wp2_with fail;refine(l2.o _).mono ?_;rintro r w5 ⟨rfl,rfl⟩;go_wp2_with fail;exact⟨⟨i+1,10*a+y,by go_num,by go_num,by omega,by omega,m0,m1.o,trivial⟩,by simp[bj];omega⟩
      .rw[py k6]at j9;have k3:decide ((a:Int)<35184372088832)=Y:=decide_eq_false (by omega);have m0:=A j9.symm;have m1:=A ha;clear j9 H b1 b2 b3 b4 k6 ha k2 n2;go_wp2_with fail;refine(l2.o _).mono ?_;rintro r w5 ⟨rfl,rfl⟩;go_wp2_with fail;exact⟨⟨i+1,a,by go_num,by go_num,by omega,by omega,m0,m1.o,trivial⟩,by simp[bj];omega⟩
     .obtain rfl:i=s.size:=(by omega);have j9:bR (s.data.toList.drop s.size)=Y:=(by rw[cY (s:=s) (i:=s.size) (by omega)];rfl);rw[j9]at H;have l2:=A H;have k6:a=fH x.X:=(by rw[m2.o,n7.o]);have n2:=A k6;have k4:I.wrap (-(a:Int))= -(a:Int):=(by rw[b9];omega);clear H j9 k6;go_wp2_with fail;refine(l2.o _).mono ?_;rintro r w5 ⟨rfl,rfl⟩
      first
       | (have j9 : x.a = [45] := T
          have he:=n1.o a n2.o;rw[pz j9]at he;have H:=HV.o;rw[he]at H;have k6:=A H;have k5:I.wrap (q+ -(a:Int))=q+ -(a:Int):=(by rw[b9];omega);clear he H;go_wp2_with fail;have m0:=(aE (w:=w5) (o:=2) (b:=B) (k:=w.heap.size) (J I (q+ -(a:Int))) k0).trans j6;have m1:=j7.setCell (p:=⟨B,2,U⟩) l1 (J I (q+ -(a:Int)))
          with_reducible refine(l0.o _ D (q+ -(a:Int)) j5 (by omega) (by omega)).mono ?_
          rintro r w9 ⟨rfl,l⟩;have g2:=keep m0 l;have G:=chain m1 l;rw[k6.o,HA.o];obtain⟨y0,y1,y2,yf⟩:=cells3 g2;have gg:=aB (o:=2) (aB (o:=1) (aB (o:=0) g2 (Z an)) (E ⟨ad.toArray⟩)) (J I ax);have r0:=aA (o:=0) gg;have r1:=aA (o:=1) gg;have r2:=aA (o:=2) gg;have j8:=A (((G.setCell (p:=⟨w.heap.size,0,U⟩) (hU _) (Z an)).setCell (p:=⟨w.heap.size,1,U⟩) (hU _) (E ⟨ad.toArray⟩)).setCell (p:=⟨w.heap.size,2,U⟩) (hU _) (J I ax));clear gg l G;unfold fV;go_wp2_with fail;exact bb (v:=ai #[an,E ⟨ad.toArray⟩,ax]) (by simp[ak,cw,go_sem,r0,r1,r2]) rfl ⟨rfl,j8.o⟩)
       | (have j9 : ¬ x.a = [45] := T
          have he:=n1.o a n2.o;rw[py j9]at he;have H:=HV.o;rw[he]at H;have k6:=A H;have k5:I.wrap (q+(a:Int))=q+(a:Int):=(by rw[b9];omega);clear he H;go_wp2_with fail;have m0:=(aE (w:=w5) (o:=2) (b:=B) (k:=w.heap.size) (J I (q+(a:Int))) k0).trans j6;have m1:=j7.setCell (p:=⟨B,2,U⟩) l1 (J I (q+(a:Int)))
          with_reducible refine(l0.o _ D (q+(a:Int)) j5 (by omega) (by omega)).mono ?_
          rintro r w9 ⟨rfl,l⟩;have g2:=keep m0 l;have G:=chain m1 l;rw[k6.o,HA.o];obtain⟨y0,y1,y2,yf⟩:=cells3 g2;have gg:=aB (o:=2) (aB (o:=1) (aB (o:=0) g2 (Z an)) (E ⟨ad.toArray⟩)) (J I ax);have r0:=aA (o:=0) gg;have r1:=aA (o:=1) gg;have r2:=aA (o:=2) gg;have j8:=A (((G.setCell (p:=⟨w.heap.size,0,U⟩) (hU _) (Z an)).setCell (p:=⟨w.heap.size,1,U⟩) (hU _) (E ⟨ad.toArray⟩)).setCell (p:=⟨w.heap.size,2,U⟩) (hU _) (J I ax));clear gg l G;unfold fV;go_wp2_with fail;exact bb (v:=ai #[an,E ⟨ad.toArray⟩,ax]) (by simp[ak,cw,go_sem,r0,r1,r2]) rfl ⟨rfl,j8.o⟩)
end Go.Proofs.YtakkmiomhackiaaGreatDoor
namespace Go.Proofs.YtakkmiomhackiaaGreatDoor.ClosedSeqAllsUpto
open Go
def andM{a b:Bool}(c:a=N)(k:b=N):(a&&b)=N:=by rw[c,k];rfl
def c0:(Rows.seqAllsUptoRow.wf (ew (Rows.OpenSpec.upto Rows.seqAllsSpec).bare))=N:=by kernel_rfl
def c1:(laidOutB Tryz.pinned.checked.prog)=N:=by kernel_rfl
def c2:(mapsRowed Tryz.pinned.checked.prog)=N:=by kernel_rfl
def c3:(ae.params.all (Tryz.pinned.checked.prog.readableRec ·))=N:=by kernel_rfl
def c4:(namedTie Tryz.pinned.checked.prog Rows.seqAllsUptoRow.named (Rows.OpenSpec.upto Rows.seqAllsSpec).bare.vars)=N:=by kernel_rfl
def c5:((Rows.seqAllsUptoRow.stops== []))=N:=by kernel_rfl
def c6:((Tryz.pinned.checked.prog.stops== []))=N:=by kernel_rfl
def c7:((Rows.seqAllsUptoRow.knobs== []))=N:=by kernel_rfl
def c8:((Tryz.pinned.checked.prog.stopKnobs== []))=N:=by kernel_rfl
def c9:((Rows.seqAllsUptoRow.inPlace==Tryz.pinned.checked.prog.inPlace 7))=N:=by kernel_rfl
def c10:((Rows.seqAllsUptoRow.unfollowed==Tryz.pinned.checked.prog.unfollowed 7))=N:=by kernel_rfl
def c11:((Rows.seqAllsUptoRow.recurses==Tryz.pinned.checked.prog.recurses 7))=N:=by kernel_rfl
def c12:((Rows.seqAllsUptoRow.named==Tryz.pinned.checked.prog.varsNamed 7))=N:=by kernel_rfl
def c13:((Rows.seqAllsUptoRow.maps==(ae.params.toList++(Rows.OpenSpec.upto Rows.seqAllsSpec).bare.plain.varTypes Tryz.pinned.checked.prog).any (Tryz.pinned.checked.prog.mapsRec ·)))=N:=by kernel_rfl
def c14:((Rows.seqAllsUptoRow.ifaces==(ae.params.toList++(Rows.OpenSpec.upto Rows.seqAllsSpec).bare.plain.varTypes Tryz.pinned.checked.prog).any (Tryz.pinned.checked.prog.ifacesRec ·)))=N:=by kernel_rfl
def c15:((Rows.seqAllsUptoRow.mapsOut==Tryz.pinned.checked.prog.mapsAmong ae.resultTypes.toList))=N:=by kernel_rfl
def c16:((Rows.seqAllsUptoRow.loops==(ae.params.toList++(Rows.OpenSpec.upto Rows.seqAllsSpec).bare.plain.varTypes Tryz.pinned.checked.prog).any (Tryz.pinned.checked.prog.loopsFrom ·)))=N:=by kernel_rfl
def c17:((Rows.seqAllsUptoRow.wideKeys==(ae.params.toList++(Rows.OpenSpec.upto Rows.seqAllsSpec).bare.plain.varTypes Tryz.pinned.checked.prog++ae.resultTypes.toList).any (Tryz.pinned.checked.prog.wideKeysFrom ·)))=N:=by kernel_rfl
def c18:((Rows.OpenSpec.upto Rows.seqAllsSpec).bare.vars.all (Tryz.pinned.checked.prog.varReadable ·))=N:=by kernel_rfl
def c19:(ae.resultTypes.all (λt=>Tryz.pinned.checked.prog.readableRec t&&decide (t<Tryz.pinned.checked.prog.types.size)))=N:=by kernel_rfl
def c20:((Rows.seqAllsUptoRow.ifacesOut==ae.resultTypes.toList.any (Tryz.pinned.checked.prog.ifacesRec ·)))=N:=by kernel_rfl
def c21:((Rows.seqAllsUptoRow.loopsOut==ae.resultTypes.toList.any (Tryz.pinned.checked.prog.loopsFrom ·)))=N:=by kernel_rfl
def c22:((Rows.seqAllsUptoRow.plainKeys==Tryz.pinned.checked.prog.plainKeys))=N:=by kernel_rfl
def c23:(Rows.seqAllsUptoRow.shortTexts.isNone)=N:=by kernel_rfl
def c24:(Tryz.pinned.checked.prog.stopsHeard)=N:=by kernel_rfl
def c25:(Tryz.pinned.checked.prog.mayEnter)=N:=by kernel_rfl
def c26:((Rows.seqAllsUptoRow.lifted==Tryz.pinned.checked.prog.liftsFinal))=N:=by kernel_rfl
def c27:((Tryz.pinned.checked.prog.make==Q Rows.seqAllsUptoRow.make))=N:=by kernel_rfl
def c28:((Rows.seqAllsUptoRow.kinds==(if Rows.seqAllsUptoRow.domain.isEmpty then []else ae.params.toList.map λt=>match Tryz.pinned.checked.prog.underlying t with|some (.int k)=>Q k|_=>U)))=N:=by kernel_rfl
def c29:((Rows.seqAllsUptoRow.pinned==Rows.seqAllsUptoRow.pinnedBy))=N:=by kernel_rfl
def c30:((Rows.seqAllsUptoRow.veiled==(ae.params.toList++(Rows.OpenSpec.upto Rows.seqAllsSpec).bare.plain.varTypes Tryz.pinned.checked.prog++ae.resultTypes.toList).any (Tryz.pinned.checked.prog.veiledRec ·)))=N:=by kernel_rfl
def c31:(Rows.seqAllsUptoRow.veiledFits Tryz.pinned.checked.prog ae.params.toList (ae.params.toList++(Rows.OpenSpec.upto Rows.seqAllsSpec).bare.plain.varTypes Tryz.pinned.checked.prog++ae.resultTypes.toList))=N:=by kernel_rfl
def closed:em Tryz.pinned.checked.prog 7 ae (Rows.OpenSpec.upto Rows.seqAllsSpec).bare Rows.seqAllsUptoRow=N:=by
 unfold em;exact(andM (andM (andM (andM (andM (andM (andM (andM (andM (andM (andM (andM (andM (andM (andM (andM (andM (andM (andM (andM (andM (andM (andM (andM (andM (andM (andM (andM (andM (andM (andM c0 c1) c2) c3) c4) c5) c6) c7) c8) c9) c10) c11) c12) c13) c14) c15) c16) c17) c18) c19) c20) c21) c22) c23) c24) c25) c26) c27) c28) c29) c30) c31)
def fnamed:Tryz.pinned.checked.prog.funcNamed Rows.seqAllsUptoRow.func=Q 7:=by kernel_rfl
def inst:ae.isInstance Tryz.pinned.checked.prog Rows.seqAllsUptoRow.origin Rows.seqAllsUptoRow.targs:=of_decide_eq_true (by kernel_rfl)
def wrap:ae.isWrapper Tryz.pinned.checked.prog Rows.seqAllsUptoRow.wrapper Rows.seqAllsUptoRow.mainSum:=by unfold Func.isWrapper;rw[py (of_decide_eq_false (by kernel_rfl))];exact⟨rfl,rfl⟩
end Go.Proofs.YtakkmiomhackiaaGreatDoor.ClosedSeqAllsUpto
