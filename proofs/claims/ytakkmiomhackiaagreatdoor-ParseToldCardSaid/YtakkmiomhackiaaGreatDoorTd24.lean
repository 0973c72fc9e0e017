/-
  The program, one part of its walk. Conditions: none.
-/
import Derived.Test.YtakkmiomhackiaaGreatDoorTd23
set_option linter.all false
set_option maxRecDepth 100000
set_option maxHeartbeats 16000000
open Go.Proofs.Tryz
open Bool renaming false->Z,true->Q
open Go renaming Calls->az,World->D,bodyPost_ret->ar,cell_of_one->E,free_of_one->ag,heap_alloc_new->bs,lt_of_block->bu,results->au
open Go.Ending renaming returned->bc
open Go.IntKind renaming i64->J,u64->Y,wrap_i64->av,wrap_u64->ak
open Go.Lib renaming trimLeftB->aw,trimRightB->ah
open Go.Obj renaming cells->U
open Go.Proofs renaming intOf->bx
open Go.Proofs.Tryz renaming func160->bg,ntmps160->bh,prog->ba,results120->bj,results163->dj
open Go.Proofs.YtakkmiomhackiaaGreatDoor.Fig renaming figs->bm
open Go.RowKit renaming Below->ai,Hid->R
open Go.RowKit.Below renaming heap_alloc->cj,refl->bw
open Go.Value renaming agg->aj,bool->O,int->I,slice->N,string->S,tuple->ao
open Int renaming lt_or_le->cu,natCast_zero->cr
open List renaming dropWhile_cons->bz,drop_zero->cw,eq_nil_of_length_eq_zero->bp,reverse_append->cz,reverse_singleton->dh,singleton_append->di
open Nat renaming le_refl->ac,le_succ->bk,le_trans->ck,lt_of_lt_of_le->ct,mod_lt->cv,pow_le_pow_left->co
open Option renaming none->V,some->H
open Or renaming inl->af,inr->ae
open UInt8.toNat renaming inj->cg
namespace Go.Proofs.YtakkmiomhackiaaGreatDoor
open Go.RowKit
theorem aIU{n k:Nat}(h:n<10000^k)(a:k<=1048576):(bm n).length<=1048576:=ck (Fig.figs_length_le h) a
theorem wN{X a n:Nat}(h:X<10000^a):X*10^n<10000^(a+n):=by
 rw[Nat.pow_add];exact Nat.mul_lt_mul_of_lt_of_le h (co (by decide) n) (Nat.pow_pos (by decide))
theorem wO(neg:Bool)(a:ByteArray)(e:Int)(m:Nat)(k:Int)(w:D)(t:a.size<=2147483648)(v: -4611686018427387904<=e)(p:e<=4611686018427387904)
 (h:a.data.toList= []\/m=0\/320<(a.size:Int)+e\/(a.size:Int)+e< -340):
 az ba 160 #[aj #[O neg,S a,I J e],I Y m,I J k] w λr w'=>r=bc (I J (aV ⟨neg,a.data.toList,e⟩ m k))/\ai w.heap.size w w':=by
 have g:a.data.toList.length=a.size:=by simp
 have q:J.wrap ((a.size:Int)+e)=(a.size:Int)+e:=by rw[av];omega
 have f:=(bw w.heap.size w).alloc (ac _) (U #[O neg,S a,I J e] 251)
 by_cases s:a.size=0
 .have c:a.data.toList= []:=bp (by omega)
  by_cases d:m=0
  .subst d;have b:aV ⟨neg,a.data.toList,e⟩ 0 k=0:=by unfold aV;rw[c];simp
   rw[b];simp only[cr];clear h c b;go_enter bg,bh;go_wp2_with fail;go_ret;exact⟨rfl,f⟩
  .have b:aV ⟨neg,a.data.toList,e⟩ m k= -1:=by unfold aV;rw[c];simp;omega
   rw[b];have n:(0:Int)<(m:Int):=by omega
   clear h c b;go_enter bg,bh;go_wp2_with fail;go_ret;exact⟨rfl,f⟩
 .have c:a.data.toList≠ []:=λe=>by rw[e]at g;simp at g;omega
  have o:¬(a.size:Int)=0:=by omega
  have n:((a.size:Int)==0)=Z:=by simpa using o
  have u:(0:Int)<(a.size:Int):=by omega
  by_cases d:m=0
  .subst d;have b:aV ⟨neg,a.data.toList,e⟩ 0 k=1:=by unfold aV;rw[if_pos (by simp),if_pos c]
   rw[b];simp only[cr];clear h c b;go_enter bg,bh;go_wp2_with fail;go_ret;exact⟨rfl,f⟩
  .have l:¬(m:Int)=0:=by omega
   have x:((m:Int)==0)=Z:=by simpa using l
   by_cases i:320<(a.size:Int)+e
   .have b:aV ⟨neg,a.data.toList,e⟩ m k=1:=by unfold aV fG;simp only[g];rw[if_neg (by simp[c,d]),if_pos i]
    rw[b];clear h c b;go_enter bg,bh;go_wp2_with fail;go_ret;exact⟨rfl,f⟩
   .have j:(a.size:Int)+e< -340:=by
     rcases h with h|h|h|h
     .exact absurd h c
     .exact absurd h d
     .exact absurd h i
     .exact h
    have b:aV ⟨neg,a.data.toList,e⟩ m k= -1:=by unfold aV fG;simp only[g];rw[if_neg (by simp[c,d]),if_neg i,if_pos j]
    rw[b];clear h c b;go_enter bg,bh;go_wp2_with fail;go_ret;exact⟨rfl,f⟩
theorem aJ9{d:List UInt8}(h:∀c∈d,isD c=Q):∀c∈bD d,48<=c.toNat/\c.toNat<=57:=by
 unfold bD;intro c b;split at b
 .rcases List.mem_append.1 b with a|a
  .exact kB (h c (List.mem_of_mem_take a))
  .rw[List.mem_singleton.1 a];decide
 .exact kB (h c b)
theorem aIV(a:List UInt8):(bD a).length<=801:=by
 unfold bD;split
 .rw[List.length_append,List.length_take];simp;omega
 .omega
theorem yG(neg:Bool)(d:ByteArray)(e:Int)(m:Nat)(k:Int)(w:D)(f:gA ⟨neg,d.data.toList,e⟩)(hs:d.size<=2147483648)
 (y:d.data.toList≠ [])(hm:m≠0)(i:m<18446744073709551616)(ht:(d.size:Int)+e<=320)(ht2: -340<=(d.size:Int)+e)(hk: -1100<=k)(hk2:k<=1100):
 az ba 160 #[aj #[O neg,S d,I J e],I Y m,I J k] w λr w'=>r=bc (I J (aV ⟨neg,d.data.toList,e⟩ m k))/\ai w.heap.size w w':=by
 have hl:d.data.toList.length=d.size:=by simp
 have q0:J.wrap ((d.size:Int)+e)=(d.size:Int)+e:=by rw[av];omega
 have q1:¬(320:Int)<(d.size:Int)+e:=by omega
 have q2:¬(d.size:Int)+e< -340:=by omega
 have hz0:d.size≠0:=λa1=>y (bp (by omega))
 have z1:¬(d.size:Int)=0:=by omega
 have z2:((d.size:Int)==0)=Z:=by simpa using z1
 have y1:¬(m:Int)=0:=by omega
 have y2:((m:Int)==0)=Z:=by simpa using y1
 have a:=aFB f y;have j:=wL d.data.toList e;obtain⟨c0,t0,u0,z,g⟩:=aCt y;have A:c0≠48:=f.first c0 t0 z;have h:=aJ9 f.dig;have l:=aIV d.data.toList;have HSH:=L (λW:D=>aGQ neg d e W hs (by omega) (by omega))
 have hv:aV ⟨neg,d.data.toList,e⟩ m k=gF (bM (bD d.data.toList)*10^(dX d.data.toList e).toNat*2^(-k).toNat) (m*10^(-dX d.data.toList e).toNat*2^k.toNat):=by
  unfold aV fG numOf fF;simp only[hl];rw[if_neg (by simp[y,hm]),if_neg q1,if_neg q2]
 rw[hv];unfold fT at HSH;simp only at HSH;unfold numOf at a;simp only at a;obtain⟨C,hC⟩:∃C:ByteArray,(⟨(bD d.data.toList).toArray⟩:ByteArray)=C:=⟨_,rfl⟩;have B:bD d.data.toList=C.data.toList:=by rw[<-hC]
 simp only[hC]at HSH;rw[B]at j g h l a⊢;have q:C.data.toList.length=C.size:=by simp
 rw[q]at j l;generalize dX d.data.toList e=a0 at*;have F:0<C.size:=by rw[<-q,g];simp
 have G:C[0].toNat≠48:=by
  have c:C.data.toList[0]?=H C[0]:=by rw[List.getElem?_eq_getElem (by omega)];rfl
  rw[g]at c;simp at c;rw[<-c];intro a1;exact A (cg a1)
 obtain⟨a2,hT⟩:∃a2,a2=801:=⟨_,rfl⟩;have c:bM C.data.toList<10000^a2:=ct (j8 λx hx=>(h x hx).2) (ck (co (by decide) _) (Nat.pow_le_pow_right (by decide) (by omega)));have HPA:=L (λW:D=>aD3 C W h (by omega) F G);obtain⟨X,hX⟩:∃X,bM C.data.toList=X:=⟨_,rfl⟩;rw[hX]at HPA c a⊢;have P:X≠0:=λa1=>by rw[a1]at a;simp at a
 have hE1: -1141<=a0:=by omega
 have hE2:a0<=320:=by omega
 have T:m<10000^5:=ct i (by decide);have HXN:=L P;have HXL:=L (aIU (wN (n:=a0.toNat) c) (by omega));have HYL:=L (aIU (wN (n:=(-a0).toNat) T) (by omega));obtain⟨Xn,t⟩:∃Xn,X*10^a0.toNat=Xn:=⟨_,rfl⟩;obtain⟨Yn,u⟩:∃Yn,m*10^(-a0).toNat=Yn:=⟨_,rfl⟩;rw[t]at HXL⊢;rw[u]at HYL⊢;obtain⟨Xf,s⟩:∃Xf,Xn*2^(-k).toNat=Xf:=⟨_,rfl⟩;obtain⟨Yf,v⟩:∃Yf,Yn*2^k.toNat=Yf:=⟨_,rfl⟩;rw[s,v];have HX1:=L t;have HX2:=L s;have HY1:=L u;have HY2:=L v;have HOF:=L (λW:D=>rC m W i);have HM0:=L hm;clear f y a z g A h l hv hC B q F G hX P c i j hm t s u v T;have i:=(bw w.heap.size w).alloc (ac _) (U #[O neg,S d,I J e] 251);have h:(w.alloc (U #[O neg,S d,I J e] 251)).heap[w.heap.size]?=H (U #[O neg,S d,I J e] 251 (0,0)):=bs w _;go_enter bg,bh;go_wp2_with fail;refine(HSH.o _).mono ?_;rintro r w1 ⟨rfl,a⟩;have h:=keep h a;have i:=chain i a;obtain⟨c0,c1,c2,cf⟩:=cells3 h;have HG3:=L h;have HB:=L i;clear h i a;go_wp2_with fail;have h:=aB (o:=2) (aB (o:=1) (aB (o:=0) HG3.o (O neg)) (S C)) (I J a0);have i:=((HB.o.setCell (p:=⟨w.heap.size,0,V⟩) (ac _) (O neg)).setCell (p:=⟨w.heap.size,1,V⟩) (ac _) (S C)).setCell (p:=⟨w.heap.size,2,V⟩) (ac _) (I J a0);generalize ((w1.setCell {block:=w.heap.size,off:=0} (O neg)).setCell {block:=w.heap.size,off:=1} (S C)).setCell {block:=w.heap.size,off:=2} (I J a0)=w2 at*;have h:w2.heap[w.heap.size]?=H (U #[O neg,S C,I J a0] 251 (0,0)):=h;clear HG3 HB c0 c1 c2 cf;refine(HPA.o _).mono ?_;rintro r v ⟨ax,kx,cx,rfl,f,a⟩;have h:=keep h a;have i:=chain i a;have hl3:=bu h;have j:(v.alloc (U #[N ax kx cx] 324)).heap[v.heap.size]?=H (U #[N ax kx cx] 324 (0,0)):=bs v _;have h:=(cj v (U #[N ax kx cx] 324) _ hl3).trans h;have i:=i.alloc (by omega) (U #[N ax kx cx] 324);have f:=f.A4 (U #[N ax kx cx] 324);have HG3:=L h;have g:=L j;have HB:=L i;have l:=L f;clear h i j f a;go_wp2_with fail;generalize v.alloc (U #[N ax kx cx] 324)=w4 at*;refine(HOF.o _).mono ?_;rintro r s ⟨ay,ky,cy,rfl,q,y⟩;have h:=keep HG3.o y;have j:=keep g.o y;have i:=chain HB.o y;have f:=l.o.A5 y;have hl8:=bu j;have c:(s.alloc (U #[N ay ky cy] 324)).heap[s.heap.size]?=H (U #[N ay ky cy] 324 (0,0)):=bs s _;have h:=(cj s (U #[N ay ky cy] 324) _ (bu h)).trans h;have j:=(cj s (U #[N ay ky cy] 324) _ hl8).trans j;have i:=i.alloc (by omega) (U #[N ay ky cy] 324);have f:=f.A4 (U #[N ay ky cy] 324);have q:=q.A4 (U #[N ay ky cy] 324);have hn1:v.heap.size≠s.heap.size:=by omega
 have hn4:w.heap.size<=v.heap.size:=by omega
 have hn5:w.heap.size<=s.heap.size:=by omega
 obtain⟨c0,c1,c2,cf⟩:=cells3 h;have c8:=E j;have c10:=E c;have f8:=ag j;have f10:=ag c;have g:=L j;have a:=L c;have HB:=L i;have l:=L f;have F:=L q;clear h j c i f q y
 have hEs:(∃n:Nat,a0=(n:Int)/\n<=1141)\/(∃n:Nat,a0= -(n:Int)/\1<=n/\n<=1141):=by
  rcases cu a0 0 with a1|a1
  .exact ae ⟨(-a0).toNat,by omega,by omega,by omega⟩
  .exact af ⟨a0.toNat,by omega,by omega⟩
 have hks:(∃K:Nat,k=(K:Int)/\K<=1100)\/(∃K:Nat,k= -(K:Int)/\1<=K/\K<=1100):=by
  rcases cu k 0 with a1|a1
  .exact ae ⟨(-k).toNat,by omega,by omega,by omega⟩
  .exact af ⟨k.toNat,by omega,by omega⟩
 clear hk hk2 hE1 hE2;rcases hEs with⟨n,rfl,hn⟩|⟨n,rfl,hn0,hn⟩
 all_goals
  rcases hks with⟨K,rfl,hK⟩|⟨K,rfl,hK0,hK⟩
  all_goals
   have HTW:=L (λW:D=>aJU K W (by omega));go_wp2_with fail;generalize h:s.alloc (U #[N ay ky cy] 324)=w6 at*;clear h
   first
    | (have P:X=Xn:=by have:=HX1.o;simpa using this
       have T:m*10^n=Yn:=by have:=HY1.o;simpa using this
       refine(vW ay ky cy m n _ F.o HM0.o (by omega) (by rw[T];exact HYL.o)).mono ?_;rintro r w7 ⟨y,z,A,rfl,B,h⟩;rw[T]at B;have j:=keep g.o h;have c:=keep a.o h;have i:=chain HB.o h;have f:=l.o.A5 h;rw[P]at f;have f10:=ag c;have c10:=E c;have g:=L ((aE (o:=0) (N y z A) hn1).trans j);have a:=L (aB (o:=0) c (N y z A));have F:=L (B.D6 c (by decide) 0 (N y z A));have l:=L (f.D6 c (by decide) 0 (N y z A));have HB:=L (i.setCell (p:=⟨s.heap.size,0,V⟩) hn5 (N y z A));have g8':=E g.o;have g10':=E a.o;have k8':=ag g.o;have k10':=ag a.o;clear B h j c i f P T;go_wp2_with fail;generalize w7.setCell ⟨s.heap.size,0,V⟩ (N y z A)=G at*;obtain⟨x1,x2,x3,y1,y2,y3,G8,G10,f,FY⟩:∃x1 x2 x3 y1 y2 y3,M (G.heap[v.heap.size]?=H (U #[N x1 x2 x3] 324 (0,0)))/\M (G.heap[s.heap.size]?=H (U #[N y1 y2 y3] 324 (0,0)))/\M (Fgs G (N x1 x2 x3) (bm Xn))/\M (Fgs G (N y1 y2 y3) (bm Yn)):=⟨ax,kx,cx,y,z,A,g,a,l,F⟩;clear g8' g10' k8' k10' f10 c10)
    | (have P : X * 10 ^ n = Xn := by have := HX1.o; simpa using this
       have T:m=Yn:=by have:=HY1.o;simpa using this
       refine(vW ax kx cx X n _ l.o HXN.o (by omega) (by rw[P];exact HXL.o)).mono ?_;rintro r w7 ⟨y,z,A,rfl,B,h⟩;rw[P]at B;have j:=keep g.o h;have c:=keep a.o h;have i:=chain HB.o h;have q:=F.o.A5 h;rw[T]at q;have f8:=ag j;have c8:=E j;have a:=L ((aE (o:=0) (N y z A) hn1.symm).trans c);have g:=L (aB (o:=0) j (N y z A));have l:=L (B.D6 j (by decide) 0 (N y z A));have F:=L (q.D6 j (by decide) 0 (N y z A));have HB:=L (i.setCell (p:=⟨v.heap.size,0,V⟩) hn4 (N y z A));have g8':=E g.o;have g10':=E a.o;have k8':=ag g.o;have k10':=ag a.o;clear B h j c i q P T;go_wp2_with fail;generalize w7.setCell ⟨v.heap.size,0,V⟩ (N y z A)=G at*;obtain⟨x1,x2,x3,y1,y2,y3,G8,G10,f,FY⟩:∃x1 x2 x3 y1 y2 y3,M (G.heap[v.heap.size]?=H (U #[N x1 x2 x3] 324 (0,0)))/\M (G.heap[s.heap.size]?=H (U #[N y1 y2 y3] 324 (0,0)))/\M (Fgs G (N x1 x2 x3) (bm Xn))/\M (Fgs G (N y1 y2 y3) (bm Yn)):=⟨y,z,A,ay,ky,cy,g,a,l,F⟩;clear g8' g10' k8' k10' f8 c8)
   have hl3':=bu G8.o;have hl5':=bu G10.o;have d8:=E G8.o;have d10:=E G10.o;have hTL:=aFs (k:=K) (by omega);have hKw:J.wrap (K:Int)=(K:Int):=by rw[av];omega
   have fx:=f.o;have fy:=FY.o
   first
    | (have P:Xn*2 ^ K=Xf:=by have:=HX2.o;simpa using this
       have T:Yn=Yf:=by have:=HY2.o;simpa using this
       go_region_with
        (first|(go_at_call 186;(with_reducible refine(HTW.o _).mono ?_);rintro r wx ⟨ap,kp,cp,rfl,z,c⟩;have t:=(c.cell (p:=⟨v.heap.size,0,V⟩) (by simpa using hl3')).trans d8)|(go_at_call 185;(with_reducible refine(jO x1 ap x2 kp x3 cp Xn (2^K) _ ((fx.A9).A5 c) z HXL.o hTL).mono ?_);rintro r wy ⟨j,q,y,rfl,i,f⟩;have B:=keep (keep (w1:=G.drew) G8.o c) f;have hyf:=ag B;have u:=E B))
       all_goals
        rw[P]at i;have h:=keep (keep (w1:=G.drew) G10.o c) f;have fy2:=((fy.A9).A5 c).A5 f;rw[T]at fy2;have A:=(chain (chain HB.o.drew c) f).setCell (p:=⟨v.heap.size,0,V⟩) hn4 (N j q y);have ZX:=L (i.D6 B (by decide) 0 (N j q y));have ZY:=L (fy2.D6 B (by decide) 0 (N j q y));have z8:=E (aB (o:=0) B (N j q y));have z10:=E ((aE (w:=wy) (o:=0) (k:=s.heap.size) (b:=v.heap.size) (N j q y) hn1.symm).trans h);have ZB:=L A;clear c f z i t u hyf B h fy2 A d8 d10 fx fy P T;go_wp2_with fail;refine(vU j y1 q y2 y y3 Xf Yf _ ZX.o ZY.o).mono ?_;rintro r wz ⟨rfl,hbz⟩;have hbf:=chain ZB.o hbz;go_wp2_with fail;go_ret;exact⟨rfl,hbf⟩)
    | (have P : Xn = Xf := by have := HX2.o; simpa using this
       have T:Yn*2^K=Yf:=by have:=HY2.o;simpa using this
       go_region_with
        (first|(go_at_call 186;(with_reducible refine(HTW.o _).mono ?_);rintro r wx ⟨ap,kp,cp,rfl,z,c⟩;have t:=(c.cell (p:=⟨s.heap.size,0,V⟩) (by simpa using hl5')).trans d10)|(go_at_call 185;(with_reducible refine(jO y1 ap y2 kp y3 cp Yn (2^K) _ ((fy.A9).A5 c) z HYL.o hTL).mono ?_);rintro r wy ⟨j,q,y,rfl,i,f⟩;have h:=keep (keep (w1:=G.drew) G10.o c) f;have hyf:=ag h;have u:=E h))
       all_goals
        rw[T]at i;have B:=keep (keep (w1:=G.drew) G8.o c) f;have G:=((fx.A9).A5 c).A5 f;rw[P]at G;have A:=(chain (chain HB.o.drew c) f).setCell (p:=⟨s.heap.size,0,V⟩) hn5 (N j q y);have ZX:=L (G.D6 h (by decide) 0 (N j q y));have ZY:=L (i.D6 h (by decide) 0 (N j q y));have z10:=E (aB (o:=0) h (N j q y));have z8:=E ((aE (w:=wy) (o:=0) (k:=v.heap.size) (b:=s.heap.size) (N j q y) hn1).trans B);have ZB:=L A;clear c f z i t u hyf B h G A d8 d10 fx fy P T;go_wp2_with fail;refine(vU x1 j x2 q x3 y Xf Yf _ ZX.o ZY.o).mono ?_;rintro r wz ⟨rfl,hbz⟩;have hbf:=chain ZB.o hbz;go_wp2_with fail;go_ret;exact⟨rfl,hbf⟩)
theorem mU(neg:Bool)(a:ByteArray)(e:Int)(m:Nat)(k:Int)(w:D)(b:gA ⟨neg,a.data.toList,e⟩)(g:a.size<=2147483648)(l: -4611686018427387904<=e)(d:e<=4611686018427387904)
 (f:m<18446744073709551616)(j: -1100<=k)(c:k<=1100):
 az ba 160 #[aj #[O neg,S a,I J e],I Y m,I J k] w λr w'=>r=bc (I J (aV ⟨neg,a.data.toList,e⟩ m k))/\ai w.heap.size w w':=by
 by_cases h:a.data.toList= []\/m=0\/320<(a.size:Int)+e\/(a.size:Int)+e< -340
 .exact wO neg a e m k w g l d h
 .have n:a.data.toList≠ []:=λe=>h (af e)
  have i:m≠0:=λe=>h (ae (af e))
  exact yG neg a e m k w b g n i f (by omega) (by omega) j c
theorem uO(b:Nat):fL b<9007199254740992:=by
 have:=cv b (show 4503599627370496>0 by decide);unfold fL;split<;>omega
theorem lA(b:Nat): -1074<=fV b/\fV b<=972:=by
 have:=cv (b/4503599627370496) (show 2048>0 by decide);unfold fV m4;omega
theorem aD7(neg:Bool)(g:ByteArray)(e:Int)(w:D)(b:gA ⟨neg,g.data.toList,e⟩)(t:g.size<=2147483648)(u: -4611686018427387904<=e)(m:e<=4611686018427387904):
 az ba 158 #[aj #[O neg,S g,I J e]] w λr w'=>∃f:Nat,r=bc (I Y f)/\mT ⟨neg,g.data.toList,e⟩ f/\ai w.heap.size w w':=by
 have i:=L (λ(W:D)(f:Nat)=>mU neg g e (fL f) (fV f) W b t u m (by have:=uO f;omega) (by have:=lA f;omega) (by have:=lA f;omega));obtain⟨d,c⟩:∃d:Dml,⟨neg,g.data.toList,e⟩=d:=⟨_,rfl⟩;rw[c]at i⊢
 have a:0<=aV d (fL 0) (fV 0):=by
  unfold aV;rw[nZ.1,if_pos (ae rfl)];split
  .decide
  .simp
 have j:=L a;clear b c a;have g1:(w.alloc (U #[O neg,S g,I J e] 251)).heap[w.heap.size]?=H (U #[O neg,S g,I J e] 251 (0,0)):=bs w _;have a:=(bw w.heap.size w).alloc (ac _) (U #[O neg,S g,I J e] 251);go_enter func158,ntmps158;go_wp2_with fail
 go_loopw [3,4] (λl v wr=>∃b hi:Nat,l=I Y b/\v=I Y hi/\b<=hi/\hi<=9218868437227405311/\M (0<=aV d (fL b) (fV b))/\M (hi=9218868437227405311\/aV d (fL (hi+1)) (fV (hi+1))<0)/\wr.heap[w.heap.size]?=H (U #[O neg,S g,I J e] 251 (0,0))/\ai w.heap.size w wr) (λl v _=>(bx v).toNat-(bx l).toNat)
 case atStart=>exact⟨0,9218868437227405311,rfl,rfl,by decide,ac _,j,L (af rfl),g1,a⟩
 case round=>
  clear g1 a;obtain⟨b,hi,rfl,rfl,x,k,p,q,g1,c⟩:=hrel
  by_cases y:b<hi
  .have z:(b:Int)<(hi:Int):=by omega
   obtain⟨a,h⟩:∃a,b+(hi-b+1)/2=a:=⟨_,rfl⟩;have w1:Y.wrap ((hi:Int)-(b:Int))=((hi-b:Nat):Int):=by rw[ak];omega
   have w2:Y.wrap (((hi-b:Nat):Int)+1)=((hi-b:Nat):Int)+1:=by rw[ak];omega
   have K:Y.wrap ((b:Int)+(((hi-b:Nat):Int)+1)/2)=(a:Int):=by rw[ak];omega
   have B:b<a:=by omega
   have n:a<=hi:=by omega
   clear h;obtain⟨C,c1,c2,F⟩:=cells3 g1;have G:=L g1;clear g1;go_wp2_with fail;refine(wM a _ (by omega)).mono ?_;rintro r w1 ⟨rfl,rfl⟩;go_wp2_with fail;refine(i.o _ a).mono ?_;rintro r w2 ⟨rfl,h⟩;have g1:=keep G.o h;have c:=chain c h;obtain⟨A,o⟩:∃A,aV d (fL a) (fV a)=A:=⟨_,rfl⟩;rw[o];have s:=L o;clear o C c1 c2 F h
   by_cases h:0<=A
   .have o:=L (show 0<=aV d (fL a) (fV a) by rw[s.o];exact h);go_wp2_with fail;exact⟨⟨a,hi,rfl,rfl,n,k,o,q,g1,c⟩,by simp[bx];omega⟩
   .have C:Y.wrap ((a:Int)-1)=((a-1:Nat):Int):=by rw[ak];omega
    have o:=L (show a-1=9218868437227405311\/aV d (fL (a-1+1)) (fV (a-1+1))<0 from ae (by rw[show a-1+1=a by omega,s.o];omega));go_wp2_with fail;exact⟨⟨b,a-1,rfl,rfl,by omega,by omega,p,o,g1,c⟩,by simp[bx];omega⟩
  .obtain rfl:b=hi:=by omega
   have z:¬(b:Int)<(b:Int):=by omega
   have a:=L (show mT d b from⟨k,p.o,q.o⟩);clear g1;go_wp2_with fail;go_ret;exact⟨b,rfl,a.o,c⟩
def wP:Option Nat->Value
 | none=>ao #[I Y 0,O Z]
 | some x=>ao #[I Y (x:Nat),O Q]
theorem aD8(neg:Bool)(c:ByteArray)(e:Int)(w:D)(a:gA ⟨neg,c.data.toList,e⟩)(C:c.size<=2147483648)(K: -4611686018427387904<=e)(i:e<=4611686018427387904):
 az ba 120 #[aj #[O neg,S c,I J e],I J 1] w λr w'=>r=bc (wP (cD ⟨neg,c.data.toList,e⟩))/\ai w.heap.size w w':=by
 have j:=L (λW:D=>aD7 neg c e W a C K i);have k:=L (λ(W:D)(f:Nat)=>mU neg c e (fL f) (fV f) W a C K i (by have:=uO f;omega) (by have:=lA f;omega) (by have:=lA f;omega));have p:=L (λ(W:D)(f:Nat)=>mU neg c e (2*fL f+1) (fV f-1) W a C K i (by have:=uO f;omega) (by have:=lA f;omega) (by have:=lA f;omega));have b:=L (λf=>aGP (f:=f) a);obtain⟨d,l⟩:∃d:Dml,⟨neg,c.data.toList,e⟩=d:=⟨_,rfl⟩;have g:d.neg=neg:=by rw[<-l]
 rw[l]at j k p b⊢;have h:=L g;clear a l g;have g1:(w.alloc (U #[O neg,S c,I J e] 251)).heap[w.heap.size]?=H (U #[O neg,S c,I J e] 251 (0,0)):=bs w _;have l:=(bw w.heap.size w).alloc (ac _) (U #[O neg,S c,I J e] 251);go_enter func120,ntmps120;go_wp2_with fail;refine(j.o _).mono ?_;rintro r w1 ⟨f,rfl,g,a⟩;have g1:=keep g1 a;have l:=chain l a;have m:f<=9218868437227405311:=g.le;have o:=L (b.o f g);clear g a;go_wp2_with fail;refine(wM f _ (by omega)).mono ?_;rintro r w2 ⟨rfl,rfl⟩;obtain⟨y,c1,c2,-⟩:=cells3 g1;go_wp2_with fail;refine(k.o _ f).mono ?_;rintro r w3 ⟨rfl,a⟩;have g1:=keep g1 a;have l:=chain l a;obtain⟨A,g⟩:∃A,aV d (fL f) (fV f)=A:=⟨_,rfl⟩;rw[g];clear g a y c1 c2;obtain⟨y,c1,c2,-⟩:=cells3 g1;have g:=uO f;have q:=lA f;have s:Y.wrap ((2:Int)*((fL f:Nat):Int))=((2*fL f:Nat):Int):=by rw[ak];omega
 have t:J.wrap (fV f-1)=fV f-1:=by rw[av];omega
 have P:(A==0)=Q\/(A==0)=Z:=by cases A==0<;>simp
 have a:∀x,f9 d f=x->cD d=x:=λx X=>o.o.symm.trans X
 have n:=L a;clear a o b j k;rcases P with P|P
 all_goals
  go_wp2_with fail;refine(p.o _ f).mono ?_;rintro r w4 ⟨rfl,a⟩;have g1:=keep g1 a;have l:=chain l a;obtain⟨k,b9⟩:∃k,aV d (2*fL f+1) (fV f-1)=k:=⟨_,rfl⟩;rw[b9];have b:kY d f=k:=b9;have j:=L b;clear b a y c1 c2 s t g q;obtain⟨y,-,-,-⟩:=cells3 g1
  have q:(((0:Int)<k)\/(¬(0:Int)<k/\k=0/\(f:Int)%2=1))/\pT d f=f+1\/((¬(0:Int)<k/\k=0/\(f:Int)%2=0)\/(¬(0:Int)<k/\¬k=0))/\pT d f=f:=by
   unfold pT;rw[j.o]
   by_cases g:0<k
   .exact af ⟨af g,if_pos (af g)⟩
   .by_cases a:k=0
    .by_cases b:f%2=1
     .exact af ⟨ae ⟨g,a,by omega⟩,if_pos (ae ⟨a,b⟩)⟩
     .exact ae ⟨af ⟨g,a,by omega⟩,if_neg (by omega)⟩
    .exact ae ⟨ae ⟨g,a⟩,if_neg (by omega)⟩
  clear j;have b:=L l;rcases q with⟨g,a⟩|⟨g,a⟩
  .obtain⟨F,T⟩:∃F,f+1=F:=⟨_,rfl⟩;rw[T]at a;have w1:Y.wrap ((f:Int)+1)=(F:Int):=by rw[ak];omega
   have hF0:(0:Int)<(F:Int):=by omega
   by_cases s:f=9218868437227405311
   .have o:=L (n.o V (by unfold f9;rw[a,if_pos (by unfold aJ;omega)]));have o1:(9218868437227405311:Int)<(F:Int):=by omega
    clear a s n T m;rcases g with t|⟨t,j,z⟩
    all_goals
     try subst j
     try have k4:((f:Int)%2==1)=Q:=by simpa using z
     go_wp2_with fail;exact ar (v:=ao #[I Y 0,O Z]) (by simp[au,bj,go_sem]) rfl ⟨by rw[o.o];rfl,b.o⟩
   .have o1:¬(9218868437227405311:Int)<(F:Int):=by omega
    obtain⟨G,u⟩:∃G,F+9223372036854775808=G:=⟨_,rfl⟩;have o2:Y.wrap ((F:Int)+9223372036854775808)=(G:Int):=by rw[ak];omega
    have o:=L (n.o (H (if d.neg=Q then G else F)) (by
     unfold f9;rw[a,if_neg (by unfold aJ;omega),u];congr 1
     by_cases B:d.neg=Q
     .rw[if_pos ⟨B,by omega⟩,if_pos B]
     .rw[if_neg (λX=>B X.1),if_neg B]))
    rw[h.o]at o;clear a s n T m u;rcases g with t|⟨t,j,z⟩
    all_goals
     try subst j
     try have k4:((f:Int)%2==1)=Q:=by simpa using z
     cases neg
     .go_wp2_with fail;exact ar (v:=ao #[I Y (F:Int),O Q]) (by simp[au,bj,go_sem]) rfl ⟨by rw[o.o];rfl,b.o⟩
     .go_wp2_with fail;exact ar (v:=ao #[I Y (G:Int),O Q]) (by simp[au,bj,go_sem]) rfl ⟨by rw[o.o];rfl,b.o⟩
  .have o1:¬(9218868437227405311:Int)<(f:Int):=by omega
   obtain⟨G,u⟩:∃G,f+9223372036854775808=G:=⟨_,rfl⟩;have o2:Y.wrap ((f:Int)+9223372036854775808)=(G:Int):=by rw[ak];omega
   have o:=L (n.o (H (if d.neg=Q/\0<f then G else f)) (by unfold f9;rw[a,if_neg (by unfold aJ;omega),u]));rw[h.o]at o;clear a n m u;rcases g with⟨t,j,z⟩|⟨t,j⟩
   all_goals
    try have m:(k==0)=Z:=by simpa using j
    try subst j
    cases neg
    .go_wp2_with fail;exact ar (v:=ao #[I Y (f:Int),O Q]) (by simp[au,bj,go_sem]) rfl ⟨by rw[o.o];rfl,b.o⟩
    .by_cases a:0<f
     .have n:(0:Int)<(f:Int):=by omega
      rw[if_pos ⟨rfl,a⟩]at o;go_wp2_with fail;exact ar (v:=ao #[I Y (G:Int),O Q]) (by simp[au,bj,go_sem]) rfl ⟨by rw[o.o];rfl,b.o⟩
     .have n:¬(0:Int)<(f:Int):=by omega
      rw[if_neg (λX=>a X.2)]at o;go_wp2_with fail;exact ar (v:=ao #[I Y (f:Int),O Q]) (by simp[au,bj,go_sem]) rfl ⟨by rw[o.o];rfl,b.o⟩
theorem aD9{t:ByteArray}(h:0<t.size)(a:t[0]=48):aw t.data.toList 48=aw (t.extract 1 t.size).data.toList 48/\(t.extract 1 t.size).size=t.size-1:=by
 have e:t.data.toList=48::(t.extract 1 t.size).data.toList:=by
  have b:=aZ h;rw[cw,a]at b;rw[b];congr 1;simp;rw[List.take_of_length_le (by simp)]
 refine⟨?_,by simp⟩;rw[e];unfold aw;rw[bz,if_pos (by decide)]
theorem aGR{t:ByteArray}(h:∀h:0<t.size,t[0]≠48):aw t.data.toList 48=t.data.toList:=by
 unfold aw
 by_cases b:0<t.size
 .have a:=aZ b;rw[cw]at a;rw[a,bz,if_neg (by simpa using h b)]
 .have:t.data.toList= []:=bp (by rw[show t.data.toList.length=t.size by simp];omega);rw[this];rfl
theorem zY{t:ByteArray}{n:Nat}(h:t.size=n+1):t.data.toList=(t.extract 0 n).data.toList++ [t[n]]:=by
 have e:=List.take_append_drop n t.data.toList;have a:=aZ (s:=t) (i:=n) (by omega);rw[dA (s:=t) (i:=n+1) (by omega)]at a;rw[a]at e;have b:(t.extract 0 n).data.toList=t.data.toList.take n:=by simp
 rw[b,e]
theorem aEa{t:ByteArray}{n:Nat}(h:t.size=n+1)(a:t[n]=48):ah t.data.toList 48=ah (t.extract 0 n).data.toList 48/\(t.extract 0 n).size=n:=by
 refine⟨?_,by simp;omega⟩;rw[zY h,a];unfold ah;rw[cz,dh,di,bz,if_pos (by decide)]
theorem aGS{t:ByteArray}(h:∀n,∀h:t.size=n+1,t[n]≠48):ah t.data.toList 48=t.data.toList:=by
 unfold ah
 by_cases b:t.size=0
 .have:t.data.toList= []:=bp (by rw[show t.data.toList.length=t.size by simp];omega);rw[this];rfl
 .obtain⟨n,a⟩:∃n,t.size=n+1:=⟨t.size-1,by omega⟩;rw[zY a,cz,dh,di,bz,if_neg (by simpa using h n a)];simp
theorem aEb(neg:Bool)(l:ByteArray)(e:Int)(w:D)(hs:l.size<=2147483648)(he: -4611686018427387904<=e)(he2:e<=4611686018427387904):
 az ba 163 #[aj #[O neg,S l,I J e]] w λr w'=>r=bc (fT (bZ neg l.data.toList e))/\ai w.heap.size w w':=by
 obtain⟨G,d⟩:∃G,aw l.data.toList 48=G:=⟨_,rfl⟩;obtain⟨A,f⟩:∃A,bZ neg l.data.toList e=A:=⟨_,rfl⟩;have a:(if ah G 48= []then⟨Z,[],0⟩else⟨neg,ah G 48,e+G.length-(ah G 48).length⟩:Dml)=A:=by rw[<-f,<-d];rfl
 rw[f];have m:=L a;obtain⟨g1,c,g⟩:=fS w (U #[O neg,S l,I J e] 251) (U #[O Z,S ⟨#[]⟩,I J 0] 251);have HT:=L d;clear f a d;go_enter func163,ntmps163;go_wp2_with fail
 go_loopw [6] (λ_ wr=>∃t:ByteArray,wr.heap[w.heap.size]?=H (U #[O neg,S t,I J e] 251 (0,0))/\wr.heap[w.heap.size+1]?=H (U #[O Z,S ⟨#[]⟩,I J 0] 251 (0,0))/\ai w.heap.size w wr/\t.size<=2147483648/\M (aw t.data.toList 48=G)) (λ_ wr=>match wr.cell? ⟨w.heap.size,1,V⟩with|some (S s)=>s.size|_=>0)
 case atStart=>exact⟨l,g1,c,g,hs,HT⟩
 case round=>
  clear g1 c g;obtain⟨t,g1,c,g,K,h⟩:=hrel;obtain⟨-,c1,-,cf⟩:=cells3 g1
  by_cases a:∃f:0<t.size,t[0].toNat=48
  .obtain⟨f,d⟩:=a
   obtain⟨z,C⟩:=aD9 f (cg d);have i:((t[0].toNat:Nat):Int)=48:=by omega
   have q:=aB (o:=1) g1 (S (t.extract 1 t.size));have F:=(aE (w:=wr) (o:=1) (b:=w.heap.size) (k:=w.heap.size+1) (S (t.extract 1 t.size)) (by omega)).trans c;have P:=L (z.symm.trans h.o);have j:=g.setCell (p:=⟨w.heap.size,1,V⟩) (ac _) (S (t.extract 1 t.size));have T:=aA (o:=1) q;have y:(t.extract 1 t.size).size<t.size:=by omega
   clear z C d;go_wp2_with fail;refine⟨⟨t.extract 1 t.size,q,F,j,by omega,P⟩,?_⟩;rw[T,c1];exact y
  .have i:=aGR (t:=t) λf W=>a ⟨f,by rw[W];rfl⟩
   have hq:¬(0:Int)<(t.size:Int)\/((0:Int)<(t.size:Int)/\∃f:0<t.size,¬((t[0].toNat:Nat):Int)=48/\(((t[0].toNat:Nat):Int)==48)=Z):=by
    by_cases f:0<t.size
    .have:¬((t[0].toNat:Nat):Int)=48:=λW=>a ⟨f,by omega⟩
     exact ae ⟨by omega,f,this,by simpa using this⟩
    .exact af (by omega)
   have X:G=t.data.toList:=h.o.symm.trans i;clear a i h;subst X;have h:t.data.toList.length=t.size:=by simp
   rw[h]at m;obtain⟨a0,i⟩:∃a0,ah t.data.toList 48=a0:=⟨_,rfl⟩;rw[i]at m;have HU:=L i;clear i h;rcases hq with q1|⟨q1,f,-,q3⟩
   all_goals
    go_wp2_with fail
    go_loopw [21] (λ_ wr=>∃(u:ByteArray)(x:Int),wr.heap[w.heap.size]?=H (U #[O neg,S u,I J x] 251 (0,0))/\wr.heap[w.heap.size+1]?=H (U #[O Z,S ⟨#[]⟩,I J 0] 251 (0,0))/\ai w.heap.size w wr/\u.size<=2147483648/\x+u.size=e+t.size/\M (ah u.data.toList 48=a0)) (λ_ wr=>match wr.cell? ⟨w.heap.size,1,V⟩with|some (S s)=>s.size|_=>0)
    case atStart=>exact⟨t,e,g1,c,g,K,rfl,HU⟩
    case round=>
     clear g1 c g c1 cf;obtain⟨u,x,g1,c,g,hus,hx,h⟩:=hrel;obtain⟨c0,c1,c2,cf⟩:=cells3 g1
     by_cases a:∃n,∃f:u.size=n+1,u[n].toNat=48
     .obtain⟨n,f,d⟩:=a;have p1:(0:Int)<(u.size:Int):=by omega
      obtain⟨z,C⟩:=aEa f (cg d);have i:n<u.size:=by omega
      have p2:(((u[n]'i).toNat:Nat):Int)=48:=by omega
      have p3:J.wrap ((u.size:Int)-1)=(n:Int):=by rw[av];omega
      have p4:J.wrap (x+1)=x+1:=by rw[av];omega
      have p5:(n:Int)<(u.size:Int):=by omega
      have p6:(n:Int)<=(u.size:Int):=by omega
      have q:=aB (o:=2) (aB (o:=1) g1 (S (u.extract 0 n))) (I J (x+1));have F:=(aE (o:=2) (b:=w.heap.size) (k:=w.heap.size+1) (I J (x+1)) (by omega)).trans ((aE (w:=wr) (o:=1) (b:=w.heap.size) (k:=w.heap.size+1) (S (u.extract 0 n)) (by omega)).trans c);have P:=L (z.symm.trans h.o);have j:=(g.setCell (p:=⟨w.heap.size,1,V⟩) (ac _) (S (u.extract 0 n))).setCell (p:=⟨w.heap.size,2,V⟩) (ac _) (I J (x+1));have T:=aA (o:=1) q;have y:(u.extract 0 n).size<u.size:=by omega
      have B:x+1+((u.extract 0 n).size:Int)=e+(t.size:Int):=by rw[C];omega
      have HXE:=L B;clear z d f B;go_wp2_with fail;refine⟨⟨u.extract 0 n,x+1,q,F,j,by omega,HXE.o,P⟩,?_⟩;rw[T,c1];exact y
     .have y:=aGS (t:=u) λn f W=>a ⟨n,f,by rw[W];rfl⟩
      have P:a0=u.data.toList:=h.o.symm.trans y;have z:u.data.toList.length=u.size:=by simp
      have B:x=e+(t.size:Int)-(u.size:Int):=by omega
      subst P;rw[z]at m
      by_cases f:u.size=0
      .have p1:(u.size:Int)=0:=by omega
       have p2:¬(0:Int)<(u.size:Int):=by omega
       have d:u.data.toList= []:=bp (by omega);rw[if_pos d]at m;have h0:=aA (o:=0) c;have q:=aA (o:=1) c;have F:=aA (o:=2) c;have hf:=free_at c;have j:=aB (o:=2) (aB (o:=1) (aB (o:=0) c (O Z)) (S ⟨#[]⟩)) (I J 0);have T:=aA (o:=0) j;have r1:=aA (o:=1) j;have r2:=aA (o:=2) j;have C:=L (((g.setCell (p:=⟨w.heap.size+1,0,V⟩) (bk _) (O Z)).setCell (p:=⟨w.heap.size+1,1,V⟩) (bk _) (S ⟨#[]⟩)).setCell (p:=⟨w.heap.size+1,2,V⟩) (bk _) (I J 0));clear d j B a y h;go_wp2_with fail;exact ar (v:=aj #[O Z,S ⟨#[]⟩,I J 0]) (by simp[au,dj,go_sem,T,r1,r2]) rfl ⟨by rw[<-m.o];rfl,C.o⟩
      .obtain⟨n,hn⟩:∃n,u.size=n+1:=⟨u.size-1,by omega⟩;have p1:¬(u.size:Int)=0:=by omega
       have p2:(0:Int)<(u.size:Int):=by omega
       have p0:((u.size:Int)==0)=Z:=by simpa using p1
       have p3:J.wrap ((u.size:Int)-1)=(n:Int):=by rw[av];omega
       have p5:(n:Int)<(u.size:Int):=by omega
       have i:n<u.size:=by omega
       have p6:¬(((u[n]'i).toNat:Nat):Int)=48:=λW=>a ⟨n,hn,by omega⟩
       have p7:((((u[n]'i).toNat:Nat):Int)==48)=Z:=by simpa using p6
       have d:u.data.toList≠ []:=λW=>by rw[W]at z;simp at z;omega
       rw[if_neg d]at m;have h0:=aA (o:=0) c;have q:=aA (o:=1) c;have F:=aA (o:=2) c;have hf:=free_at c;have j:=aB (o:=2) (aB (o:=1) (aB (o:=0) c (O neg)) (S u)) (I J x);have T:=aA (o:=0) j;have r1:=aA (o:=1) j;have r2:=aA (o:=2) j;have C:=L (((g.setCell (p:=⟨w.heap.size+1,0,V⟩) (bk _) (O neg)).setCell (p:=⟨w.heap.size+1,1,V⟩) (bk _) (S u)).setCell (p:=⟨w.heap.size+1,2,V⟩) (bk _) (I J x));have HX2:=L B;clear d j B a y h hn;go_wp2_with fail;exact ar (v:=aj #[O neg,S u,I J x]) (by simp[au,dj,go_sem,T,r1,r2]) rfl ⟨by rw[<-m.o,<-HX2.o];rfl,C.o⟩
end Go.Proofs.YtakkmiomhackiaaGreatDoor
