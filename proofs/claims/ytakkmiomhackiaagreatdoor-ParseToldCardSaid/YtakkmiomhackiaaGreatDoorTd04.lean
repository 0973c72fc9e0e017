/-
  The program, one part of its walk. Conditions: none.
-/
import Derived.Test.YtakkmiomhackiaaGreatDoorTd03
import Derived.Deep.RegionHeld3
set_option linter.all false
set_option maxRecDepth 100000
set_option maxHeartbeats 16000000
open Go.Proofs.Tryz
open Go renaming Addr->bh,Calls->ah,World->G,bits->bc,bits_or_u64_nat->bw,bodyPost_ret->aw,cell_of_one->K,free_of_one->cw,heap_alloc_new->dh,lt_of_block->ej,maxLen->aj,results->az
open Go.BinOp renaming or->bg
open Go.Ending renaming returned->bk
open Go.IntKind renaming i64->ac,u64->I,wrap_u64->dt
open Go.Obj renaming cells->X
open Go.Proofs.Tryz renaming prog->ai,results253->ez
open Go.Proofs.YtakkmiomhackiaaGreatDoor.Lim renaming Small->ao,bitlen->dm,limbs->S,limbs_getD->ee,limbs_zero->ew,lt_of_limbs_length->cz,small_append->au,small_limbs->cr,val->W,val_append->av,val_limbs->du
open Go.Proofs.YtakkmiomhackiaaGreatDoor.Row renaming A8->ak
open Go.RowKit renaming Below->V,intOf->af
open Go.RowKit.Below renaming heap_alloc->ei,refl->E
open Go.Value renaming agg->Y,int->J,nilIface->bm,slice->O,tuple->cj
open List renaming getD->ct,getElem?_eq_getElem->cu,getElem_mem->cv,replicate->ag,take_length->dv
open Nat renaming add_assoc->dp,add_comm->ep,add_zero->cg,div_div_eq_div_mul->dw,div_eq_of_lt->eh,div_le_div_right->dx,div_le_self->dl,div_lt_of_lt_mul->em,le_refl->ae,le_trans->ar,lt_of_le_of_lt->dj,lt_of_lt_of_le->di,lt_or_ge->dy,mod_eq_of_lt->ck,mod_lt->bp,mul_add->H,mul_assoc->ba,mul_comm->bu,mul_le_mul_left->et,mul_left_comm->dq,mul_mod_mul_left->eo,mul_one->eu,mul_zero->bz,pow_add->ek,pow_le_pow_right->ev,pow_succ->bx,two_pow_add_eq_or_of_lt->co,two_pow_pos->bs,zero_le->bj
open Option renaming none->U,some->Z
namespace Go.Proofs.YtakkmiomhackiaaGreatDoor
open Go.RowKit
theorem aDk{v P b x s q t a:Nat}(h:v+P*b=2*t+a)(c:s+18446744073709551616*q=2*x+b):v+P*s+P*18446744073709551616*q=2*(t+P*x)+a:=by
 rw[ba P,dp,<-H,c,H,H,dq];omega
theorem aJv(x c:Nat)(e:x<18446744073709551616)(d:c<=1):∃s:Nat,bc bg I (I.wrap ((x:Int)*2)) (c:Int)=s/\s<18446744073709551616/\s+18446744073709551616*(x/9223372036854775808)=2*x+c:=by
 have b:I.wrap ((x:Int)*2)=((2*(x%9223372036854775808):Nat):Int):=by
  rw[dt];omega
 have a:2*(x%9223372036854775808)||| c=2*(x%9223372036854775808)+c:=(co (i:=1) (by omega) (x%9223372036854775808)).symm
 refine⟨2*(x%9223372036854775808)+c,?_,by omega,by omega⟩;rw[b,bw _ _ (by omega) (by omega),a]
theorem aFS(a:Option bh)(k c n:Nat)(b:Bool)(w:G)(a0:Wds w (O a k c) (S n))(hl:(S n).length<=4294967295):
 ah ai 275 #[Y #[O a k c],.bool b] w λe w'=>aAq w (2*n+b.toNat) e w':=by
 obtain⟨va,vc,he⟩:=ak a0;injection he with h1 q h3
 subst h1 q h3;obtain⟨i0,z0,hi0,hz0,N,P,-⟩:=m5.2;generalize f:S n=l at*;have hsm:ao l:=f▸cr n;have d:W l=n:=f▸du n;have HVL:=L d;clear f d;have hby:i0.bytes*(l.length+1)<=281474976710656:=by rw[P];omega
 obtain⟨p,d,hmo⟩:∃m:Nat,b.toNat=m/\m<=1:=⟨b.toNat,rfl,by cases b<;>decide⟩;have HMO:=L d;rw[d];clear d;cases b
 all_goals
  go_enter func275,ntmps275
  go_wp2_with (at_make;refine wpList_make_own _ rfl _ _ 379 rfl (w.heap.size+2) 30 i0 z0 1 underlying379 hi0 hz0 N _ _ _ (l.length+1) rfl rfl ?_ hby ?_ ?_ ?_)
  .omega
  .unfold aj;omega
  .simp
  intro w1 f d;obtain⟨g1,h,Q,hsz⟩:=after2 ((E _ _).grown d (ae _) (λk e=>by cases e));have hc1:=K g1;have G1:=L g1;have G2:=L h;have HO:M (Row (w.heap.size+2) 30 jX w1 (O (Z ⟨w.heap.size+1+1,0,U⟩) 0 (l.length+1)) []):=f;clear f d g1 h;go_wp2_with fail
  go_loopw [5,18,6,8] (λo i m _ wr=>∃(k t:Nat)(r:List Nat),k<=l.length/\i=J ac k/\m=J I t/\t<=1/\Row (w.heap.size+2) 30 jX wr o r/\V (w.heap.size+2) w1 wr/\r.length=k/\ao r/\
   W r+18446744073709551616^k*t=2*W (l.take k)+p) (λ_ i _ _ _=>l.length-(af i).toNat)
  case atStart=>exact⟨0,p,[],bj _,rfl,by rw[<-HMO.o];rfl,hmo,HO.o,E _ _,rfl,(λx hx=>by cases hx),by simp[W]⟩
  case round=>
   obtain⟨k,t,r,hk,rfl,rfl,R,h,j,f,T,d⟩:=hrel;have HV:=L d;have B:=L f;clear d f;have z:w.heap.size+2<=wr.heap.size:=ar hsz j.size
   by_cases u:k<l.length
   .rcases Wds.E3 a0 with⟨_,A⟩|⟨g,cap,he,F,_,_,d⟩
    .subst A;simp at u
    .injection he with h1 q h3
     subst h1 h3;have hx:l.getD k 0<18446744073709551616:=hsm _ (by rw[ct,cu u];exact cv _);have hcl:wr.cell? ⟨g,k,U⟩=Z (J I (l.getD k 0:Nat)):=(j.cell (by simp;omega)).trans ((Q.cell F).trans (d k u));clear d;have d:=gR u;generalize f:l.getD k 0=x at*;have HT:=L d;clear d f q;obtain⟨s,hor,hs2,d⟩:=aJv x t hx R;have HS:=L d;clear d;have C:V (w.heap.size+2) w1 (wr.alloc (X #[J I s] 30)):=j.alloc z _
     go_wp2_with (at_builtin;refine cQ m5 rfl _ _ rfl rfl (h.A4 _) ⟨wr.heap.size,0,U⟩ 1 s rfl ?_ rfl ?_ ?_ ?_ ?_)
     .simp
     .have:=B.o;omega
     .have:=B.o;unfold aj;omega
     .simp;omega
     intro b cap w2 f d;have q:V (w.heap.size+2) w1 w2:=C.grown d (by simp;omega) (λk hk=>(h.lt k hk).1);have D:=L f;clear f d h;go_wp2
     go_roundw
     case rel=>
      refine⟨k+1,x/9223372036854775808,r++ [s],by omega,by go_num,by go_num,by omega,D.o,q,by simp[B.o],au.2 ⟨T,λy hy=>by simp at hy;omega⟩,?_⟩;rw[HT.o,av,B.o,bx];simp only[W,bz,cg];exact aDk HV.o HS.o
     case measure=>simp[af];omega
   .have F:k=l.length:=by omega
    have A:W (r++ [t])=2*n+p:=by
     have:=HV.o;rw[F,dv,HVL.o]at this;rw[av,B.o,F]
     simpa[W]using this
    have HF:=L A;clear A F;have C:V (w.heap.size+2) w1 (wr.alloc (X #[J I t] 30)):=j.alloc z _
    go_wp2_with (at_builtin;refine cQ m5 rfl _ _ rfl rfl (h.A4 _) ⟨wr.heap.size,0,U⟩ 1 t rfl ?_ rfl ?_ ?_ ?_ ?_)
    .simp
    .have:=B.o;omega
    .have:=B.o;unfold aj;omega
    .simp;omega
    intro b cap w2 f d;have q:V (w.heap.size+2) w1 w2:=C.grown d (by simp;omega) (λk hk=>(h.lt k hk).1);have D:=L f;clear f d h;have g4:w2.heap[w.heap.size+1]?=Z (X #[O U 0 0] 381 (0,0)):=(q.block _ (by omega)).trans G2.o;have f:V w.heap.size w w2:=Q.trans (q.mono (by omega));go_wp2_with fail;refine(jK _ (r++ [t]) _ (au.2 ⟨T,λy hy=>by simp at hy;omega⟩) (D.o.I3 (bj _))).mono ?_;rintro e w3 ⟨a3,k3,c3,rfl,h,d⟩;rw[HF.o]at h;have A:=keep g4 d;have F:=K A;have hf5:=cw A;have hbf:=chain f d;have HM:=L h;clear h g4 q;go_wp2;exact aw (v:=Y #[O a3 k3 c3]) (by simp[az,results275,go_sem,F]) rfl ⟨a3,k3,c3,rfl,HM.o.D6 A (by decide) _ _,hbf.setCell (by simp) _⟩
def qH(n m:Nat):Int:=if n<m then -1 else if m<n then 1 else 0
theorem aHx{n m k:Nat}(h:n/18446744073709551616^(k+1)=m/18446744073709551616^(k+1)):
 (n/18446744073709551616^k%18446744073709551616<m/18446744073709551616^k%18446744073709551616->n<m)/\
 (m/18446744073709551616^k%18446744073709551616<n/18446744073709551616^k%18446744073709551616->m<n)/\
 (n/18446744073709551616^k%18446744073709551616=m/18446744073709551616^k%18446744073709551616->n/18446744073709551616^k=m/18446744073709551616^k):=by
 rw[bx,<-dw,<-dw]at h;have a1:m<=n->m/18446744073709551616^k<=n/18446744073709551616^k:=λh=>dx h
 have a2:n<=m->n/18446744073709551616^k<=m/18446744073709551616^k:=λh=>dx h
 generalize n/18446744073709551616^k=N at*;generalize m/18446744073709551616^k=c at*;refine⟨λb=>?_,λb=>?_,λb=>by omega⟩
 .rcases dy n m with a|a
  .exact a
  .have:=a1 a;omega
 .rcases dy m n with a|a
  .exact a
  .have:=a2 a;omega
theorem qI(a:Option bh)(k c:Nat)(n x:Nat)(i:Nat)(w:G)(h:Wds w (O a k c) (S n))(b:(i:Int)<=4294967296)(d:n/18446744073709551616^i%18446744073709551616=x):ah ai 278 #[Y #[O a k c],J ac i] w λe w'=>
 e=bk (J I (x:Int))/\V w.heap.size w w':=by
 have:=uQ a k c (S n) i w h (by omega) b;rw[Int.toNat_natCast,ee,d]at this;exact this
theorem aFf(a l:Option bh)(k k' c o n m:Nat)(w:G)(f:Wds w (O a k c) (S n))(b:Wds w (O l k' o) (S m))(hl:(S n).length<=4294967295)(hl':(S m).length<=4294967295):
 ah ai 276 #[Y #[O a k c],Y #[O l k' o]] w λe w'=>e=bk (J ac (qH n m))/\V w.heap.size w w':=by
 obtain⟨va,vc,P⟩:=ak f;injection P with Q R T
 subst Q R T;obtain⟨va',vc',P⟩:=ak b;injection P with Q R T
 subst Q R T
 have d:n/18446744073709551616^(max (S n).length (S m).length)=m/18446744073709551616^(max (S n).length (S m).length):=by
  rw[eh (cz (Nat.le_max_left _ _)),eh (cz (Nat.le_max_right _ _))]
 have HZ:=L d;clear d;have u:V w.heap.size w ((w.alloc (X #[O a (S n).length c] 381)).alloc (X #[O l (S m).length o] 381)):=((E _ _).alloc (ae _) _).alloc (by simp) _;have a1:=L f;have H':=L b;clear f b;generalize d:(S n).length=a0 at*;generalize b:(S m).length=t at*;have HL':=L b;clear d b;go_enter func276,ntmps276;go_wp2_with fail
 go_loopw [5,6,7] (λi _ _ wr=>∃(k:Nat),k<=max a0 t/\i=J ac ((k:Int)-1)/\n/18446744073709551616^k=m/18446744073709551616^k/\V w.heap.size w wr/\
  wr.heap[w.heap.size]?=Z (X #[O a a0 c] 381 (0,0))/\wr.heap[w.heap.size+1]?=Z (X #[O l t o] 381 (0,0))) (λi _ _ _=>(af i+1).toNat)
 case atStart=>exact⟨max a0 t,ae _,by simp;omega,HZ.o,u,(ei _ _ _ (by simp)).trans (dh w _),by simpa using dh (w.alloc (X #[O a a0 c] 381)) (X #[O l t o] 381)⟩
 case round=>
  obtain⟨k,hk,rfl,b,d,g1,v⟩:=hrel;have A:=K g1;have B:=K v;have HQ:=L b;clear b;have q:w.heap.size<wr.heap.size:=ej g1;have r:w.heap.size+1<wr.heap.size:=ej v;rcases Nat.eq_zero_or_pos k with rfl|hkp
  .have f:qH n m=0:=by have:=HQ.o;simp at this;subst this;simp[qH]
   have C:=L f;clear f;simp only[Int.natCast_zero]at*;go_wp2_with fail;go_ret;rw[C.o];exact⟨rfl,d⟩
  .obtain⟨j,rfl⟩:∃j,k=j+1:=⟨k-1,by omega⟩;have b:((j+1:Nat):Int)-1=(j:Int):=by omega
   rw[b];clear b;have s:(j:Int)<=4294967296:=by omega
   have HW:M (∀D,V w.heap.size w D->Wds D (O a a0 c) (S n)/\Wds D (O l t o) (S m)):=λD g=>⟨a1.o.A5 g,H'.o.A5 g⟩
   have b:=aHx HQ.o;obtain⟨x,g⟩:∃x,n/18446744073709551616^j%18446744073709551616=x:=⟨_,rfl⟩;obtain⟨y,z⟩:∃y,m/18446744073709551616^j%18446744073709551616=y:=⟨_,rfl⟩;rw[g,z]at b;have HX:=L g;have HY:=L z;have h:=L b;clear g z b;have G1:=L g1;have G2:=L v;clear g1 v u;go_wp2_with fail
   go_region_held3 (λw'=>w'.cell? ⟨w.heap.size,0,U⟩=Z (O a a0 c)/\w'.cell? ⟨w.heap.size+1,0,U⟩=Z (O l t o)) (first|exact⟨u,v⟩|exact⟨F,N⟩|go_keep)
    (first|(go_at_call 278;(with_reducible refine(qI a a0 c n x j _ (HW.o _ d.drew).1 s HX.o).mono ?_);rintro e D ⟨rfl,b⟩;have u:=(b.cell (p:=⟨w.heap.size,0,U⟩) (by simpa using q)).trans A;have v:=(b.cell (p:=⟨w.heap.size+1,0,U⟩) (by simpa using r)).trans B)|(go_at_call 278;(with_reducible refine(qI l t o m y j _ (HW.o _ (chain d.drew b)).2 s HY.o).mono ?_);rintro e z ⟨rfl,g⟩;have F:=(g.cell (p:=⟨w.heap.size,0,U⟩) (by simpa using di q b.size)).trans u;have N:=(g.cell (p:=⟨w.heap.size+1,0,U⟩) (by simpa using di r b.size)).trans v))
   have z:=chain (chain d.drew b) g;have HG1:=L (keep (keep (w1:=wr.drew) G1.o b) g);have HG2:=L (keep (keep (w1:=wr.drew) G2.o b) g);clear b g u v F N A B d;rcases Nat.lt_trichotomy x y with b|b|b
   .have f:qH n m= -1:=by unfold qH;rw[if_pos (h.o.1 b)]
    have C:=L f;clear f;go_wp2;go_ret;rw[C.o];exact⟨rfl,z⟩
   .subst b;go_wp2
    go_roundw
    case rel=>exact⟨j,by omega,rfl,h.o.2.2 rfl,z,HG1.o,HG2.o⟩
    case measure=>simp[af]
   .have f:qH n m=1:=by unfold qH;rw[if_neg (by have:=h.o.2.1 b;omega),if_pos (h.o.2.1 b)]
    have C:=L f;clear f;go_wp2;go_ret;rw[C.o];exact⟨rfl,z⟩
theorem m7(n k:Nat):n%18446744073709551616^(k+1)=n%18446744073709551616^k+18446744073709551616^k*(n/18446744073709551616^k%18446744073709551616):=Nat.mod_pow_succ
theorem aHy{v P x y s b a q t:Nat}(h:v+q=t+P*b)(c:s+y+b=x+18446744073709551616*a):(v+P*s)+(q+P*y)=(t+P*x)+P*18446744073709551616*a:=by
 have e:P*s+P*y+P*b=P*x+P*(18446744073709551616*a):=by rw[<-H,<-H,<-H,c]
 rw[ba P];omega
def aJw(w:G)(n:Nat)(e:Ending)(w':G):Prop:=∃a k c,e=bk (cj #[Y #[O a k c],bm])/\Row w.heap.size 30 jX w' (O a k c) (S n)/\V w.heap.size w w'
theorem aJx(a Q:Option bh)(k k' c R n m:Nat)(w:G)(a0:Wds w (O a k c) (S n))(h:Wds w (O Q k' R) (S m))(hl:(S n).length<=4294967295)(hl':(S m).length<=4294967295)(hnm:m<=n):
 ah ai 277 #[Y #[O a k c],Y #[O Q k' R]] w λe w'=>aJw w (n-m) e w':=by
 obtain⟨va,vc,he⟩:=ak a0;injection he with t u C
 subst t u C;obtain⟨va',vc',he⟩:=ak h;injection he with t u C
 subst t u C;have f:V w.heap.size w (((w.alloc (X #[O a (S n).length c] 381)).alloc (X #[O Q (S m).length R] 381)).alloc (X #[O U 0 0] 381)):=(((E _ _).alloc (ae _) _).alloc (by simp) _).alloc (by simp;omega) _;have d:qH n m=0\/qH n m=1:=by unfold qH;rw[if_neg (by omega)];split<;>simp
 obtain⟨z,j,hz0⟩:∃z,qH n m=z/\0<=z:=⟨_,rfl,by omega⟩;have HZ:=L j;clear j d;have j:=aFf a Q _ _ c R n m _ (a0.A5 f) (h.A5 f) hl hl';rw[HZ.o]at j;have a1:=L a0;have H':=L h;have d:=a0.E3;have HCS:=L d;clear a0 h d;have d:=cz (n:=n) (ae _);have HNB:=L d;clear d;have d:∀i,(S n).getD i 0=n/18446744073709551616^i%18446744073709551616:=ee n;have HGET:=L d;clear d;generalize h:S n=l at*;have hsm:ao l:=h▸cr n;generalize d:(S m).length=L' at*;clear h d;have HCC:=L j;clear j;go_enter func277,ntmps277;go_wp2_with fail;refine(HCC.o).mono ?_;rintro e w1 ⟨rfl,hb⟩;obtain⟨g1,d,h,D,hsz⟩:=sC hb;have q:=K g1;have G1:=L g1;have G2:=L d;have G3:=L h;clear g1 d h f;go_wp2_with fail
 go_loopw [19,6,7,8,9] (λi o b _ _ wr=>∃(k A:Nat)(r:List Nat),k<=l.length/\i=J ac k/\b=J I A/\A<=1/\Row (w.heap.size+3) 30 jX wr o r/\V (w.heap.size+3) w1 wr/\r.length=k/\ao r/\
  W r+m%18446744073709551616^k=n%18446744073709551616^k+18446744073709551616^k*A) (λi _ _ _ _ _=>l.length-(af i).toNat)
 case atStart=>exact⟨0,0,[],bj _,rfl,rfl,by omega,Row.E0 _ _ _ _,E _ _,rfl,(λx hx=>by cases hx),by simp[W];omega⟩
 case round=>
  obtain⟨k,A,r,hk,rfl,rfl,hbo,h,d,j,F,f⟩:=hrel;have HV:=L f;have HR:=L j;clear f j;have B:w.heap.size+3<=wr.heap.size:=ar hsz d.size;have q:=K ((d.block _ (by omega)).trans G1.o);have hc2:=K ((d.block _ (by omega)).trans G2.o)
  by_cases N:k<l.length
  .rcases HCS.o with⟨_,hn⟩|⟨g,cap,he,hg,_,_,f⟩
   .subst hn;simp at N
   .injection he with t u C
    subst t C;have hx:l.getD k 0<18446744073709551616:=hsm _ (by rw[ct,cu N];exact cv _);have hcl:wr.cell? ⟨g,k,U⟩=Z (J I (l.getD k 0:Nat)):=(d.cell (by simp;omega)).trans ((D.cell hg).trans (f k N));clear f;have f:=HGET.o k;generalize l.getD k 0=x at*;have HX:=L f;clear f u;obtain⟨y,T⟩:∃y,m/18446744073709551616^k%18446744073709551616=y:=⟨_,rfl⟩;have hyl:y<18446744073709551616:=T▸bp _ (by decide);have f:=qI Q L' R m y k wr.drew (H'.o.A5 (D.trans (d.mono (by omega))).drew) (by omega) T;have HWD:=L f;have HY:=L T;clear f T;obtain⟨s,b2,f,hs2,hb2,hrun⟩:=xQ x y A hx hyl hbo;have HS:=L f;clear f;go_wp2_with fail
    go_region_held3 (λw'=>w'.cell? ⟨w.heap.size,0,U⟩=Z (O (Z ⟨g,0,U⟩) l.length c)/\w'.cell? ⟨w.heap.size+1,0,U⟩=Z (O Q L' R)/\w'.cell? ⟨g,k,U⟩=Z (J I (x:Int))) (first|exact⟨f,P,hx3⟩|go_keep)
     ((go_at_call 278;(with_reducible refine(HWD.o).mono ?_);rintro e wx ⟨rfl,j⟩;have f:=(j.cell (p:=⟨w.heap.size,0,U⟩) (by simp;omega)).trans q;have P:=(j.cell (p:=⟨w.heap.size+1,0,U⟩) (by simp;omega)).trans hc2;have hx3:=(j.cell (p:=⟨g,k,U⟩) (by simp;omega)).trans hcl))
    have f:Row (w.heap.size+3) 30 jX wx _ r:=Row.A5 (w:=wr.drew) h.A9 j;have P:V (w.heap.size+3) w1 wx:=d.drew.trans (j.mono B);have hszx:w.heap.size+3<=wx.heap.size:=ar B j.size;clear h d hcl q hc2;have hb22:V (w.heap.size+3) w1 (wx.alloc (X #[J I s] 30)):=P.alloc hszx _
    go_wp2_with (at_builtin;refine cQ m5 rfl _ _ rfl rfl (f.A4 _) ⟨wx.heap.size,0,U⟩ 1 s rfl ?_ rfl ?_ ?_ ?_ ?_)
    .simp
    .have:=HR.o;omega
    .have:=HR.o;unfold aj;omega
    .simp;omega
    intro b cap w2 q j;have hb3:V (w.heap.size+3) w1 w2:=hb22.grown j (by simp;omega) (λk hk=>(f.lt k hk).1);have HR2:=L q;clear q j f;go_wp2
    go_roundw
    case rel=>
     refine⟨k+1,b2,r++ [s],by omega,by go_num,rfl,hb2,HR2.o,hb3,by simp[HR.o],au.2 ⟨F,λy T=>by simp at T;omega⟩,?_⟩;rw[m7 n k,m7 m k,<-HX.o,HY.o,av,HR.o,bx];simp only[W,bz,cg];exact aHy HV.o HS.o
    case measure=>simp[af];omega
  .have j:k=l.length:=by omega
   have f:W r=n-m:=by
    have t:=HV.o;have u:=Lim.val_lt F;have C:=HNB.o;rw[HR.o]at u;rw[j]at t u;rw[ck C,ck (by omega)]at t
    have:A=0:=by
     rcases(by omega:A=0\/A=1)with a0|a0
     .exact a0
     .subst a0;omega
    subst this;omega
   have HF:=L f;clear f j;have P:=(d.block _ (by omega)).trans G3.o;have j:V w.heap.size w wr:=D.trans (d.mono (by omega));go_wp2_with fail;refine(yU w.heap.size _ r _ F (h.I3 (by omega))).mono ?_;rintro e w3 ⟨a3,T,c3,rfl,q,f⟩;rw[HF.o]at q;have t:=keep P f;have u:=K t;have hf5:=cw t;have C:=chain j f;have HM:=L q;clear q P d h;go_wp2;exact aw (v:=cj #[Y #[O a3 T c3],bm]) (by simp[az,results277,go_sem,u]) rfl ⟨a3,T,c3,rfl,HM.o.D6 t (by decide) _ _,C.setCell (by simp;omega) _⟩
theorem oX{k:Nat}(a:k<64):(18446744073709551616:Nat)=2^(64-k)*2^k:=by
 rw[<-ek,Nat.sub_add_cancel (by omega)]
theorem or0(y:Nat)(a:y<18446744073709551616):bc bg I 0 (y:Int)=y:=by
 have:=bw 0 y (by decide) a
 simpa using this
theorem aKv{x k:Nat}(d:x<18446744073709551616)(a:k<64):bc bg I 0 ((x:Int)/2^(64-k))=((x*2^k/18446744073709551616:Nat):Int):=by
 have c:x*2^k/18446744073709551616=x/2^(64-k):=by
  rw[oX a];exact Nat.mul_div_mul_right _ _ (bs k)
 have b:((x:Int)/2^(64-k))=((x/2^(64-k):Nat):Int):=by simp
 rw[c,b,or0 _ (dj (dl _ _) d)]
theorem aHz(x k:Nat):I.wrap ((x:Int)*2^k)=((x*2^k%18446744073709551616:Nat):Int):=by
 have e:(x:Int)*2^k=((x*2^k:Nat):Int):=by simp
 rw[dt,e];generalize x*2^k=y;omega
theorem aKw{h x k:Nat}(o:h<18446744073709551616)(d:x<18446744073709551616)(b:k<64):
 bc bg I ((x:Int)/2^k) (I.wrap ((h:Int)*2^(64-k)))=(((h*18446744073709551616+x)/2^k%18446744073709551616:Nat):Int):=by
 rw[aHz];have i:((x:Int)/2^k)=((x/2^k:Nat):Int):=by simp
 have e:0<2^k:=bs k;have c:x/2^k<2^(64-k):=em (by rw[bu,<-oX b];exact d)
 have f:h*2^(64-k)%18446744073709551616=2^(64-k)*(h%2^k):=by
  rw[oX b,bu h,eo]
 have g:(h*18446744073709551616+x)/2^k=h*2^(64-k)+x/2^k:=by
  rw[oX b,<-ba,ep,Nat.add_mul_div_right _ _ e,ep]
 have j:(h*2^(64-k)+x/2^k)%18446744073709551616=2^(64-k)*(h%2^k)+x/2^k:=by
  rw[Nat.add_mod,f,ck (a:=x/2^k) (dj (dl _ _) d),ck];have m:h%2^k+1<=2^k:=bp _ e;have l:=et (2^(64-k)) m;rw[<-oX b,H,eu]at l;omega
 have n:x/2^k||| 2^(64-k)*(h%2^k)=2^(64-k)*(h%2^k)+x/2^k:=by
  rw[Nat.or_comm];exact(co c (h%2^k)).symm
 rw[i,bw _ _ (dj (dl _ _) d) (bp _ (by decide)),f,g,j,n]
theorem aHA(x k:Nat)(w:G)(f:x<18446744073709551616)(b:k<64):ah ai 274 #[Y #[J I 0,J I x],J ac k] w λe w'=>
 e=bk (Y #[J I (x*2^k/18446744073709551616:Nat),J I (x*2^k%18446744073709551616:Nat)])/\V w.heap.size w w':=by
 have a:min (k:Int) 128=k:=by omega
 have d:=L (aKv f b);have c:=L (aHz x k);go_enter func274,ntmps274;go_wp2;refine aw (v:=Y #[J I (x*2^k/18446744073709551616:Nat),J I (x*2^k%18446744073709551616:Nat)]) ?_ rfl ⟨rfl,((E _ _).alloc (ae _) _).alloc (by simp) _⟩;simp only[az,results274];rw[d.o];simp[go_sem,c.o]
theorem aBp(h x k:Nat)(w:G)(f:h<18446744073709551616)(g:x<18446744073709551616)(b:k<64):ah ai 279 #[Y #[J I h,J I x],J ac k] w λe w'=>
 (∃c:Nat,e=bk (Y #[J I c,J I ((h*18446744073709551616+x)/2^k%18446744073709551616:Nat)]))/\V w.heap.size w w':=by
 have a:min (k:Int) 128=k:=by omega
 have d:=L (aKw f g b);go_enter func279,ntmps279;go_wp2;refine aw (v:=Y #[J I (h/2^k:Nat),J I ((h*18446744073709551616+x)/2^k%18446744073709551616:Nat)]) ?_ rfl ⟨⟨_,rfl⟩,((E _ _).alloc (ae _) _).alloc (by simp) _⟩;simp only[az,results279];rw[d.o];simp[go_sem]
theorem sE(q:Nat)(r:List Nat):W (ag q 0++r)=18446744073709551616^q*W r:=by
 have b:W (ag q 0)=0:=by
  induction q with
  | zero=>rfl
  | succ q a=>simp[List.replicate_succ,W,a]
 rw[av,b,List.length_replicate,Nat.zero_add]
theorem m8(q:Nat):ao (ag q 0):=λx a=>by rw[(List.mem_replicate.1 a).2];decide
theorem aHB{x s a:Nat}(m:x<18446744073709551616)(h:s<64)(e:a<2^s):∃i hi:Nat,x*2^s/18446744073709551616=hi/\hi<2^s/\hi<18446744073709551616/\i<18446744073709551616/\
 bc bg I ((x*2^s%18446744073709551616:Nat):Int) (a:Int)=(i:Int)/\i+18446744073709551616*hi=x*2^s+a:=by
 have k:=bs s
 have l:2^s<18446744073709551616:=by
  have f:2^1<=2^(64-s):=ev (by decide) (by omega);have d:=Nat.mul_le_mul_right (2^s) f;rw[<-oX h]at d;omega
 have c:x*2^s/18446744073709551616<2^s:=em (Nat.mul_lt_mul_of_pos_right m k)
 have j:x*2^s%18446744073709551616=2^s*(x%2^(64-s)):=by
  rw[oX h,bu x,bu (2^(64-s)),eo]
 have g:x*2^s%18446744073709551616||| a=x*2^s%18446744073709551616+a:=by
  rw[j];exact(co e (x%2^(64-s))).symm
 have b:x*2^s%18446744073709551616+a<18446744073709551616:=by
  rw[j];have f:x%2^(64-s)+1<=2^(64-s):=bp _ (bs _);have d:=et (2^s) f;rw[bu (2^s) (2^(64-s)),<-oX h,H,eu]at d;omega
 refine⟨x*2^s%18446744073709551616+a,_,rfl,c,by omega,b,?_,by omega⟩;rw[bw _ _ (bp _ (by decide)) (by omega),g]
theorem aHC{v P a x b hi t D:Nat}(h:v+P*a=t*D)(c:b+18446744073709551616*hi=x*D+a):v+P*b+P*18446744073709551616*hi=(t+P*x)*D:=by
 rw[ba P,dp,<-H,c,H,Nat.add_mul,ba];omega
theorem aFg(a:Option bh)(kk c n k:Nat)(w:G)(h:Wds w (O a kk c) (S n))(hfit:dm n+k<=8192):
 ah ai 253 #[Y #[O a kk c],J ac k] w λe w'=>oH w (n*2^k) bm e w':=by
 have hmax:max (k:Int) 0=k:=by omega
 have d:V w.heap.size w ((w.alloc (X #[O a kk c] 381)).alloc (X #[O U 0 0] 381)):=((E _ _).alloc (ae _) _).alloc (by simp) _
 by_cases hn:n=0
 .subst hn;rw[ew]at h
  have f:kk=0:=by
   rcases h.E3 with⟨Q,_⟩|⟨g,cap,Q,_⟩
   .injection Q
   .injection Q
  subst f;clear h;go_enter func253,ntmps253;go_wp2;exact aw (v:=cj #[Y #[O U 0 0],bm]) (by simp[az,ez,go_sem]) rfl ⟨U,0,0,rfl,by rw[Nat.zero_mul,ew];exact Wds.E0 _,d⟩
 .obtain⟨p,hpos⟩:=Lim.bitlen_limbs hn;obtain⟨va,vc,Q⟩:=ak h;injection Q with h1 C h3
  subst h1 C h3;have hlen:(S n).length<=128:=Lim.short (k:=128) (by omega);have HLEN:=L (uH a _ c n _ (h.A5 d) (by omega));have HCS:=L h.E3;have f:W (S n)=n:=du n;have hsm:=cr n;clear h p;generalize h:S n=l at*;have HVL:=L f;clear h f;obtain⟨q,s,f,F⟩:∃q s,k=64*q+s/\s<64:=⟨k/64,k%64,by omega,by omega⟩;have hkq:(k:Int)/64=q:=by omega
  have hks:(k:Int)%64=s:=by omega
  have hk8:k<=8192:=by omega
  have hgt:¬(8192-(dm n:Int)<(k:Int)):=by omega
  have hq8:q<=128:=by omega
  have HQS:=L f;clear f;generalize f:dm n=bl at*;clear f;have hlne:((l.length:Int)==0)=false:=by rw[beq_eq_false_iff_ne];omega
  go_enter func253,ntmps253;go_wp2_with fail;refine(HLEN.o).mono ?_;rintro e w1 ⟨rfl,hb⟩;obtain⟨g1,f,hbw,hsz⟩:=after2 hb;have h:=K g1;have G1:=L g1;have G2:=L f;clear g1 f d
  go_wp2_with (at_make;refine qF (B:=w.heap.size+2) (enc:=jX) 0 aDg rfl _ _ rfl _ _ _ _ q (q+l.length+1) rfl rfl ?_ ?_ ?_ ?_ ?_ ?_ ?_)
  .simp
  .simp
  .omega
  .omega
  .unfold aj;omega
  .omega
  intro w2 f d;have hc12:=K (keep G1.o d);have G1':=L (keep G1.o d);have G2':=L (keep G2.o d);have N:=chain hbw d;have hsz2:w.heap.size+2<=w2.heap.size:=ar hsz d.size;have HR0:=L f;clear f d h;go_wp2_with fail
  go_loopw [40,6,7,9,10] (λi o m _ _ wr=>∃(j z:Nat)(r:List Nat),j<=l.length/\i=J ac j/\m=J I z/\z<2^s/\Row (w.heap.size+2) 30 jX wr o (ag q 0++r)/\V (w.heap.size+2) w2 wr/\r.length=j/\ao r/\
   W r+18446744073709551616^j*z=W (l.take j)*2^s) (λi _ _ _ _ _=>l.length-(af i).toNat)
  case atStart=>exact⟨0,0,[],bj _,rfl,rfl,bs s,by rw[List.append_nil];exact HR0.o,E _ _,rfl,(λx hx=>by cases hx),by simp[W]⟩
  case round=>
   obtain⟨j,z,r,hj,rfl,rfl,f,t,p,h,hsr,d⟩:=hrel;have HV:=L d;have HR:=L h;have HMO:=L f;clear d h f;have u:w.heap.size+2<=wr.heap.size:=ar hsz2 p.size
   by_cases A:j<l.length
   .rcases HCS.o with⟨_,hn⟩|⟨g,cap,Q,hg,_,_,d⟩
    .subst hn;simp at A
    .injection Q with h1 C h3
     subst h1 h3;have hx:l.getD j 0<18446744073709551616:=hsm _ (by rw[ct,cu A];exact cv _);have D:wr.cell? ⟨g,j,U⟩=Z (J I (l.getD j 0:Nat)):=(p.cell (by simp;omega)).trans ((N.cell hg).trans (d j A));clear d;have d:=gR A;generalize f:l.getD j 0=x at*;have HT:=L d;clear d f C;obtain⟨R,hi,h,d,-,hlo,hor,f⟩:=aHB hx F HMO.o;have HSH:=L (aHA x s wr hx F);rw[h]at HSH;generalize C:x*2^s%18446744073709551616=lo0 at*;have HS:=L f;have HH2:=L d;clear f h C d;go_wp2_with fail;refine(HSH.o).mono ?_;rintro e wx ⟨rfl,C⟩;have hbx2:V (w.heap.size+2) w2 wx:=p.trans (C.mono u);have hszx:w.heap.size+2<=wx.heap.size:=ar u C.size;have f:=((t.A5 C).A4 (X #[J I hi,J I R] 422)).A4 (X #[J I R] 30);have T:(ag q 0++r).length<=300:=by have:=HR.o;simp;omega
     have P:=t.lt;clear t p D
     go_wp2_with (at_builtin;refine cQ m5 rfl _ _ rfl rfl f ⟨wx.heap.size+1,0,U⟩ 1 R rfl ?_ rfl ?_ ?_ ?_ ?_)
     .simp
     .omega
     .unfold aj;omega
     .simp;omega
     intro b cap w3 h d;have D:V (w.heap.size+2) w2 w3:=((hbx2.alloc (by omega) (X #[J I hi,J I R] 422)).alloc (by simp;omega) (X #[J I R] 30)).grown d (by simp;omega) (λk hk=>(f.lt k hk).1)
     have hp0:w3.heap[wx.heap.size]?=Z (X #[J I hi,J I R] 422 (0,0)):=by
      rw[d.block _ (by simp;omega) (λe=>by have:=(P _ e.symm).2;have:=C.size;omega)];exact(ei _ _ _ (by simp)).trans (dh wx _)
     have hp1:w3.cell? ⟨wx.heap.size,0,U⟩=Z (J I hi):=by rw[aA hp0];rfl
     have HR2:=L h;clear h d f hp0 P;go_wp2
     go_roundw
     case rel=>
      refine⟨j+1,hi,r++ [R],by omega,by go_num,rfl,HH2.o,?_,D,by simp[HR.o],au.2 ⟨hsr,λy hy=>by simp at hy;omega⟩,?_⟩
      .exact HR2.o
      .rw[HT.o,av,HR.o,bx];simp only[W,bz,cg];exact aHC HV.o HS.o
     case measure=>simp[af];omega
   .have P:j=l.length:=by omega
    have R:z<18446744073709551616:=di HMO.o (by
     have:=ev (n:=2) (by decide) (by omega:s<=64);omega)
    have C:W (ag q 0++(r++ [z]))=n*2^k:=by
     have h1:=HV.o;rw[P,dv,HVL.o]at h1;rw[sE,av,HR.o,P];simp only[W,bz,cg];rw[h1,HQS.o,Lim.wpow,ek];exact dq _ _ _
    have HF:=L C;have T:(ag q 0++r).length<=300:=by have:=HR.o;simp;omega
    clear C P;have f:=t.A4 (X #[J I z] 30);have C:V (w.heap.size+2) w2 (wr.alloc (X #[J I z] 30)):=p.alloc u _;clear t
    go_wp2_with (at_builtin;refine cQ m5 rfl _ _ rfl rfl f ⟨wr.heap.size,0,U⟩ 1 z rfl ?_ rfl ?_ ?_ ?_ ?_)
    .simp
    .omega
    .unfold aj;omega
    .simp;omega
    intro b cap w3 h d;have D:V (w.heap.size+2) w2 w3:=C.grown d (by simp;omega) (λk hk=>(f.lt k hk).1);have HR2:=L h;clear h d f;have g4:=(D.block _ (by omega)).trans G2'.o;have f:V w.heap.size w w3:=N.trans (D.mono (by omega));go_wp2_with fail;refine(jK _ (ag q 0++(r++ [z])) _ (au.2 ⟨m8 q,au.2 ⟨hsr,λy hy=>by simp at hy;omega⟩⟩) (HR2.o.I3 (bj _))).mono ?_;rintro e w4 ⟨a3,k3,c3,rfl,h,d⟩;rw[HF.o]at h;have t:=keep g4 d;have P:=K t;have hf5:=cw t;have hbf:=chain f d;have HM:=L h;clear h g4 p;go_wp2;exact aw (v:=cj #[Y #[O a3 k3 c3],bm]) (by simp[az,ez,go_sem,P]) rfl ⟨a3,k3,c3,rfl,HM.o.D6 t (by decide) _ _,hbf.setCell (by simp) _⟩
end Go.Proofs.YtakkmiomhackiaaGreatDoor
