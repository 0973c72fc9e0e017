/-
  The program, one part of its walk. Conditions: none.
-/
import Derived.Test.YtakkmiomhackiaaGreatDoorAj02
set_option linter.all false
set_option maxRecDepth 100000
set_option maxHeartbeats 16000000
open Go.Proofs.Tryz
open Bool renaming false->U
open Go renaming Calls->R,World->Q
open Go.Proofs.Tryz renaming prog->T,results170->ar
open Nat renaming mul_le_mul_right_iff->bg,mul_mul_mul_comm->af,not_le->bh,one_mul->S
namespace Go.Proofs.YtakkmiomhackiaaGreatDoor
open Go.RowKit
open Ending renaming returned->ah
open Lim renaming bitlen->bk,bitlen_gt->bm
open Value renaming int->L
variable {X Y a b p p' q q':Nat}
def aB2(s:Nat)(o:Option Nat)(e:Ending):Prop:=match o with
 | some t=>e=ah (.tuple #[t,.bool true])
 | none=>e=ah (.tuple #[s,.bool U])
def aFD(s:Nat)(d:s<=8)(c:UInt8)(h:c=45\/c=46\/c=48\/c=101\/c=69\/c=43)(w:Q):R T 170 #[s,L .u8 c.toNat] w λe w'=>aB2 s (aR s c) e/\w'=w:=by
 obtain⟨o,a⟩:∃o,aR s c=o:=⟨_,rfl⟩;rw[a];have b:s=0\/s=1\/s=2\/s=3\/s=4\/s=5\/s=6\/s=7\/s=8:=by omega
 rcases h with rfl|rfl|rfl|rfl|rfl|rfl<;>rcases b with rfl|rfl|rfl|rfl|rfl|rfl|rfl|rfl|rfl
 all_goals
  subst a;simp only[gL,pb,od,UInt8.reduceToNat];go_enter func170,ntmps170;go_wp2;exact bb (by simp[results,ar,go_sem]) rfl ⟨rfl,rfl⟩
def aIj(s:Nat)(v:s<=8)(c:UInt8)(b:c≠45)(f:c≠46)(d:c≠48)(a:c≠101)(h:c≠69)(g:c≠43)(w:Q):R T 170 #[s,L .u8 c.toNat] w λe w'=>aB2 s (aR s c) e/\w'=w:=by
 obtain⟨-,q,-⟩:=aD (c:=c) (n:=45) b rfl;obtain⟨-,l,-⟩:=aD (c:=c) (n:=46) f rfl;obtain⟨-,m,-⟩:=aD (c:=c) (n:=48) d rfl;obtain⟨-,k,-⟩:=aD (c:=c) (n:=101) a rfl;obtain⟨-,r,-⟩:=aD (c:=c) (n:=69) h rfl;obtain⟨-,p,-⟩:=aD (c:=c) (n:=43) g rfl;obtain⟨o,j⟩:∃o,aR s c=o:=⟨_,rfl⟩;rw[j];have t:s=0\/s=1\/s=2\/s=3\/s=4\/s=5\/s=6\/s=7\/s=8:=by omega
 by_cases u:(48:Int)<=(c.toNat:Int);by_cases x:(c.toNat:Int)<=57
 all_goals
  first
  | have i:isD c=true:=by simp[isD];omega
  | have i:isD c=U:=by simp[isD];omega
  rcases t with rfl|rfl|rfl|rfl|rfl|rfl|rfl|rfl|rfl
  all_goals
   simp[aR,i,b,f,d,a,h,g]at j;subst j;clear i;simp only[gL,pb,od];go_enter func170,ntmps170;go_wp2;exact bb (by simp[results,ar,go_sem]) rfl ⟨rfl,rfl⟩
def tG(s:Nat)(a:s<=8)(c:UInt8)(w:Q):R T 170 #[s,L .u8 c.toNat] w λe w'=>aB2 s (aR s c) e/\w'=w:=by
 by_cases h:c=45\/c=46\/c=48\/c=101\/c=69\/c=43
 .exact aFD s a c h w
 .simp only[not_or]at h;exact aIj s a c h.1 h.2.1 h.2.2.1 h.2.2.2.1 h.2.2.2.2.1 h.2.2.2.2.2 w
def fN(b:Nat):Nat:=if b/4503599627370496%2048=0 then b%4503599627370496 else b%4503599627370496+4503599627370496
def nN(b:Nat):Nat:=b/4503599627370496%2048-1
def iQ(b:Nat):Nat:=fN b*2^nN b
def xS{C e m:Nat}(h:m<C):(e*C+m)/C=e/\(e*C+m)%C=m:=by
 have a:0<C:=by omega
 rw[lw,Nat.add_mul_div_right _ _ a,Nat.div_eq_of_lt h,Nat.zero_add,Nat.add_mul_mod_self_right,mt h];exact⟨rfl,rfl⟩
def aAR(h:b<9218868437227405312):iQ (b+1)=iQ b+2^nN b:=by
 unfold iQ fN nN;obtain⟨e,m,g,rfl⟩:∃e m,m<4503599627370496/\b=e*4503599627370496+m:=⟨b/4503599627370496,b%4503599627370496,mf _ (by decide),by rw[ke];exact(ox _ _).symm⟩;have l:e<2047:=by omega
 obtain⟨j,i⟩:=xS (e:=e) g;rw[j,i,mt (show e<2048 by omega)];by_cases n:m+1=4503599627370496
 .have a:=xS (C:=4503599627370496) (e:=e+1) (m:=0) (by decide);rw[show(e+1)*4503599627370496+0=e*4503599627370496+m+1 by omega]at a;obtain⟨f,d⟩:=a;rw[f,d,mt (show e+1<2048 by omega),py];by_cases c:e=0
  .subst c;rw[pz rfl];simp;omega
  .rw[py c];obtain⟨k,rfl⟩:∃k,e=k+1:=⟨e-1,by omega⟩;rw[mg,mg,jx];have:m=4503599627370495:=(by omega);subst this;omega
 .have a:=xS (C:=4503599627370496) (e:=e) (m:=m+1) (by omega);rw[<-Nat.add_assoc]at a;obtain⟨f,d⟩:=a;rw[f,d,mt (show e<2048 by omega)];by_cases c:e=0
  .subst c;simp
  .rw[py c,py c,Nat.add_right_comm,lu _ 1,S]
def aGJ(h:a<b)(f:b<=9218868437227405312):iQ a<iQ b:=by
 induction b with
 | zero=>omega
 | succ b d=>
  have g:=aAR (b:=b) (by omega);have e:0<2^nN b:=kF _;rcases mx a b with c|c
  .have:=d c (by omega);omega
  .have:a=b:=(by omega);subst this;omega
def aBF(h:a<=b)(d:b<=9218868437227405312):iQ a<=iQ b:=by
 rcases mx a b with c|c
 .exact Nat.le_of_lt (aGJ c d)
 .have:a=b:=by omega
  subst this;exact Nat.le_refl _
def aHw{N D:Nat}(g:a<=9218868437227405311)(k:b<=9218868437227405311)(i:iQ a*D<=N)(d:a=9218868437227405311\/N<iQ (a+1)*D)(j:iQ b*D<=N)(e:b=9218868437227405311\/N<iQ (b+1)*D):a=b:=by
 rcases Nat.lt_trichotomy a b with h|h|h
 .have f:=d.resolve_left (by omega);have c:iQ (a+1)*D<=iQ b*D:=ev _ (aBF (by omega) (by omega));omega
 .exact h
 .have f:=e.resolve_left (by omega);have c:iQ (b+1)*D<=iQ a*D:=ev _ (aBF (by omega) (by omega));omega
def aL2{K j:Nat}(g:K<=2045)(i:j<9007199254740992)(h:K=0\/4503599627370496<=j):iQ (K*4503599627370496+j)=j*2^K/\nN (K*4503599627370496+j)=K:=by
 unfold iQ fN nN;by_cases d:j<4503599627370496
 .have f:K=0:=h.resolve_right (by omega);subst f;obtain⟨c,b⟩:=xS (C:=4503599627370496) (e:=0) d;rw[c,b];simp
 .have a:=xS (C:=4503599627370496) (e:=K+1) (m:=j-4503599627370496) (by omega);rw[show(K+1)*4503599627370496+(j-4503599627370496)=K*4503599627370496+j by omega]at a;obtain⟨c,b⟩:=a;rw[c,b,mt (show K+1<2048 by omega),py,mg,Nat.sub_add_cancel (by omega)];exact⟨rfl,rfl⟩
def aBG(h:p+q'=p'+q):X*2^p<=Y*2^q<->X*2^p'<=Y*2^q':=by
 have a:X*2^p<=Y*2^q<->X*2^p*2^q'<=Y*2^q*2^q':=(bg (kF _)).symm;have b:X*2^p'<=Y*2^q'<->X*2^p'*2^q<=Y*2^q'*2^q:=(bg (kF _)).symm;rw[a,b,kh,kh,kh,kh,<-ld,<-ld,<-ld,<-ld,h,lw q q']
def aJD(h:p+q'=p'+q):X*2^p<Y*2^q<->X*2^p'<Y*2^q':=by
 have:=aBG (X:=Y) (Y:=X) (p:=q) (q:=p) (p':=q') (q':=p') (by omega);rw[<-bh,<-bh,this]
def aL3(h:p+q'=p'+q):X*2^p=Y*2^q<->X*2^p'=Y*2^q':=by
 have b:=aBG (X:=X) (Y:=Y) h;have a:=aBG (X:=Y) (Y:=X) (p:=q) (q:=p) (p':=q') (q':=p') (by omega);constructor
 .intro e;exact ow (b.1 (nl e)) (a.1 (nl e.symm))
 .intro e;exact ow (b.2 (nl e)) (a.2 (nl e.symm))
def gG(a b:Nat):Int:=if a<b then -1 else if a=b then 0 else 1
def xT(h:p+q'=p'+q):gG (X*2^p) (Y*2^q)=gG (X*2^p') (Y*2^q'):=by
 unfold gG;simp only[aJD h,aL3 h]
structure aLQ(num den:Nat)(bits:Nat)(half:Int):Prop where
 low:iQ bits*den<=num*2^1074
 g:num*2^1074<iQ (bits+1)*den
 half:gG (num*2^1075) ((2*fN bits+1)*2^nN bits*den)=half
def aLd{h f d:Nat}{n:Int}(g5:(a:Int)-b=n)(P:h*2^a=q*(f*2^b)+d)(hl:d<f*2^b)(hq:18014398509481984<=q):
 (kD q d n=⟨aM,1,U⟩/\(∃K i,aM<K*4503599627370496+i/\4503599627370496<=i/\i<9007199254740992/\i*2^K*f<=h*2^1074))\/
  ((kD q d n).bits<=aM/\aLQ h f (kD q d n).bits (kD q d n).a/\(0<=(kD q d n).a->(kD q d n).exact=U)):=by
 have g6:54<bk q:=bm.2 hq;obtain⟨k,hk⟩:∃k:Int,max ((bk q:Int)-53-n) (-1074)=k:=⟨_,rfl⟩;obtain⟨K,hK⟩:∃K:Nat,(k+1074).toNat=K:=⟨_,rfl⟩;obtain⟨j,hj⟩:∃j:Nat,(k+n).toNat=j+1:=⟨(k+n).toNat-1,by omega⟩;have g7:(K:Int)=k+1074:=by omega
 have g8:((j+1:Nat):Int)=k+n:=by omega
 obtain⟨i,x⟩:∃i,q/2^(j+1)=i:=⟨_,rfl⟩
 have y:i*2^(j+1)<=q/\q<(i+1)*2^(j+1):=by
  rw[<-x];exact⟨Nat.div_mul_le_self _ _,by have:=Nat.lt_div_mul_add (a:=q) (kF (j+1));rw[lu,S];exact this⟩
 have t:i<9007199254740992:=by
  rw[<-x,Nat.div_lt_iff_lt_mul (kF _)];show q<2^53*2^(j+1);rw[<-ld];exact Lim.bitlen_le.1 (by omega)
 have z:K=0\/4503599627370496<=i:=by
  by_cases N:K=0
  .exact .inl N
  .refine .inr ?_;rw[<-x,Nat.le_div_iff_mul_le (kF _)];show 2^52*2^(j+1)<=q;rw[<-ld];exact bm.1 (by omega)
 have g4:(j+1)+b+1074=K+a:=by omega
 have hD:0<f*2^b:=by omega
 have u:=(show ∀e,e=1074->i*2^K*f<=h*2^e from λe he=>by
  have p:i*2^(j+1)*(f*2^b)<=h*2^a:=by
   rw[P];exact Nat.le_trans (ev _ y.1) (Nat.le_add_right _ _)
  rw[af,<-ld]at p;rw[nw];exact(aBG (by omega)).1 p) 1074 rfl
 have o:=(show ∀e,e=1074->h*2^e<(i+1)*2^K*f from λe he=>by
  have p:h*2^a<(i+1)*2^(j+1)*(f*2^b):=by
   rw[P];have:(q+1)*(f*2^b)<=(i+1)*2^(j+1)*(f*2^b):=ev _ y.2;rw[lu,S]at this;omega
  rw[af,<-ld]at p;rw[nw];exact(aJD (by omega)).1 p) 1074 rfl
 have l:kD q d n=if aM<K*4503599627370496+i then⟨aM,1,U⟩else⟨K*4503599627370496+i,if q/2^j%2=1 then(if q%2^j≠0\/d≠0 then 1 else 0)else -1, !(decide (q%2^(j+1)≠0)||decide (d≠0))⟩:=by
  unfold kD;simp only[hk,hK,hj,x,mg]
 by_cases g:aM<K*4503599627370496+i
 .rw[pz g]at l;refine .inl ⟨l,K,i,g,z.resolve_left (λm=>?_),t,u⟩;subst m;unfold aM at g;omega
 .rw[py g]at l;rw[l];refine .inr ⟨by simp only;omega,?_,?_⟩
  .simp only;have X:K<=2045:=(by unfold aM at g;omega);obtain⟨B,Y⟩:=aL2 X t z;refine⟨by rw[B];exact u,?_,?_⟩
   .rw[aAR (by unfold aM at g;omega),B,Y];rw[lu,S]at o;exact o
   .have f3:fN (K*4503599627370496+i)=i:=by
     unfold iQ at B;rw[Y]at B;exact Nat.eq_of_mul_eq_mul_right (kF _) B
    rw[Y,f3]
    have C:q/2^j=2*i+q/2^j%2:=by
     have:q/2^j/2=i:=(by rw[Nat.div_div_eq_div_mul,<-jx];exact x);omega
    have m:=ox q (2^j);have F:=mf q (kF j)
    have hs:=(show ∀e,e=1075->gG (h*2^e) ((2*i+1)*2^K*f)=gG (h*2^a) ((2*i+1)*f*2^(j+b))from λe he=>by
     rw[nw (2*i+1)];exact xT (by omega)) 1075 rfl
    rw[hs,show(2*i+1)*f*2^(j+b)=(2*i+1)*2^j*(f*2^b) by rw[ld,af],P];generalize f*2^b=D at hl hD;generalize 2^j=H at C m F;generalize q/H=s at C m;generalize q%H=r at m F;subst m;unfold gG;rcases Nat.mod_two_eq_zero_or_one s with N|p
    .have v:s=2*i:=by omega
     have h3:(H*s+r+1)*D<=(2*i+1)*H*D:=by
      refine ev _ ?_;rw[v,lu,S,ke H];omega
     rw[lu,S]at h3;rw[pz,py]
    .rw[pz p];have v:s=2*i+1:=(by omega);have h3:(H*s+r)*D=(2*i+1)*H*D+r*D:=(by rw[v,lu,ke H]);rw[h3,py];by_cases w:r≠0\/d≠0
     .rw[pz w,if_neg]
      have:0<r*D+d:=by
       rcases w with w|w
       .have:=Nat.mul_pos (Nat.pos_of_ne_zero w) hD;omega
       .omega
      omega
     .rw[py w,if_pos];have g3:r=0:=(by omega);subst g3;omega
  .simp only;intro m;by_cases p:q/2^j%2=1
   .have:q%2^(j+1)≠0:=by
     intro N;have v:2^(j+1)∣q:=Nat.dvd_of_mod_eq_zero N;obtain⟨c,w⟩:=v;rw[w,jx,kh,Nat.mul_div_cancel_left _ (kF j)]at p;omega
    simp[this]
   .rw[py p]at m;omega
