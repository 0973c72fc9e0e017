/-
  The program, one part of its walk. Conditions: none.
-/
import Derived.Test.YtakkmiomhackiaaGreatDoorBf02
set_option linter.all false
set_option maxRecDepth 100000
set_option maxHeartbeats 16000000
open Go.Proofs.Tryz
open Bool renaming true->N
open Go renaming Calls->S,World->O,bodyPost_ret->ac
open Go.Ending renaming returned->Y
open Go.Proofs.Tryz renaming prog->U,results170->ae
open Go.Proofs.YtakkmiomhackiaaGreatDoor.Form renaming B9->X
open Go.Value renaming int->V,tuple->Z
open Int renaming cast_ofNat_Int->G,natCast_one->H,natCast_zero->K
open List renaming foldl->W
open Option renaming some->J
open UInt8 renaming ofNat->I
namespace Go.Proofs.YtakkmiomhackiaaGreatDoor
open Go.RowKit
variable {a b c:UInt8}
def gA(h:Oo)(a b:Oo):aX h (a++b)=(aX h a).bind λd=>aX d b:=by
 unfold aX;rw[List.foldl_append];cases f:W (λa c=>a.bind λh=>aO h c) (J h) a with
 | some d=>rfl
 | none=>
  show W _ none b=none
  induction b with
  | nil=>rfl
  | cons c b e=>exact e
def cD(h:Oo)(c:UInt8)(b:Oo):aX h (c::b)=(aO h c).bind λa=>aX a b:=by
 have:=gA h [c] b;rw[List.singleton_append]at this;rw[this];rfl
def gW{n:Nat}(h:n<256):(I n).toNat=n:=by
 rw[UInt8.toNat_ofNat'];exact Nat.mod_eq_of_lt h
def xR(f:Form){i:Nat}{c:UInt8}(hi:i≠1)(b:128<=c.toNat)(a:c.toNat<=191):f.B9 i c=N:=by
 unfold X;rw[if_neg hi];simp[b,a]
def tZ(f:Form){c:UInt8}(a:f.low<=c.toNat)(b:c.toNat<=f.h):f.B9 1 c=N:=by
 unfold X;rw[if_pos rfl];simp[a,b]
def aJA(c:(aC a).a=2)(f:(aC a).low<=b.toNat)(e:b.toNat<=(aC a).h):aX [] [a,b]=J []:=by
 have d:aO [] a=J [a]:=by unfold aO;simp[c]
 have g:aO [a] b=J []:=by unfold aO;simp[c,tZ _ f e]
 rw[cD,d]
 show aX [a] [b]=_
 rw[cD,g];rfl
def aEX(d:(aC a).a=3)(j:(aC a).low<=b.toNat)(g:b.toNat<=(aC a).h)(k:128<=c.toNat)(h:c.toNat<=191):aX [] [a,b,c]=J []:=by
 have e:aO [] a=J [a]:=by unfold aO;simp[d]
 have l:aO [a] b=J [a,b]:=by unfold aO;simp[d,tZ _ j g]
 have f:aO [a,b] c=J []:=by unfold aO;simp[d,xR (aC a) (i:=2) (by decide) k h]
 rw[cD,e]
 show aX [a] [b,c]=_
 rw[cD,l]
 show aX [a,b] [c]=_
 rw[cD,f];rfl
def aHt{d:UInt8}(e:(aC a).a=4)(m:(aC a).low<=b.toNat)(j:b.toNat<=(aC a).h)(o:128<=c.toNat)(k:c.toNat<=191)(n:128<=d.toNat)(f:d.toNat<=191):aX [] [a,b,c,d]=J []:=by
 have g:aO [] a=J [a]:=by unfold aO;simp[e]
 have p:aO [a] b=J [a,b]:=by unfold aO;simp[e,tZ _ m j]
 have h:aO [a,b] c=J [a,b,c]:=by unfold aO;simp[e,xR (aC a) (i:=2) (by decide) o k]
 have l:aO [a,b,c] d=J []:=by unfold aO;simp[e,xR (aC a) (i:=3) (by decide) n f]
 rw[cD,g]
 show aX [a] [b,c,d]=_
 rw[cD,p]
 show aX [a,b] [c,d]=_
 rw[cD,h]
 show aX [a,b,c] [d]=_
 rw[cD,l];rfl
def fM(r:Nat):Prop:=r<55296\/(57344<=r/\r<=1114111)
def nJ{r:Nat}(h:fM r):aX [] (aT r)=J []:=by
 unfold aT
 by_cases g:r<128
 .rw[if_pos g];have l:(I r).toNat=r:=gW (by omega);rw[cD];have:aO [] (I r)=J []:=by unfold aO aC;rw[l];simp[g]
  rw[this];rfl
 rw[if_neg g]
 by_cases j:r<2048
 .rw[if_pos j];have d:(I (192+r/64)).toNat=192+r/64:=gW (by omega);have b:(I (128+r%64)).toNat=128+r%64:=gW (by omega)
  have a:aC (I (192+r/64))=⟨2,128,191⟩:=by
   unfold aC;rw[d,if_neg (by omega),if_neg (by omega),if_pos (by omega)]
  refine aJA (by rw[a]) ?_ ?_<;>rw[a,b]<;>simp only[]<;>omega
 rw[if_neg j]
 by_cases k:r<65536
 .rw[if_pos k];have d:(I (224+r/4096)).toNat=224+r/4096:=gW (by omega);have b:(I (128+r/64%64)).toNat=128+r/64%64:=gW (by omega);have e:(I (128+r%64)).toNat=128+r%64:=gW (by omega)
  have a:(aC (I (224+r/4096))).a=3/\(aC (I (224+r/4096))).low<=128+r/64%64/\128+r/64%64<=(aC (I (224+r/4096))).h:=by
   unfold aC;rw[d,if_neg (by omega),if_neg (by omega),if_neg (by omega)]
   by_cases c:224+r/4096=224
   .rw[if_pos c];exact⟨rfl,by simp only[];omega,by simp only[];omega⟩
   rw[if_neg c]
   by_cases f:224+r/4096=237
   .rw[if_pos f];rcases h with h|h
    .exact⟨rfl,by simp only[];omega,by simp only[];omega⟩
    .omega
   rw[if_neg f,if_pos (by omega)];exact⟨rfl,by simp only[];omega,by simp only[];omega⟩
  exact aEX a.1 (by rw[b];exact a.2.1) (by rw[b];exact a.2.2) (by rw[e];omega) (by rw[e];omega)
 rw[if_neg k];have m:r<=1114111:=by rcases h with h|h<;>omega
 have d:(I (240+r/262144)).toNat=240+r/262144:=gW (by omega);have b:(I (128+r/4096%64)).toNat=128+r/4096%64:=gW (by omega);have e:(I (128+r/64%64)).toNat=128+r/64%64:=gW (by omega);have i:(I (128+r%64)).toNat=128+r%64:=gW (by omega)
 have a:(aC (I (240+r/262144))).a=4/\(aC (I (240+r/262144))).low<=128+r/4096%64/\128+r/4096%64<=(aC (I (240+r/262144))).h:=by
  unfold aC;rw[d,if_neg (by omega),if_neg (by omega),if_neg (by omega),if_neg (by omega),if_neg (by omega),if_neg (by omega)]
  by_cases c:240+r/262144=240
  .rw[if_pos c];exact⟨rfl,by simp only[];omega,by simp only[];omega⟩
  rw[if_neg c]
  by_cases f:240+r/262144<244
  .rw[if_pos f];exact⟨rfl,by simp only[];omega,by simp only[];omega⟩
  rw[if_neg f,if_pos (by omega)];exact⟨rfl,by simp only[];omega,by simp only[];omega⟩
 exact aHt a.1 (by rw[b];exact a.2.1) (by rw[b];exact a.2.2) (by rw[e];omega) (by rw[e];omega) (by rw[i];omega) (by rw[i];omega)
def fS(r:Nat):1<=(aT r).length/\(aT r).length<=4/\(r<65536->(aT r).length<=3):=by
 unfold aT;split
 .simp
 .split
  .simp
  .split
   .simp
   .rename_i h;exact⟨by simp,by simp,λa=>absurd a h⟩
def sL{v:Nat}(h:hexOf c=J v):v<16:=by
 unfold hexOf at h;split at h
 .cases h;omega
 .split at h
  .cases h;omega
  .split at h
   .cases h;omega
   .cases h
def aB2(s:Nat)(o:Option Nat)(e:Ending):Prop:=match o with
 | some t=>e=Y (Z #[t,.bool N])
 | none=>e=Y (Z #[s,.bool false])
def aFD(s:Nat)(d:s<=8)(c:UInt8)(h:c=45\/c=46\/c=48\/c=101\/c=69\/c=43)(w:O):S U 170 #[s,V .u8 c.toNat] w λe w'=>aB2 s (aR s c) e/\w'=w:=by
 obtain⟨o,a⟩:∃o,aR s c=o:=⟨_,rfl⟩;rw[a];have b:s=0\/s=1\/s=2\/s=3\/s=4\/s=5\/s=6\/s=7\/s=8:=by omega
 rcases h with rfl|rfl|rfl|rfl|rfl|rfl<;>rcases b with rfl|rfl|rfl|rfl|rfl|rfl|rfl|rfl|rfl
 all_goals
  subst a;simp only[K,H,G,UInt8.reduceToNat];go_enter func170,ntmps170;go_wp2;exact ac (by simp[results,ae,go_sem]) rfl ⟨rfl,rfl⟩
def aIj(s:Nat)(v:s<=8)(c:UInt8)(b:c≠45)(f:c≠46)(d:c≠48)(a:c≠101)(h:c≠69)(g:c≠43)(w:O):S U 170 #[s,V .u8 c.toNat] w λe w'=>aB2 s (aR s c) e/\w'=w:=by
 obtain⟨-,q,-⟩:=aD (c:=c) (n:=45) b rfl;obtain⟨-,l,-⟩:=aD (c:=c) (n:=46) f rfl;obtain⟨-,m,-⟩:=aD (c:=c) (n:=48) d rfl;obtain⟨-,k,-⟩:=aD (c:=c) (n:=101) a rfl;obtain⟨-,r,-⟩:=aD (c:=c) (n:=69) h rfl;obtain⟨-,p,-⟩:=aD (c:=c) (n:=43) g rfl;obtain⟨o,j⟩:∃o,aR s c=o:=⟨_,rfl⟩;rw[j];have t:s=0\/s=1\/s=2\/s=3\/s=4\/s=5\/s=6\/s=7\/s=8:=by omega
 by_cases u:(48:Int)<=(c.toNat:Int)
 by_cases x:(c.toNat:Int)<=57
 all_goals
  first
  | have i:isD c=N:=by simp[isD];omega
  | have i:isD c=false:=by simp[isD];omega
  rcases t with rfl|rfl|rfl|rfl|rfl|rfl|rfl|rfl|rfl
  all_goals
   simp[aR,i,b,f,d,a,h,g]at j;subst j;clear i;simp only[K,H,G];go_enter func170,ntmps170;go_wp2;exact ac (by simp[results,ae,go_sem]) rfl ⟨rfl,rfl⟩
def tG(s:Nat)(a:s<=8)(c:UInt8)(w:O):S U 170 #[s,V .u8 c.toNat] w λe w'=>aB2 s (aR s c) e/\w'=w:=by
 by_cases h:c=45\/c=46\/c=48\/c=101\/c=69\/c=43
 .exact aFD s a c h w
 .simp only[not_or]at h;exact aIj s a c h.1 h.2.1 h.2.2.1 h.2.2.2.1 h.2.2.2.2.1 h.2.2.2.2.2 w
