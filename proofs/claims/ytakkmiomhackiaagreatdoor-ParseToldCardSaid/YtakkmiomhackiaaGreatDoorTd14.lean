/-
  The program, one part of its walk. Conditions: none.
-/
import Derived.Test.YtakkmiomhackiaaGreatDoorTd08
set_option linter.all false
set_option maxRecDepth 100000
set_option maxHeartbeats 16000000
open Go.Proofs.Tryz
open Bool renaming true->S
open Go renaming Calls->V,World->U,bodyPost_ret->ae
open Go.Ending renaming returned->Z
open Go.IntKind renaming i64->O
open Go.Proofs.Tryz renaming prog->W,results170->af
open Go.Proofs.YtakkmiomhackiaaGreatDoor.Form renaming D5->Y
open Go.Value renaming int->N,tuple->K
open Int renaming cast_ofNat_Int->ac,natCast_one->G,natCast_zero->H
open List renaming foldl->X
open Option renaming some->J
open UInt8 renaming ofNat->I
namespace Go.Proofs.YtakkmiomhackiaaGreatDoor
open Go.RowKit
theorem fZ(h:List UInt8)(a b:List UInt8):aP h (a++b)=(aP h a).bind λd=>aP d b:=by
 unfold aP;rw[List.foldl_append];cases f:X (λa c=>a.bind λh=>aK h c) (J h) a with
 | some d=>rfl
 | none=>
  show X _ none b=none
  induction b with
  | nil=>rfl
  | cons c b e=>exact e
theorem cA(h:List UInt8)(c:UInt8)(b:List UInt8):aP h (c::b)=(aK h c).bind λa=>aP a b:=by
 have:=fZ h [c] b;rw[List.singleton_append]at this;rw[this];rfl
theorem gT{n:Nat}(h:n<256):(I n).toNat=n:=by
 rw[UInt8.toNat_ofNat'];exact Nat.mod_eq_of_lt h
theorem vQ(f:Form){i:Nat}{c:UInt8}(hi:i≠1)(b:128<=c.toNat)(a:c.toNat<=191):f.D5 i c=S:=by
 unfold Y;rw[if_neg hi];simp[b,a]
theorem sL(f:Form){c:UInt8}(a:f.low<=c.toNat)(b:c.toNat<=f.high):f.D5 1 c=S:=by
 unfold Y;rw[if_pos rfl];simp[a,b]
theorem aIh{a b:UInt8}(c:(aC a).wide=2)(f:(aC a).low<=b.toNat)(e:b.toNat<=(aC a).high):aP [] [a,b]=J []:=by
 have d:aK [] a=J [a]:=by unfold aK;simp[c]
 have g:aK [a] b=J []:=by unfold aK;simp[c,sL _ f e]
 rw[cA,d]
 show aP [a] [b]=_
 rw[cA,g];rfl
theorem aDJ{a b c:UInt8}(d:(aC a).wide=3)(j:(aC a).low<=b.toNat)(g:b.toNat<=(aC a).high)(k:128<=c.toNat)(h:c.toNat<=191):aP [] [a,b,c]=J []:=by
 have e:aK [] a=J [a]:=by unfold aK;simp[d]
 have l:aK [a] b=J [a,b]:=by unfold aK;simp[d,sL _ j g]
 have f:aK [a,b] c=J []:=by unfold aK;simp[d,vQ (aC a) (i:=2) (by decide) k h]
 rw[cA,e]
 show aP [a] [b,c]=_
 rw[cA,l]
 show aP [a,b] [c]=_
 rw[cA,f];rfl
theorem aGl{a b c d:UInt8}(e:(aC a).wide=4)(m:(aC a).low<=b.toNat)(j:b.toNat<=(aC a).high)(o:128<=c.toNat)(k:c.toNat<=191)(n:128<=d.toNat)(f:d.toNat<=191):aP [] [a,b,c,d]=J []:=by
 have g:aK [] a=J [a]:=by unfold aK;simp[e]
 have p:aK [a] b=J [a,b]:=by unfold aK;simp[e,sL _ m j]
 have h:aK [a,b] c=J [a,b,c]:=by unfold aK;simp[e,vQ (aC a) (i:=2) (by decide) o k]
 have l:aK [a,b,c] d=J []:=by unfold aK;simp[e,vQ (aC a) (i:=3) (by decide) n f]
 rw[cA,g]
 show aP [a] [b,c,d]=_
 rw[cA,p]
 show aP [a,b] [c,d]=_
 rw[cA,h]
 show aP [a,b,c] [d]=_
 rw[cA,l];rfl
def fK(r:Nat):Prop:=r<55296\/(57344<=r/\r<=1114111)
theorem mY{r:Nat}(h:fK r):aP [] (aS r)=J []:=by
 unfold aS
 by_cases g:r<128
 .rw[if_pos g];have l:(I r).toNat=r:=gT (by omega);rw[cA];have:aK [] (I r)=J []:=by unfold aK aC;rw[l];simp[g]
  rw[this];rfl
 rw[if_neg g]
 by_cases j:r<2048
 .rw[if_pos j];have d:(I (192+r/64)).toNat=192+r/64:=gT (by omega);have b:(I (128+r%64)).toNat=128+r%64:=gT (by omega)
  have a:aC (I (192+r/64))=⟨2,128,191⟩:=by
   unfold aC;rw[d,if_neg (by omega),if_neg (by omega),if_pos (by omega)]
  refine aIh (by rw[a]) ?_ ?_<;>rw[a,b]<;>simp only[]<;>omega
 rw[if_neg j]
 by_cases k:r<65536
 .rw[if_pos k];have d:(I (224+r/4096)).toNat=224+r/4096:=gT (by omega);have b:(I (128+r/64%64)).toNat=128+r/64%64:=gT (by omega);have e:(I (128+r%64)).toNat=128+r%64:=gT (by omega)
  have a:(aC (I (224+r/4096))).wide=3/\(aC (I (224+r/4096))).low<=128+r/64%64/\128+r/64%64<=(aC (I (224+r/4096))).high:=by
   unfold aC;rw[d,if_neg (by omega),if_neg (by omega),if_neg (by omega)]
   by_cases c:224+r/4096=224
   .rw[if_pos c];exact⟨rfl,by simp only[];omega,by simp only[];omega⟩
   rw[if_neg c]
   by_cases f:224+r/4096=237
   .rw[if_pos f];rcases h with h|h
    .exact⟨rfl,by simp only[];omega,by simp only[];omega⟩
    .omega
   rw[if_neg f,if_pos (by omega)];exact⟨rfl,by simp only[];omega,by simp only[];omega⟩
  exact aDJ a.1 (by rw[b];exact a.2.1) (by rw[b];exact a.2.2) (by rw[e];omega) (by rw[e];omega)
 rw[if_neg k];have m:r<=1114111:=by rcases h with h|h<;>omega
 have d:(I (240+r/262144)).toNat=240+r/262144:=gT (by omega);have b:(I (128+r/4096%64)).toNat=128+r/4096%64:=gT (by omega);have e:(I (128+r/64%64)).toNat=128+r/64%64:=gT (by omega);have i:(I (128+r%64)).toNat=128+r%64:=gT (by omega)
 have a:(aC (I (240+r/262144))).wide=4/\(aC (I (240+r/262144))).low<=128+r/4096%64/\128+r/4096%64<=(aC (I (240+r/262144))).high:=by
  unfold aC;rw[d,if_neg (by omega),if_neg (by omega),if_neg (by omega),if_neg (by omega),if_neg (by omega),if_neg (by omega)]
  by_cases c:240+r/262144=240
  .rw[if_pos c];exact⟨rfl,by simp only[];omega,by simp only[];omega⟩
  rw[if_neg c]
  by_cases f:240+r/262144<244
  .rw[if_pos f];exact⟨rfl,by simp only[];omega,by simp only[];omega⟩
  rw[if_neg f,if_pos (by omega)];exact⟨rfl,by simp only[];omega,by simp only[];omega⟩
 exact aGl a.1 (by rw[b];exact a.2.1) (by rw[b];exact a.2.2) (by rw[e];omega) (by rw[e];omega) (by rw[i];omega) (by rw[i];omega)
theorem fQ(r:Nat):1<=(aS r).length/\(aS r).length<=4/\(r<65536->(aS r).length<=3):=by
 unfold aS;split
 .simp
 .split
  .simp
  .split
   .simp
   .rename_i h;exact⟨by simp,by simp,λa=>absurd a h⟩
theorem rB{c:UInt8}{v:Nat}(h:hexOf c=J v):v<16:=by
 unfold hexOf at h;split at h
 .cases h;omega
 .split at h
  .cases h;omega
  .split at h
   .cases h;omega
   .cases h
def aAT(s:Nat)(o:Option Nat)(e:Ending):Prop:=match o with
 | some t=>e=Z (K #[N O (t:Int),.bool S])
 | none=>e=Z (K #[N O (s:Int),.bool false])
theorem aEn(s:Nat)(d:s<=8)(c:UInt8)(h:c=45\/c=46\/c=48\/c=101\/c=69\/c=43)(w:U):V W 170 #[N O (s:Int),N .u8 ((c.toNat:Nat):Int)] w λe w'=>aAT s (aQ s c) e/\w'=w:=by
 obtain⟨o,a⟩:∃o,aQ s c=o:=⟨_,rfl⟩;rw[a];have b:s=0\/s=1\/s=2\/s=3\/s=4\/s=5\/s=6\/s=7\/s=8:=by omega
 rcases h with rfl|rfl|rfl|rfl|rfl|rfl<;>rcases b with rfl|rfl|rfl|rfl|rfl|rfl|rfl|rfl|rfl
 all_goals
  subst a;simp only[H,G,ac,UInt8.reduceToNat];go_enter func170,ntmps170;go_wp2;exact ae (by simp[results,af,go_sem]) rfl ⟨rfl,rfl⟩
theorem aG0(s:Nat)(v:s<=8)(c:UInt8)(b:c≠45)(f:c≠46)(d:c≠48)(a:c≠101)(h:c≠69)(g:c≠43)(w:U):V W 170 #[N O (s:Int),N .u8 ((c.toNat:Nat):Int)] w λe w'=>aAT s (aQ s c) e/\w'=w:=by
 obtain⟨-,q,-⟩:=aD (c:=c) (n:=45) b rfl;obtain⟨-,l,-⟩:=aD (c:=c) (n:=46) f rfl;obtain⟨-,m,-⟩:=aD (c:=c) (n:=48) d rfl;obtain⟨-,k,-⟩:=aD (c:=c) (n:=101) a rfl;obtain⟨-,r,-⟩:=aD (c:=c) (n:=69) h rfl;obtain⟨-,p,-⟩:=aD (c:=c) (n:=43) g rfl;obtain⟨o,j⟩:∃o,aQ s c=o:=⟨_,rfl⟩;rw[j];have t:s=0\/s=1\/s=2\/s=3\/s=4\/s=5\/s=6\/s=7\/s=8:=by omega
 by_cases u:(48:Int)<=((c.toNat:Nat):Int)
 by_cases x:((c.toNat:Nat):Int)<=57
 all_goals
  first
  | have i:isD c=S:=by simp[isD];omega
  | have i:isD c=false:=by simp[isD];omega
  rcases t with rfl|rfl|rfl|rfl|rfl|rfl|rfl|rfl|rfl
  all_goals
   simp[aQ,i,b,f,d,a,h,g]at j;subst j;clear i;simp only[H,G,ac];go_enter func170,ntmps170;go_wp2;exact ae (by simp[results,af,go_sem]) rfl ⟨rfl,rfl⟩
theorem rT(s:Nat)(a:s<=8)(c:UInt8)(w:U):V W 170 #[N O (s:Int),N .u8 ((c.toNat:Nat):Int)] w λe w'=>aAT s (aQ s c) e/\w'=w:=by
 by_cases h:c=45\/c=46\/c=48\/c=101\/c=69\/c=43
 .exact aEn s a c h w
 .simp only[not_or]at h;exact aG0 s a c h.1 h.2.1 h.2.2.1 h.2.2.2.1 h.2.2.2.2.1 h.2.2.2.2.2 w
end Go.Proofs.YtakkmiomhackiaaGreatDoor
