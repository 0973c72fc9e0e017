/-
  The program, one part of its walk. Conditions: none.
-/
import Derived.Test.YtakkmiomhackiaaGreatDoorTd37
set_option linter.all false
set_option maxRecDepth 100000
set_option maxHeartbeats 16000000
open Go.Proofs.Tryz
open Bool renaming false->N,true->U
open Go renaming bodyPost_ret->Z,results->K
open Go.Ending renaming returned->ac
open Go.IntKind renaming i32->V,i64->J,wrap_i32->ah,wrap_i64->X
open Go.Proofs renaming intOf->E
open Go.Proofs.Tryz renaming func180->O,ntmps180->S,results157->H
open Go.Value renaming int->I,tuple->Y
open List renaming length_drop->af,length_take->ae
open Nat renaming le_refl->ag
open Or renaming inr->G
namespace Go.Proofs.YtakkmiomhackiaaGreatDoor
open Go.RowKit
theorem aBT(w:World)(c d:UInt8):Calls prog 180 #[I .u8 ((c.toNat:Nat):Int),I .u8 ((d.toNat:Nat):Int)] w λe w'=>e=ac (.bool (aH c d))/\w'=w:=by
 have P:=d.toNat_lt
 by_cases y:c.toNat=224
 .have B:((c.toNat:Nat):Int)=224:=by omega
  by_cases k:d.toNat<128
  .skip;have b:((d.toNat:Nat):Int)<128:=by omega
   have f:¬(191:Int)<((d.toNat:Nat):Int):=by omega
   have g:¬(160:Int)<=((d.toNat:Nat):Int):=by omega
   have n:¬(144:Int)<=((d.toNat:Nat):Int):=by omega
   have a:aH c d=N:=by unfold aH;rw[if_pos (by omega)]
   rw[a];go_enter O,S;go_wp2_with fail;go_ret;exact⟨rfl,rfl⟩
  .skip
   by_cases j:d.toNat<144
   .skip;have b:¬((d.toNat:Nat):Int)<128:=by omega
    have f:¬(191:Int)<((d.toNat:Nat):Int):=by omega
    have g:¬(160:Int)<=((d.toNat:Nat):Int):=by omega
    have n:¬(144:Int)<=((d.toNat:Nat):Int):=by omega
    have a:aH c d=N:=by unfold aH;rw[if_neg (by omega),if_pos (by omega)];exact decide_eq_false (by omega)
    rw[a];go_enter O,S;go_wp2_with fail;go_ret;exact⟨rfl,rfl⟩
   .skip
    by_cases l:d.toNat<160
    .skip;have b:¬((d.toNat:Nat):Int)<128:=by omega
     have f:¬(191:Int)<((d.toNat:Nat):Int):=by omega
     have g:¬(160:Int)<=((d.toNat:Nat):Int):=by omega
     have h:¬((d.toNat:Nat):Int)<=143:=by omega
     have a:aH c d=N:=by unfold aH;rw[if_neg (by omega),if_pos (by omega)];exact decide_eq_false (by omega)
     rw[a];go_enter O,S;go_wp2_with fail;go_ret;exact⟨rfl,rfl⟩
    .skip
     by_cases i:d.toNat<192
     .skip;have b:¬((d.toNat:Nat):Int)<128:=by omega
      have f:¬(191:Int)<((d.toNat:Nat):Int):=by omega
      have g:(160:Int)<=((d.toNat:Nat):Int):=by omega
      have m:¬((d.toNat:Nat):Int)<=159:=by omega
      have h:¬((d.toNat:Nat):Int)<=143:=by omega
      have a:aH c d=U:=by unfold aH;rw[if_neg (by omega),if_pos (by omega)];exact decide_eq_true (by omega)
      rw[a];go_enter O,S;go_wp2_with fail;go_ret;exact⟨rfl,rfl⟩
     .skip;have b:¬((d.toNat:Nat):Int)<128:=by omega
      have f:(191:Int)<((d.toNat:Nat):Int):=by omega
      have m:¬((d.toNat:Nat):Int)<=159:=by omega
      have h:¬((d.toNat:Nat):Int)<=143:=by omega
      have a:aH c d=N:=by unfold aH;rw[if_pos (by omega)]
      rw[a];go_enter O,S;go_wp2_with fail;go_ret;exact⟨rfl,rfl⟩
 .have z:¬((c.toNat:Nat):Int)=224:=by omega
  by_cases v:c.toNat=237
  .have F:((c.toNat:Nat):Int)=237:=by omega
   by_cases k:d.toNat<128
   .skip;have b:((d.toNat:Nat):Int)<128:=by omega
    have f:¬(191:Int)<((d.toNat:Nat):Int):=by omega
    have g:¬(160:Int)<=((d.toNat:Nat):Int):=by omega
    have n:¬(144:Int)<=((d.toNat:Nat):Int):=by omega
    have a:aH c d=N:=by unfold aH;rw[if_pos (by omega)]
    rw[a];go_enter O,S;go_wp2_with fail;go_ret;exact⟨rfl,rfl⟩
   .skip
    by_cases j:d.toNat<144
    .skip;have b:¬((d.toNat:Nat):Int)<128:=by omega
     have f:¬(191:Int)<((d.toNat:Nat):Int):=by omega
     have g:¬(160:Int)<=((d.toNat:Nat):Int):=by omega
     have m:((d.toNat:Nat):Int)<=159:=by omega
     have n:¬(144:Int)<=((d.toNat:Nat):Int):=by omega
     have a:aH c d=U:=by unfold aH;rw[if_neg (by omega),if_neg (by omega),if_pos (by omega)];exact decide_eq_true (by omega)
     rw[a];go_enter O,S;go_wp2_with fail;go_ret;exact⟨rfl,rfl⟩
    .skip
     by_cases l:d.toNat<160
     .skip;have b:¬((d.toNat:Nat):Int)<128:=by omega
      have f:¬(191:Int)<((d.toNat:Nat):Int):=by omega
      have g:¬(160:Int)<=((d.toNat:Nat):Int):=by omega
      have m:((d.toNat:Nat):Int)<=159:=by omega
      have h:¬((d.toNat:Nat):Int)<=143:=by omega
      have a:aH c d=U:=by unfold aH;rw[if_neg (by omega),if_neg (by omega),if_pos (by omega)];exact decide_eq_true (by omega)
      rw[a];go_enter O,S;go_wp2_with fail;go_ret;exact⟨rfl,rfl⟩
     .skip
      by_cases i:d.toNat<192
      .skip;have b:¬((d.toNat:Nat):Int)<128:=by omega
       have f:¬(191:Int)<((d.toNat:Nat):Int):=by omega
       have m:¬((d.toNat:Nat):Int)<=159:=by omega
       have h:¬((d.toNat:Nat):Int)<=143:=by omega
       have a:aH c d=N:=by unfold aH;rw[if_neg (by omega),if_neg (by omega),if_pos (by omega)];exact decide_eq_false (by omega)
       rw[a];go_enter O,S;go_wp2_with fail;go_ret;exact⟨rfl,rfl⟩
      .skip;have b:¬((d.toNat:Nat):Int)<128:=by omega
       have f:(191:Int)<((d.toNat:Nat):Int):=by omega
       have m:¬((d.toNat:Nat):Int)<=159:=by omega
       have h:¬((d.toNat:Nat):Int)<=143:=by omega
       have a:aH c d=N:=by unfold aH;rw[if_pos (by omega)]
       rw[a];go_enter O,S;go_wp2_with fail;go_ret;exact⟨rfl,rfl⟩
  .have C:¬((c.toNat:Nat):Int)=237:=by omega
   by_cases o:c.toNat=240
   .have s:((c.toNat:Nat):Int)=240:=by omega
    by_cases k:d.toNat<128
    .skip;have b:((d.toNat:Nat):Int)<128:=by omega
     have f:¬(191:Int)<((d.toNat:Nat):Int):=by omega
     have g:¬(160:Int)<=((d.toNat:Nat):Int):=by omega
     have n:¬(144:Int)<=((d.toNat:Nat):Int):=by omega
     have a:aH c d=N:=by unfold aH;rw[if_pos (by omega)]
     rw[a];go_enter O,S;go_wp2_with fail;go_ret;exact⟨rfl,rfl⟩
    .skip
     by_cases j:d.toNat<144
     .skip;have b:¬((d.toNat:Nat):Int)<128:=by omega
      have f:¬(191:Int)<((d.toNat:Nat):Int):=by omega
      have g:¬(160:Int)<=((d.toNat:Nat):Int):=by omega
      have n:¬(144:Int)<=((d.toNat:Nat):Int):=by omega
      have a:aH c d=N:=by unfold aH;rw[if_neg (by omega),if_neg (by omega),if_neg (by omega),if_pos (by omega)];exact decide_eq_false (by omega)
      rw[a];go_enter O,S;go_wp2_with fail;go_ret;exact⟨rfl,rfl⟩
     .skip
      by_cases l:d.toNat<160
      .skip;have b:¬((d.toNat:Nat):Int)<128:=by omega
       have f:¬(191:Int)<((d.toNat:Nat):Int):=by omega
       have g:¬(160:Int)<=((d.toNat:Nat):Int):=by omega
       have n:(144:Int)<=((d.toNat:Nat):Int):=by omega
       have h:¬((d.toNat:Nat):Int)<=143:=by omega
       have a:aH c d=U:=by unfold aH;rw[if_neg (by omega),if_neg (by omega),if_neg (by omega),if_pos (by omega)];exact decide_eq_true (by omega)
       rw[a];go_enter O,S;go_wp2_with fail;go_ret;exact⟨rfl,rfl⟩
      .skip
       by_cases i:d.toNat<192
       .skip;have b:¬((d.toNat:Nat):Int)<128:=by omega
        have f:¬(191:Int)<((d.toNat:Nat):Int):=by omega
        have m:¬((d.toNat:Nat):Int)<=159:=by omega
        have n:(144:Int)<=((d.toNat:Nat):Int):=by omega
        have h:¬((d.toNat:Nat):Int)<=143:=by omega
        have a:aH c d=U:=by unfold aH;rw[if_neg (by omega),if_neg (by omega),if_neg (by omega),if_pos (by omega)];exact decide_eq_true (by omega)
        rw[a];go_enter O,S;go_wp2_with fail;go_ret;exact⟨rfl,rfl⟩
       .skip;have b:¬((d.toNat:Nat):Int)<128:=by omega
        have f:(191:Int)<((d.toNat:Nat):Int):=by omega
        have m:¬((d.toNat:Nat):Int)<=159:=by omega
        have h:¬((d.toNat:Nat):Int)<=143:=by omega
        have a:aH c d=N:=by unfold aH;rw[if_pos (by omega)]
        rw[a];go_enter O,S;go_wp2_with fail;go_ret;exact⟨rfl,rfl⟩
   .have q:¬((c.toNat:Nat):Int)=240:=by omega
    by_cases p:c.toNat=244
    .have A:((c.toNat:Nat):Int)=244:=by omega
     by_cases k:d.toNat<128
     .skip;have b:((d.toNat:Nat):Int)<128:=by omega
      have f:¬(191:Int)<((d.toNat:Nat):Int):=by omega
      have g:¬(160:Int)<=((d.toNat:Nat):Int):=by omega
      have n:¬(144:Int)<=((d.toNat:Nat):Int):=by omega
      have a:aH c d=N:=by unfold aH;rw[if_pos (by omega)]
      rw[a];go_enter O,S;go_wp2_with fail;go_ret;exact⟨rfl,rfl⟩
     .skip
      by_cases j:d.toNat<144
      .skip;have b:¬((d.toNat:Nat):Int)<128:=by omega
       have f:¬(191:Int)<((d.toNat:Nat):Int):=by omega
       have g:¬(160:Int)<=((d.toNat:Nat):Int):=by omega
       have n:¬(144:Int)<=((d.toNat:Nat):Int):=by omega
       have h:((d.toNat:Nat):Int)<=143:=by omega
       have a:aH c d=U:=by unfold aH;rw[if_neg (by omega),if_neg (by omega),if_neg (by omega),if_neg (by omega),if_pos (by omega)];exact decide_eq_true (by omega)
       rw[a];go_enter O,S;go_wp2_with fail;go_ret;exact⟨rfl,rfl⟩
      .skip
       by_cases l:d.toNat<160
       .skip;have b:¬((d.toNat:Nat):Int)<128:=by omega
        have f:¬(191:Int)<((d.toNat:Nat):Int):=by omega
        have g:¬(160:Int)<=((d.toNat:Nat):Int):=by omega
        have h:¬((d.toNat:Nat):Int)<=143:=by omega
        have a:aH c d=N:=by unfold aH;rw[if_neg (by omega),if_neg (by omega),if_neg (by omega),if_neg (by omega),if_pos (by omega)];exact decide_eq_false (by omega)
        rw[a];go_enter O,S;go_wp2_with fail;go_ret;exact⟨rfl,rfl⟩
       .skip
        by_cases i:d.toNat<192
        .skip;have b:¬((d.toNat:Nat):Int)<128:=by omega
         have f:¬(191:Int)<((d.toNat:Nat):Int):=by omega
         have m:¬((d.toNat:Nat):Int)<=159:=by omega
         have h:¬((d.toNat:Nat):Int)<=143:=by omega
         have a:aH c d=N:=by unfold aH;rw[if_neg (by omega),if_neg (by omega),if_neg (by omega),if_neg (by omega),if_pos (by omega)];exact decide_eq_false (by omega)
         rw[a];go_enter O,S;go_wp2_with fail;go_ret;exact⟨rfl,rfl⟩
        .skip;have b:¬((d.toNat:Nat):Int)<128:=by omega
         have f:(191:Int)<((d.toNat:Nat):Int):=by omega
         have m:¬((d.toNat:Nat):Int)<=159:=by omega
         have h:¬((d.toNat:Nat):Int)<=143:=by omega
         have a:aH c d=N:=by unfold aH;rw[if_pos (by omega)]
         rw[a];go_enter O,S;go_wp2_with fail;go_ret;exact⟨rfl,rfl⟩
    .have D:¬((c.toNat:Nat):Int)=244:=by omega
     have t:(((c.toNat:Nat):Int)==224)=N:=by simp;omega
     have r:(((c.toNat:Nat):Int)==237)=N:=by simp;omega
     have x:(((c.toNat:Nat):Int)==240)=N:=by simp;omega
     have u:(((c.toNat:Nat):Int)==244)=N:=by simp;omega
     by_cases k:d.toNat<128
     .skip;have b:((d.toNat:Nat):Int)<128:=by omega
      have f:¬(191:Int)<((d.toNat:Nat):Int):=by omega
      have g:¬(160:Int)<=((d.toNat:Nat):Int):=by omega
      have n:¬(144:Int)<=((d.toNat:Nat):Int):=by omega
      have a:aH c d=N:=by unfold aH;rw[if_pos (by omega)]
      rw[a];go_enter O,S;go_wp2_with fail;go_ret;exact⟨rfl,rfl⟩
     .skip
      by_cases j:d.toNat<144
      .skip;have b:¬((d.toNat:Nat):Int)<128:=by omega
       have f:¬(191:Int)<((d.toNat:Nat):Int):=by omega
       have g:¬(160:Int)<=((d.toNat:Nat):Int):=by omega
       have n:¬(144:Int)<=((d.toNat:Nat):Int):=by omega
       have a:aH c d=U:=by unfold aH;rw[if_neg (by omega),if_neg (by omega),if_neg (by omega),if_neg (by omega),if_neg (by omega)]
       rw[a];go_enter O,S;go_wp2_with fail;go_ret;exact⟨rfl,rfl⟩
      .skip
       by_cases l:d.toNat<160
       .skip;have b:¬((d.toNat:Nat):Int)<128:=by omega
        have f:¬(191:Int)<((d.toNat:Nat):Int):=by omega
        have g:¬(160:Int)<=((d.toNat:Nat):Int):=by omega
        have h:¬((d.toNat:Nat):Int)<=143:=by omega
        have a:aH c d=U:=by unfold aH;rw[if_neg (by omega),if_neg (by omega),if_neg (by omega),if_neg (by omega),if_neg (by omega)]
        rw[a];go_enter O,S;go_wp2_with fail;go_ret;exact⟨rfl,rfl⟩
       .skip
        by_cases i:d.toNat<192
        .skip;have b:¬((d.toNat:Nat):Int)<128:=by omega
         have f:¬(191:Int)<((d.toNat:Nat):Int):=by omega
         have m:¬((d.toNat:Nat):Int)<=159:=by omega
         have h:¬((d.toNat:Nat):Int)<=143:=by omega
         have a:aH c d=U:=by unfold aH;rw[if_neg (by omega),if_neg (by omega),if_neg (by omega),if_neg (by omega),if_neg (by omega)]
         rw[a];go_enter O,S;go_wp2_with fail;go_ret;exact⟨rfl,rfl⟩
        .skip;have b:¬((d.toNat:Nat):Int)<128:=by omega
         have f:(191:Int)<((d.toNat:Nat):Int):=by omega
         have m:¬((d.toNat:Nat):Int)<=159:=by omega
         have h:¬((d.toNat:Nat):Int)<=143:=by omega
         have a:aH c d=N:=by unfold aH;rw[if_pos (by omega)]
         rw[a];go_enter O,S;go_wp2_with fail;go_ret;exact⟨rfl,rfl⟩
def aBU(s:ByteArray)(i:Nat):Pc Nat->Value
 | .cut=>Y #[I V 0,I J 0,I J 31,I J s.size]
 | .bad _ a=>Y #[I V 0,I J 0,I J 30,I J ((i:Int)+(a:Int))]
 | .ok n=>Y #[I V (bK ((s.data.toList.drop i).take n)),I J n,I J 0,I J 0]
theorem aKN(c:UInt8):(aC c).wide<=4:=by(unfold aC;(repeat' split)<;>decide)
theorem aKO{f:Form}{k:Nat}{c:UInt8}(a:k≠1):f.D5 k c=(decide (128<=c.toNat)&&decide (c.toNat<=191)):=by unfold Form.D5;rw[if_neg a]
theorem aGn{c y:UInt8}(f:1<(aC c).wide)(h:(aC c).D5 1 y=U):128<=y.toNat/\y.toNat<=191:=by
 have a:=uM.1 h;rcases sM c (by omega)with⟨-,d⟩|⟨e,d,b⟩|⟨e,d,b⟩|⟨e,d,b⟩
 .omega
 .rw[b]at a;exact a
 .rw[b]at a;simp only at a;constructor
  .have:=a.1;split at this<;>omega
  .have:=a.2;split at this<;>omega
 .rw[b]at a;simp only at a;constructor
  .have:=a.1;split at this<;>omega
  .have:=a.2;split at this<;>omega
theorem aFq{s:ByteArray}{i n:Nat}(hi:i<s.size)(h:fD (s.data.toList.drop i)=.ok n):Fm ((s.data.toList.drop i).take n)/\i+n<=s.size:=by
 rw[aZ hi]at h⊢;obtain⟨c,a⟩:=mP h;refine⟨c,?_⟩;rw[<-aZ hi]at a;have b:s.data.toList.length=s.size:=by simp
 rw[ae,af,b]at a;omega
theorem aIj{l:List UInt8}(h:Fm l):1<=l.length/\l.length<=4/\∃P:Nat->Nat,P 1+(if l.length=2 then 192 else if l.length=3 then 224 else if l.length=4 then 240 else 0)=(l.getD 0 0).toNat/\
 (∀j,1<=j->j<l.length->P (j+1)+128=64*P j+(l.getD j 0).toNat)/\P l.length=bK l/\∀j,P j<=2000000:=by
 cases h with
 | one a h=>exact⟨by simp,by simp,λ_=>a.toNat,by simp,(λj g f=>by simp at f;omega),rfl,λj=>by show a.toNat<=_;omega⟩
 | two a b g f m k=>
  refine⟨by simp,by simp,λj=>if j=1 then a.toNat-192 else 64*(a.toNat-192)+(b.toNat-128),by simp;omega,λj i e=>?_,by simp[bK],λj=>by simp only;split<;>omega⟩;obtain rfl:j=1:=by simp at e;omega
  simp;omega
 | three a b c g f m k n o=>
  refine⟨by simp,by simp,λj=>if j=1 then a.toNat-224 else if j=2 then 64*(a.toNat-224)+(b.toNat-128)else 64*(64*(a.toNat-224)+(b.toNat-128))+(c.toNat-128),by simp;omega,λj i e=>?_,by simp[bK],λj=>by simp only;split;omega;split<;>omega⟩;have:j=1\/j=2:=by simp at e;omega
  rcases this with rfl|rfl<;>simp<;>omega
 | four a b c d g f m k n o p q=>
  refine⟨by simp,by simp,λj=>if j=1 then a.toNat-240 else if j=2 then 64*(a.toNat-240)+(b.toNat-128)else if j=3 then 64*(64*(a.toNat-240)+(b.toNat-128))+(c.toNat-128)else 64*(64*(64*(a.toNat-240)+(b.toNat-128))+(c.toNat-128))+(d.toNat-128),by simp;omega,λj i e=>?_,by simp[bK],λj=>by simp only;split;omega;split;omega;split<;>omega⟩;have:j=1\/j=2\/j=3:=by simp at e;omega
  rcases this with rfl|rfl|rfl<;>simp<;>omega
theorem take_at{s:ByteArray}{i k j:Nat}(a:j<k)(h:i+k<=s.size):((s.data.toList.drop i).take k).getD j 0=s[i+j]:=by
 rw[List.getD,List.getElem?_take,if_pos a,List.getElem?_drop,List.getElem?_eq_getElem (by simp;omega)];rfl
theorem aAG(w:World)(s:ByteArray)(i:Nat)(hi:i<s.size)(hs:s.size<=2147483648):Calls prog 157 #[.string s,I J i] w λe w'=>e=ac (aBU s i (fD (s.data.toList.drop i)))/\w'=w:=by
 have h1:(i:Int)<(s.size:Int):=by omega
 have B:=L (λW=>aGk W s[i]);have HS:=L (λW d=>aBT W s[i] d);obtain⟨c,h⟩:∃c,s[i]=c:=⟨_,rfl⟩;have a:s.data.toList.drop i=c::s.data.toList.drop (i+1):=by rw[aZ hi,h]
 obtain⟨n,b⟩:∃n,(aC c).wide=n:=⟨_,rfl⟩;have g:(aC s[i]).wide=n:=by rw[h];exact b
 rw[g]at B
 by_cases h0:n=0
 .subst h0
  have l:fD (s.data.toList.drop i)=.bad 90 0:=by
   rw[a];unfold fD;simp only;rw[if_pos b]
  rw[l];clear l a b g h;go_enter func157,ntmps157;go_wp2_with fail;refine(B.o _).mono ?_;rintro e w1 ⟨rfl,rfl⟩;go_wp2_with fail;exact Z (v:=Y #[I V 0,I J 0,I J 30,I J (i:Int)]) (by simp[K,H,go_sem]) rfl ⟨by simp[aBU],rfl⟩
 .have b1:¬(n:Int)=0:=by omega
  have b2:((n:Int)==0)=N:=by simpa using b1
  obtain⟨R,o⟩:∃R,fD (s.data.toList.drop i)=R:=⟨_,rfl⟩
  have l:cS (aC c) (n-1) 1 (s.data.toList.drop (i+1))=R:=by
   rw[<-o,a];unfold fD;simp only;rw[if_neg (by omega),b]
  rw[o];have h4:n<=4:=by rw[<-b];exact aKN c
  have HR:=L l;have u:=L (And.intro b (And.intro h o));clear a o l b g h;go_enter func157,ntmps157;go_wp2_with fail;refine(B.o _).mono ?_;rintro e w1 ⟨rfl,rfl⟩;go_wp2_with fail
  go_loopw [9] (λv wr=>∃k:Nat,v=I J k/\1<=k/\k<=n/\M (cS (aC c) (n-k) k (s.data.toList.drop (i+k))=R)/\w1=wr) (λv _=>n-(E v).toNat)
  case atStart=>exact⟨1,rfl,ag _,by omega,HR,rfl⟩
  case round=>
   obtain⟨k,rfl,hk1,hk2,z,rfl⟩:=hrel
   by_cases hlt:k<n
   .have hx:J.wrap ((i:Int)+(k:Int))=(i:Int)+(k:Int):=by rw[X];omega
    by_cases h:i+k<s.size
    .have D:¬(s.size:Int)<=(i:Int)+(k:Int):=by omega
     have e2:(i:Int)+(k:Int)<(s.size:Int):=by omega
     have a:=z.o;obtain⟨m,p⟩:∃m,n-k=m+1:=⟨n-k-1,by omega⟩;rw[p,aZ h,cS]at a;obtain⟨y,A⟩:∃y,s[i+k]=y:=⟨_,rfl⟩;rw[A]at a;have F:((s[i+k].toNat:Nat):Int)=((y.toNat:Nat):Int):=by rw[A]
     have Q:=y.toNat_lt
     have g:∀(e:Ending)(w':World),(aC c).D5 k y=N->e=ac (Y #[I V 0,I J 0,I J 30,I J ((i:Int)+(k:Int))])->w'=w1->e=ac (aBU s i R)/\w'=w1:=by
      intro e w' b l o;rw[b]at a;have a:Pc.bad 90 k=R:=a;exact⟨by rw[l,<-a];rfl,o⟩
     have b:(aC c).D5 k y=U->M (cS (aC c) (n-(k+1)) (k+1) (s.data.toList.drop (i+(k+1)))=R):=by
      intro l;rw[if_pos l]at a;rw[show n-(k+1)=m by omega];exact L a
     have o:=L g;have l:=L b;clear a g b p
     by_cases g:k=1
     .subst g;have e4:¬(s.size:Int)<=(i:Int)+1:=by omega
      have e6:(i:Int)+1<(s.size:Int):=by omega
      have e7:J.wrap ((i:Int)+1)=(i:Int)+1:=by rw[X];omega
      have b:aH s[i] y=(aC c).D5 1 y:=by rw[u.o.2.1];exact aDL (by rw[u.o.1];omega)
      have r:=L (HS.o w1 y);rw[b]at r;clear b A;go_wp2_with fail;refine(r.o).mono ?_;rintro e w2 ⟨rfl,rfl⟩;cases b:(aC c).D5 1 y with
      | false=>
       have t:=L (o.o · · b);clear b;go_wp2_with fail;exact Z (v:=Y #[I V 0,I J 0,I J 30,I J ((i:Int)+1)]) (by simp[K,H,go_sem]) rfl (t.o _ _ rfl rfl)
      | true=>
       have T:128<=y.toNat/\y.toNat<=191:=aGn (by rw[u.o.1];omega) b;have t1:¬((y.toNat:Nat):Int)<128:=by omega
       have t2:¬(191:Int)<((y.toNat:Nat):Int):=by omega
       have C:=l.o b;clear b T;go_wp2_with fail
       go_roundw
       case rel=>exact⟨2,rfl,by omega,by omega,C,trivial⟩
       case measure=>simp[E];omega
     .have r:¬(k:Int)=1:=by omega
      have T:((k:Int)==1)=N:=by simpa using r
      have b:=aKO (f:=aC c) (c:=y) g;clear A g
      by_cases t1:((y.toNat:Nat):Int)<128
      .have t:=L (o.o · · (by rw[b,decide_eq_false (by omega)];rfl));clear b;go_wp2_with fail;exact Z (v:=Y #[I V 0,I J 0,I J 30,I J ((i:Int)+(k:Int))]) (by simp[K,H,go_sem]) rfl (t.o _ _ rfl rfl)
      .by_cases t2:(191:Int)<((y.toNat:Nat):Int)
       .have t:=L (o.o · · (by rw[b,decide_eq_true (show 128<=y.toNat by omega),decide_eq_false (by omega)];rfl));clear b;go_wp2_with fail;exact Z (v:=Y #[I V 0,I J 0,I J 30,I J ((i:Int)+(k:Int))]) (by simp[K,H,go_sem]) rfl (t.o _ _ rfl rfl)
       .have C:=l.o (by rw[b,decide_eq_true (show 128<=y.toNat by omega),decide_eq_true (show y.toNat<=191 by omega)];rfl);clear b;go_wp2_with fail;exact⟨⟨k+1,by go_num,by omega,by omega,C,trivial⟩,by simp[E];omega⟩
    .have D:(s.size:Int)<=(i:Int)+(k:Int):=by omega
     have a:=z.o;obtain⟨m,p⟩:∃m,n-k=m+1:=⟨n-k-1,by omega⟩;rw[p,dA h]at a;have a:Pc.cut=R:=a;subst a;clear p;go_wp2_with fail;exact Z (v:=Y #[I V 0,I J 0,I J 31,I J s.size]) (by simp[K,H,go_sem]) rfl ⟨rfl,rfl⟩
   .obtain rfl:k=n:=by omega
    have l:cS (aC c) 0 k (s.data.toList.drop (i+k))=R:=by have:=z.o;rwa[Nat.sub_self]at this
    rw[cS]at l;subst l;obtain⟨o,a⟩:=aFq hi u.o.2.2;have b:((s.data.toList.drop i).take k).length=k:=by rw[ae,af,show s.data.toList.length=s.size by simp];omega
    obtain⟨m1,m2,P,h,A,C,D⟩:=aIj o;rw[b]at m1 m2 h A C;have h:P 1+(if k=2 then 192 else if k=3 then 224 else if k=4 then 240 else 0)=s[i].toNat:=by rw[h,take_at (by omega) a];rfl
    have F:=L (show ∀j q(p:q<s.size),i+j=q->1<=j->j<k->P (j+1)+128=64*P j+(s[q]'p).toNat from λj q p e h1 h2=>by subst e;rw[A j h1 h2,take_at h2 a]);have Q:=L C;have T:=L D;have r:i+k<=s.size:=a;have g1:¬(k:Int)<(k:Int):=by omega
    have t:k=1\/k=2\/k=3\/k=4:=by omega
    have c0:J.wrap ((s[i].toNat:Nat):Int)=((s[i].toNat:Nat):Int):=by rw[X];have:=s[i].toNat_lt;omega
    have hP1:P 1<=2000000:=D 1;clear z HR A C D b o
    have o:(k=1/\((s[i].toNat:Nat):Int)=(P 1:Int))\/(k=2/\J.wrap (((s[i].toNat:Nat):Int)-192)=(P 1:Int))\/(k=3/\J.wrap (((s[i].toNat:Nat):Int)-224)=(P 1:Int))\/(k=4/\J.wrap (((s[i].toNat:Nat):Int)-240)=(P 1:Int)):=by
     rcases t with b|b|b|b
     .exact .inl ⟨b,by simp[b]at h;omega⟩
     .exact G (.inl ⟨b,by simp[b]at h;rw[X];omega⟩)
     .exact G (G (.inl ⟨b,by simp[b]at h;rw[X];omega⟩))
     .exact G (G (G ⟨b,by simp[b]at h;rw[X];omega⟩))
    have z:=L r;clear h t a r m1 m2;rcases o with⟨g,a⟩|⟨g,a⟩|⟨g,a⟩|⟨g,a⟩
    all_goals
     first|have b:((k:Int)==2)=U:=by(simp;omega)|have b:((k:Int)==2)=N:=by(simp;omega)
     first|have h:((k:Int)==3)=U:=by(simp;omega)|have h:((k:Int)==3)=N:=by(simp;omega)
     first|have r:((k:Int)==4)=U:=by(simp;omega)|have r:((k:Int)==4)=N:=by(simp;omega)
     have t:=L g;clear g;go_wp2_with fail;clear b h r
     go_loopw [12,11] (λv x wr=>∃j:Nat,v=I J j/\1<=j/\j<=k/\x=I J (P j)/\w1=wr) (λv _ _=>k-(E v).toNat)
     case atStart=>exact⟨1,rfl,ag _,by omega,by first|rfl|rw[a],rfl⟩
     case round=>
      obtain⟨j,rfl,g,r,rfl,rfl⟩:=hrel;clear a;have A:=T.o j
      by_cases h:j<k
      .obtain⟨q,p⟩:∃q,i+j=q:=⟨_,rfl⟩;have a:q<s.size:=by have:=z.o;omega
       have b:=F.o j q a p g h;have b1:(j:Int)<(k:Int):=by omega
       have b2:J.wrap ((i:Int)+(j:Int))=(q:Int):=by rw[X];omega
       have b3:(q:Int)<(s.size:Int):=by omega
       have C:=(s[q]'a).toNat_lt;have b4:J.wrap ((64:Int)*(P j:Int))=(64:Int)*(P j:Int):=by rw[X];omega
       have D:J.wrap (((s[q]'a).toNat:Nat):Int)=(((s[q]'a).toNat:Nat):Int):=by rw[X];omega
       have b6:J.wrap ((64:Int)*(P j:Int)+(((s[q]'a).toNat:Nat):Int))=(64:Int)*(P j:Int)+(((s[q]'a).toNat:Nat):Int):=by rw[X];omega
       have b7:J.wrap ((64:Int)*(P j:Int)+(((s[q]'a).toNat:Nat):Int)-128)=(P (j+1):Int):=by rw[X];omega
       clear b p;go_wp2_with fail;exact⟨⟨j+1,by go_num,by omega,by omega,rfl,trivial⟩,by simp[E];omega⟩
      .obtain rfl:j=k:=by omega
       have b1:¬(j:Int)<(j:Int):=by omega
       have b2:V.wrap (P j:Int)=(P j:Int):=by rw[ah];omega
       go_wp2_with fail;exact Z (v:=Y #[I V (P j:Int),I J (j:Int),I J 0,I J 0]) (by simp[K,H,go_sem]) rfl ⟨by rw[Q.o];rfl,rfl⟩
end Go.Proofs.YtakkmiomhackiaaGreatDoor
