/-
  The program, one part of its walk. Conditions: none.
-/
import Derived.Test.YtakkmiomhackiaaGreatDoorBf08
import Derived.Test.YtakkmiomhackiaaGreatDoorBf11
set_option linter.all false
set_option maxRecDepth 100000
set_option maxHeartbeats 16000000
open Go.Proofs.Tryz
open Bool renaming false->S,true->O
open Go renaming Calls->ah,Value->aj,World->G,bodyPost_ret->aw,heap_alloc_new->bw,info_parts->eh,lt_of_block->ck,maxLen->bk,results->ba
open Go.Addr renaming add_lit->dj
open Go.Ending renaming returned->ai
open Go.IntKind renaming i32->ae,i64->J,u8->Y,wrap_i32->eo,wrap_i64->ag,wrap_u8->ee
open Go.Obj renaming cells->V
open Go.Proofs renaming intOf->bh
open Go.Proofs.Tryz renaming func138->bp,func155->du,func178->dh,func180->K,ntmps138->bu,ntmps155->dv,ntmps178->di,ntmps180->H,prog->Q,results155->dw,results157->cg
open Go.Proofs.YtakkmiomhackiaaGreatDoor.Keeps renaming A0->dl,A8->av
open Go.Proofs.YtakkmiomhackiaaGreatDoor.Row renaming nil->co
open Go.Proofs.YtakkmiomhackiaaGreatDoor.Win renaming E3->bx
open Go.RowKit renaming Below->bj
open Go.RowKit.Below renaming heap_alloc->dp,refl->bc
open Go.Value renaming agg->cr,bool->ar,int->I,ownBlock->ej,pointer->ak,slice->au,string->cj,tuple->ao
open List renaming append_nil->dy,drop_drop->ei,getElem?_eq_getElem->cv,length_drop->bm,length_take->cu,mem_cons->dx,mem_cons_self->dt,merge->ek,pairwise_map->em,takeWhile_cons->ct,take_add->dq,take_succ_cons->cz
open Nat renaming le_refl->af,le_trans->dm,zero_le->bz
open Option renaming none->Z,some->U
open Or renaming inl->T,inr->ac
open Prod.mk renaming injEq->cw
open UInt8 renaming ofNat->D
open UInt8.toNat renaming inj->ep
namespace Go.Proofs.YtakkmiomhackiaaGreatDoor
open Go.RowKit
variable {B e i k n:Nat}{c:UInt8}{s:ByteArray}{W l:Oo}{P:Option Oo}{neg:Bool}{w:G}
def aCX(w:G)(c d:UInt8):ah Q 180 #[I Y c.toNat,I Y d.toNat] w λe w'=>e=ai (ar (aJ c d))/\w'=w:=by
 have N:=d.toNat_lt
 by_cases y:c.toNat=224
 .have C:(c.toNat:Int)=224:=by omega
  by_cases k:d.toNat<128
  .skip;have b:(d.toNat:Int)<128:=by omega
   have f:¬(191:Int)<(d.toNat:Int):=by omega
   have g:¬(160:Int)<=(d.toNat:Int):=by omega
   have n:¬(144:Int)<=(d.toNat:Int):=by omega
   have a:aJ c d=S:=by unfold aJ;rw[if_pos (by omega)]
   rw[a];go_enter K,H;go_wp2;go_ret;exact⟨rfl,rfl⟩
  .skip
   by_cases j:d.toNat<144
   .skip;have b:¬(d.toNat:Int)<128:=by omega
    have f:¬(191:Int)<(d.toNat:Int):=by omega
    have g:¬(160:Int)<=(d.toNat:Int):=by omega
    have n:¬(144:Int)<=(d.toNat:Int):=by omega
    have a:aJ c d=S:=by unfold aJ;rw[if_neg (by omega),if_pos (by omega)];exact decide_eq_false (by omega)
    rw[a];go_enter K,H;go_wp2;go_ret;exact⟨rfl,rfl⟩
   .skip
    by_cases l:d.toNat<160
    .skip;have b:¬(d.toNat:Int)<128:=by omega
     have f:¬(191:Int)<(d.toNat:Int):=by omega
     have g:¬(160:Int)<=(d.toNat:Int):=by omega
     have h:¬(d.toNat:Int)<=143:=by omega
     have a:aJ c d=S:=by unfold aJ;rw[if_neg (by omega),if_pos (by omega)];exact decide_eq_false (by omega)
     rw[a];go_enter K,H;go_wp2;go_ret;exact⟨rfl,rfl⟩
    .skip
     by_cases i:d.toNat<192
     .skip;have b:¬(d.toNat:Int)<128:=by omega
      have f:¬(191:Int)<(d.toNat:Int):=by omega
      have g:(160:Int)<=(d.toNat:Int):=by omega
      have m:¬(d.toNat:Int)<=159:=by omega
      have h:¬(d.toNat:Int)<=143:=by omega
      have a:aJ c d=O:=by unfold aJ;rw[if_neg (by omega),if_pos (by omega)];exact decide_eq_true (by omega)
      rw[a];go_enter K,H;go_wp2;go_ret;exact⟨rfl,rfl⟩
     .skip;have b:¬(d.toNat:Int)<128:=by omega
      have f:(191:Int)<(d.toNat:Int):=by omega
      have m:¬(d.toNat:Int)<=159:=by omega
      have h:¬(d.toNat:Int)<=143:=by omega
      have a:aJ c d=S:=by unfold aJ;rw[if_pos (by omega)]
      rw[a];go_enter K,H;go_wp2;go_ret;exact⟨rfl,rfl⟩
 .have z:¬(c.toNat:Int)=224:=by omega
  by_cases v:c.toNat=237
  .have L:(c.toNat:Int)=237:=by omega
   by_cases k:d.toNat<128
   .skip;have b:(d.toNat:Int)<128:=by omega
    have f:¬(191:Int)<(d.toNat:Int):=by omega
    have g:¬(160:Int)<=(d.toNat:Int):=by omega
    have n:¬(144:Int)<=(d.toNat:Int):=by omega
    have a:aJ c d=S:=by unfold aJ;rw[if_pos (by omega)]
    rw[a];go_enter K,H;go_wp2;go_ret;exact⟨rfl,rfl⟩
   .skip
    by_cases j:d.toNat<144
    .skip;have b:¬(d.toNat:Int)<128:=by omega
     have f:¬(191:Int)<(d.toNat:Int):=by omega
     have g:¬(160:Int)<=(d.toNat:Int):=by omega
     have m:(d.toNat:Int)<=159:=by omega
     have n:¬(144:Int)<=(d.toNat:Int):=by omega
     have a:aJ c d=O:=by unfold aJ;rw[if_neg (by omega),if_neg (by omega),if_pos (by omega)];exact decide_eq_true (by omega)
     rw[a];go_enter K,H;go_wp2;go_ret;exact⟨rfl,rfl⟩
    .skip
     by_cases l:d.toNat<160
     .skip;have b:¬(d.toNat:Int)<128:=by omega
      have f:¬(191:Int)<(d.toNat:Int):=by omega
      have g:¬(160:Int)<=(d.toNat:Int):=by omega
      have m:(d.toNat:Int)<=159:=by omega
      have h:¬(d.toNat:Int)<=143:=by omega
      have a:aJ c d=O:=by unfold aJ;rw[if_neg (by omega),if_neg (by omega),if_pos (by omega)];exact decide_eq_true (by omega)
      rw[a];go_enter K,H;go_wp2;go_ret;exact⟨rfl,rfl⟩
     .skip
      by_cases i:d.toNat<192
      .skip;have b:¬(d.toNat:Int)<128:=by omega
       have f:¬(191:Int)<(d.toNat:Int):=by omega
       have m:¬(d.toNat:Int)<=159:=by omega
       have h:¬(d.toNat:Int)<=143:=by omega
       have a:aJ c d=S:=by unfold aJ;rw[if_neg (by omega),if_neg (by omega),if_pos (by omega)];exact decide_eq_false (by omega)
       rw[a];go_enter K,H;go_wp2;go_ret;exact⟨rfl,rfl⟩
      .skip;have b:¬(d.toNat:Int)<128:=by omega
       have f:(191:Int)<(d.toNat:Int):=by omega
       have m:¬(d.toNat:Int)<=159:=by omega
       have h:¬(d.toNat:Int)<=143:=by omega
       have a:aJ c d=S:=by unfold aJ;rw[if_pos (by omega)]
       rw[a];go_enter K,H;go_wp2;go_ret;exact⟨rfl,rfl⟩
  .have E:¬(c.toNat:Int)=237:=by omega
   by_cases o:c.toNat=240
   .have s:(c.toNat:Int)=240:=by omega
    by_cases k:d.toNat<128
    .skip;have b:(d.toNat:Int)<128:=by omega
     have f:¬(191:Int)<(d.toNat:Int):=by omega
     have g:¬(160:Int)<=(d.toNat:Int):=by omega
     have n:¬(144:Int)<=(d.toNat:Int):=by omega
     have a:aJ c d=S:=by unfold aJ;rw[if_pos (by omega)]
     rw[a];go_enter K,H;go_wp2;go_ret;exact⟨rfl,rfl⟩
    .skip
     by_cases j:d.toNat<144
     .skip;have b:¬(d.toNat:Int)<128:=by omega
      have f:¬(191:Int)<(d.toNat:Int):=by omega
      have g:¬(160:Int)<=(d.toNat:Int):=by omega
      have n:¬(144:Int)<=(d.toNat:Int):=by omega
      have a:aJ c d=S:=by unfold aJ;rw[if_neg (by omega),if_neg (by omega),if_neg (by omega),if_pos (by omega)];exact decide_eq_false (by omega)
      rw[a];go_enter K,H;go_wp2;go_ret;exact⟨rfl,rfl⟩
     .skip
      by_cases l:d.toNat<160
      .skip;have b:¬(d.toNat:Int)<128:=by omega
       have f:¬(191:Int)<(d.toNat:Int):=by omega
       have g:¬(160:Int)<=(d.toNat:Int):=by omega
       have n:(144:Int)<=(d.toNat:Int):=by omega
       have h:¬(d.toNat:Int)<=143:=by omega
       have a:aJ c d=O:=by unfold aJ;rw[if_neg (by omega),if_neg (by omega),if_neg (by omega),if_pos (by omega)];exact decide_eq_true (by omega)
       rw[a];go_enter K,H;go_wp2;go_ret;exact⟨rfl,rfl⟩
      .skip
       by_cases i:d.toNat<192
       .skip;have b:¬(d.toNat:Int)<128:=by omega
        have f:¬(191:Int)<(d.toNat:Int):=by omega
        have m:¬(d.toNat:Int)<=159:=by omega
        have n:(144:Int)<=(d.toNat:Int):=by omega
        have h:¬(d.toNat:Int)<=143:=by omega
        have a:aJ c d=O:=by unfold aJ;rw[if_neg (by omega),if_neg (by omega),if_neg (by omega),if_pos (by omega)];exact decide_eq_true (by omega)
        rw[a];go_enter K,H;go_wp2;go_ret;exact⟨rfl,rfl⟩
       .skip;have b:¬(d.toNat:Int)<128:=by omega
        have f:(191:Int)<(d.toNat:Int):=by omega
        have m:¬(d.toNat:Int)<=159:=by omega
        have h:¬(d.toNat:Int)<=143:=by omega
        have a:aJ c d=S:=by unfold aJ;rw[if_pos (by omega)]
        rw[a];go_enter K,H;go_wp2;go_ret;exact⟨rfl,rfl⟩
   .have q:¬(c.toNat:Int)=240:=by omega
    by_cases p:c.toNat=244
    .have B:(c.toNat:Int)=244:=by omega
     by_cases k:d.toNat<128
     .skip;have b:(d.toNat:Int)<128:=by omega
      have f:¬(191:Int)<(d.toNat:Int):=by omega
      have g:¬(160:Int)<=(d.toNat:Int):=by omega
      have n:¬(144:Int)<=(d.toNat:Int):=by omega
      have a:aJ c d=S:=by unfold aJ;rw[if_pos (by omega)]
      rw[a];go_enter K,H;go_wp2;go_ret;exact⟨rfl,rfl⟩
     .skip
      by_cases j:d.toNat<144
      .skip;have b:¬(d.toNat:Int)<128:=by omega
       have f:¬(191:Int)<(d.toNat:Int):=by omega
       have g:¬(160:Int)<=(d.toNat:Int):=by omega
       have n:¬(144:Int)<=(d.toNat:Int):=by omega
       have h:(d.toNat:Int)<=143:=by omega
       have a:aJ c d=O:=by unfold aJ;rw[if_neg (by omega),if_neg (by omega),if_neg (by omega),if_neg (by omega),if_pos (by omega)];exact decide_eq_true (by omega)
       rw[a];go_enter K,H;go_wp2;go_ret;exact⟨rfl,rfl⟩
      .skip
       by_cases l:d.toNat<160
       .skip;have b:¬(d.toNat:Int)<128:=by omega
        have f:¬(191:Int)<(d.toNat:Int):=by omega
        have g:¬(160:Int)<=(d.toNat:Int):=by omega
        have h:¬(d.toNat:Int)<=143:=by omega
        have a:aJ c d=S:=by unfold aJ;rw[if_neg (by omega),if_neg (by omega),if_neg (by omega),if_neg (by omega),if_pos (by omega)];exact decide_eq_false (by omega)
        rw[a];go_enter K,H;go_wp2;go_ret;exact⟨rfl,rfl⟩
       .skip
        by_cases i:d.toNat<192
        .skip;have b:¬(d.toNat:Int)<128:=by omega
         have f:¬(191:Int)<(d.toNat:Int):=by omega
         have m:¬(d.toNat:Int)<=159:=by omega
         have h:¬(d.toNat:Int)<=143:=by omega
         have a:aJ c d=S:=by unfold aJ;rw[if_neg (by omega),if_neg (by omega),if_neg (by omega),if_neg (by omega),if_pos (by omega)];exact decide_eq_false (by omega)
         rw[a];go_enter K,H;go_wp2;go_ret;exact⟨rfl,rfl⟩
        .skip;have b:¬(d.toNat:Int)<128:=by omega
         have f:(191:Int)<(d.toNat:Int):=by omega
         have m:¬(d.toNat:Int)<=159:=by omega
         have h:¬(d.toNat:Int)<=143:=by omega
         have a:aJ c d=S:=by unfold aJ;rw[if_pos (by omega)]
         rw[a];go_enter K,H;go_wp2;go_ret;exact⟨rfl,rfl⟩
    .have F:¬(c.toNat:Int)=244:=by omega
     have t:((c.toNat:Int)==224)=S:=by simp;omega
     have r:((c.toNat:Int)==237)=S:=by simp;omega
     have x:((c.toNat:Int)==240)=S:=by simp;omega
     have u:((c.toNat:Int)==244)=S:=by simp;omega
     by_cases k:d.toNat<128
     .skip;have b:(d.toNat:Int)<128:=by omega
      have f:¬(191:Int)<(d.toNat:Int):=by omega
      have g:¬(160:Int)<=(d.toNat:Int):=by omega
      have n:¬(144:Int)<=(d.toNat:Int):=by omega
      have a:aJ c d=S:=by unfold aJ;rw[if_pos (by omega)]
      rw[a];go_enter K,H;go_wp2;go_ret;exact⟨rfl,rfl⟩
     .skip
      by_cases j:d.toNat<144
      .skip;have b:¬(d.toNat:Int)<128:=by omega
       have f:¬(191:Int)<(d.toNat:Int):=by omega
       have g:¬(160:Int)<=(d.toNat:Int):=by omega
       have n:¬(144:Int)<=(d.toNat:Int):=by omega
       have a:aJ c d=O:=by unfold aJ;rw[if_neg (by omega),if_neg (by omega),if_neg (by omega),if_neg (by omega),if_neg (by omega)]
       rw[a];go_enter K,H;go_wp2;go_ret;exact⟨rfl,rfl⟩
      .skip
       by_cases l:d.toNat<160
       .skip;have b:¬(d.toNat:Int)<128:=by omega
        have f:¬(191:Int)<(d.toNat:Int):=by omega
        have g:¬(160:Int)<=(d.toNat:Int):=by omega
        have h:¬(d.toNat:Int)<=143:=by omega
        have a:aJ c d=O:=by unfold aJ;rw[if_neg (by omega),if_neg (by omega),if_neg (by omega),if_neg (by omega),if_neg (by omega)]
        rw[a];go_enter K,H;go_wp2;go_ret;exact⟨rfl,rfl⟩
       .skip
        by_cases i:d.toNat<192
        .skip;have b:¬(d.toNat:Int)<128:=by omega
         have f:¬(191:Int)<(d.toNat:Int):=by omega
         have m:¬(d.toNat:Int)<=159:=by omega
         have h:¬(d.toNat:Int)<=143:=by omega
         have a:aJ c d=O:=by unfold aJ;rw[if_neg (by omega),if_neg (by omega),if_neg (by omega),if_neg (by omega),if_neg (by omega)]
         rw[a];go_enter K,H;go_wp2;go_ret;exact⟨rfl,rfl⟩
        .skip;have b:¬(d.toNat:Int)<128:=by omega
         have f:(191:Int)<(d.toNat:Int):=by omega
         have m:¬(d.toNat:Int)<=159:=by omega
         have h:¬(d.toNat:Int)<=143:=by omega
         have a:aJ c d=S:=by unfold aJ;rw[if_pos (by omega)]
         rw[a];go_enter K,H;go_wp2;go_ret;exact⟨rfl,rfl⟩
def aCY(s:ByteArray)(i:Nat):Pc Nat->aj
 | .cut=>ao #[I ae 0,I J 0,I J 31,s.size]
 | .bad _ a=>ao #[I ae 0,I J 0,I J 30,I J ((i:Int)+(a:Int))]
 | .ok n=>ao #[I ae (bM ((s.data.toList.drop i).take n)),n,I J 0,I J 0]
def aMi(c:UInt8):(aC c).a<=4:=by(unfold aC;(repeat' split)<;>decide)
def aMj{f:Form}(a:k≠1):f.B9 k c=(decide (128<=c.toNat)&&decide (c.toNat<=191)):=by unfold Form.B9;rw[if_neg a]
def aHv{y:UInt8}(f:1<(aC c).a)(h:(aC c).B9 1 y=O):128<=y.toNat/\y.toNat<=191:=by
 have a:=wL.1 h;rcases uA c (by omega)with⟨-,d⟩|⟨e,d,b⟩|⟨e,d,b⟩|⟨e,d,b⟩
 .omega
 .rw[b]at a;exact a
 .rw[b]at a;simp only at a;constructor
  .have:=a.1;split at this<;>omega
  .have:=a.2;split at this<;>omega
 .rw[b]at a;simp only at a;constructor
  .have:=a.1;split at this<;>omega
  .have:=a.2;split at this<;>omega
def aGI(hi:i<s.size)(h:eC (s.data.toList.drop i)=.ok n):Fm ((s.data.toList.drop i).take n)/\i+n<=s.size:=by
 rw[bA hi]at h⊢;obtain⟨c,a⟩:=mZ h;refine⟨c,?_⟩;rw[<-bA hi]at a;have b:s.data.toList.length=s.size:=by simp
 rw[cu,bm,b]at a;omega
def aJC(h:Fm l):1<=l.length/\l.length<=4/\∃P:Nat->Nat,P 1+(if l.length=2 then 192 else if l.length=3 then 224 else if l.length=4 then 240 else 0)=(l.getD 0 0).toNat/\
 (∀j,1<=j->j<l.length->P (j+1)+128=64*P j+(l.getD j 0).toNat)/\P l.length=bM l/\∀j,P j<=2000000:=by
 cases h with
 | one a h=>exact⟨by simp,by simp,λ_=>a.toNat,by simp,(λj g f=>by simp at f;omega),rfl,λj=>by show a.toNat<=_;omega⟩
 | two a b g f m k=>
  refine⟨by simp,by simp,λj=>if j=1 then a.toNat-192 else 64*(a.toNat-192)+(b.toNat-128),by simp;omega,λj i e=>?_,by simp[bM],λj=>by simp only;split<;>omega⟩;obtain rfl:j=1:=by simp at e;omega
  simp;omega
 | three a b c g f m k n o=>
  refine⟨by simp,by simp,λj=>if j=1 then a.toNat-224 else if j=2 then 64*(a.toNat-224)+(b.toNat-128)else 64*(64*(a.toNat-224)+(b.toNat-128))+(c.toNat-128),by simp;omega,λj i e=>?_,by simp[bM],λj=>by simp only;split;omega;split<;>omega⟩;have:j=1\/j=2:=by simp at e;omega
  rcases this with rfl|rfl<;>simp<;>omega
 | four a b c d g f m k n o p q=>
  refine⟨by simp,by simp,λj=>if j=1 then a.toNat-240 else if j=2 then 64*(a.toNat-240)+(b.toNat-128)else if j=3 then 64*(64*(a.toNat-240)+(b.toNat-128))+(c.toNat-128)else 64*(64*(64*(a.toNat-240)+(b.toNat-128))+(c.toNat-128))+(d.toNat-128),by simp;omega,λj i e=>?_,by simp[bM],λj=>by simp only;split;omega;split;omega;split<;>omega⟩;have:j=1\/j=2\/j=3:=by simp at e;omega
  rcases this with rfl|rfl|rfl<;>simp<;>omega
def take_at{j:Nat}(a:j<k)(h:i+k<=s.size):((s.data.toList.drop i).take k).getD j 0=s[i+j]:=by
 rw[List.getD,List.getElem?_take,if_pos a,List.getElem?_drop,cv (by simp;omega)];rfl
def aBE(w:G)(s:ByteArray)(i:Nat)(hi:i<s.size)(hs:s.size<=2147483648):ah Q 157 #[s,i] w λe w'=>e=ai (aCY s i (eC (s.data.toList.drop i)))/\w'=w:=by
 have h1:(i:Int)<(s.size:Int):=by omega
 have C:=A (λW=>aHs W s[i]);have HS:=A (λW d=>aCX W s[i] d);obtain⟨c,h⟩:∃c,s[i]=c:=⟨_,rfl⟩;have a:s.data.toList.drop i=c::s.data.toList.drop (i+1):=by rw[bA hi,h]
 obtain⟨n,b⟩:∃n,(aC c).a=n:=⟨_,rfl⟩;have g:(aC s[i]).a=n:=by rw[h];exact b
 rw[g]at C
 by_cases h0:n=0
 .subst h0
  have l:eC (s.data.toList.drop i)=.bad 90 0:=by
   rw[a];unfold eC;simp only;rw[if_pos b]
  rw[l];clear l a b g h;go_enter func157,ntmps157;go_wp2_with fail;refine(C.o _).mono ?_;rintro e w1 ⟨rfl,rfl⟩;go_wp2_with fail;exact aw (v:=ao #[I ae 0,I J 0,I J 30,i]) (by simp[ba,cg,go_sem]) rfl ⟨by simp[aCY],rfl⟩
 .have b1:¬(n:Int)=0:=by omega
  have b2:((n:Int)==0)=S:=by simpa using b1
  obtain⟨R,o⟩:∃R,eC (s.data.toList.drop i)=R:=⟨_,rfl⟩
  have l:cJ (aC c) (n-1) 1 (s.data.toList.drop (i+1))=R:=by
   rw[<-o,a];unfold eC;simp only;rw[if_neg (by omega),b]
  rw[o];have h4:n<=4:=by rw[<-b];exact aMi c
  have HR:=A l;have u:=A (And.intro b (And.intro h o));clear a o l b g h;go_enter func157,ntmps157;go_wp2_with fail;refine(C.o _).mono ?_;rintro e w1 ⟨rfl,rfl⟩;go_wp2
  go_loopw [9] (λv wr=>∃k:Nat,v=I J k/\1<=k/\k<=n/\M (cJ (aC c) (n-k) k (s.data.toList.drop (i+k))=R)/\w1=wr) (λv _=>n-(bh v).toNat)
  case atStart=>exact⟨1,rfl,af _,by omega,HR,rfl⟩
  case round=>
   obtain⟨k,rfl,i1,i2,z,rfl⟩:=hrel
   by_cases i3:k<n
   .have hx:J.wrap ((i:Int)+(k:Int))=(i:Int)+(k:Int):=by rw[ag];omega
    by_cases h:i+k<s.size
    .have F:¬(s.size:Int)<=(i:Int)+(k:Int):=by omega
     have e2:(i:Int)+(k:Int)<(s.size:Int):=by omega
     have a:=z.o;obtain⟨m,p⟩:∃m,n-k=m+1:=⟨n-k-1,by omega⟩;rw[p,bA h,cJ]at a;obtain⟨y,B⟩:∃y,s[i+k]=y:=⟨_,rfl⟩;rw[B]at a;have L:((s[i+k].toNat:Nat):Int)=((y.toNat:Nat):Int):=by rw[B]
     have N:=y.toNat_lt
     have g:∀(e:Ending)(w':G),(aC c).B9 k y=S->e=ai (ao #[I ae 0,I J 0,I J 30,I J ((i:Int)+(k:Int))])->w'=w1->e=ai (aCY s i R)/\w'=w1:=by
      intro e w' b l o;rw[b]at a;have a:Pc.bad 90 k=R:=a;exact⟨by rw[l,<-a];rfl,o⟩
     have b:(aC c).B9 k y=O->M (cJ (aC c) (n-(k+1)) (k+1) (s.data.toList.drop (i+(k+1)))=R):=by
      intro l;rw[if_pos l]at a;rw[show n-(k+1)=m by omega];exact A a
     have o:=A g;have l:=A b;clear a g b p
     by_cases g:k=1
     .subst g;have e4:¬(s.size:Int)<=(i:Int)+1:=by omega
      have e6:(i:Int)+1<(s.size:Int):=by omega
      have e7:J.wrap ((i:Int)+1)=(i:Int)+1:=by rw[ag];omega
      have b:aJ s[i] y=(aC c).B9 1 y:=by rw[u.o.2.1];exact aEZ (by rw[u.o.1];omega)
      have r:=A (HS.o w1 y);rw[b]at r;clear b B;go_wp2_with fail;refine(r.o).mono ?_;rintro e w2 ⟨rfl,rfl⟩;cases b:(aC c).B9 1 y with
      | false=>
       have t:=A (o.o · · b);clear b;go_wp2_with fail;exact aw (v:=ao #[I ae 0,I J 0,I J 30,I J ((i:Int)+1)]) (by simp[ba,cg,go_sem]) rfl (t.o _ _ rfl rfl)
      | true=>
       have X:128<=y.toNat/\y.toNat<=191:=aHv (by rw[u.o.1];omega) b;have t1:¬((y.toNat:Nat):Int)<128:=by omega
       have t2:¬(191:Int)<((y.toNat:Nat):Int):=by omega
       have E:=l.o b;clear b X;go_wp2
       go_roundw
       case rel=>exact⟨2,rfl,by omega,by omega,E,trivial⟩
       case measure=>simp[bh];omega
     .have r:¬(k:Int)=1:=by omega
      have X:((k:Int)==1)=S:=by simpa using r
      have b:=aMj (f:=aC c) (c:=y) g;clear B g
      by_cases t1:((y.toNat:Nat):Int)<128
      .have t:=A (o.o · · (by rw[b,decide_eq_false (by omega)];rfl));clear b;go_wp2_with fail;exact aw (v:=ao #[I ae 0,I J 0,I J 30,I J ((i:Int)+(k:Int))]) (by simp[ba,cg,go_sem]) rfl (t.o _ _ rfl rfl)
      .by_cases t2:(191:Int)<((y.toNat:Nat):Int)
       .have t:=A (o.o · · (by rw[b,decide_eq_true (show 128<=y.toNat by omega),decide_eq_false (by omega)];rfl));clear b;go_wp2_with fail;exact aw (v:=ao #[I ae 0,I J 0,I J 30,I J ((i:Int)+(k:Int))]) (by simp[ba,cg,go_sem]) rfl (t.o _ _ rfl rfl)
       .have E:=l.o (by rw[b,decide_eq_true (show 128<=y.toNat by omega),decide_eq_true (show y.toNat<=191 by omega)];rfl);clear b;go_wp2_with fail;exact⟨⟨k+1,by go_num,by omega,by omega,E,trivial⟩,by simp[bh];omega⟩
    .have F:(s.size:Int)<=(i:Int)+(k:Int):=by omega
     have a:=z.o;obtain⟨m,p⟩:∃m,n-k=m+1:=⟨n-k-1,by omega⟩;rw[p,cY h]at a;have a:Pc.cut=R:=a;subst a;clear p;go_wp2_with fail;exact aw (v:=ao #[I ae 0,I J 0,I J 31,s.size]) (by simp[ba,cg,go_sem]) rfl ⟨rfl,rfl⟩
   .obtain rfl:k=n:=by omega
    have l:cJ (aC c) 0 k (s.data.toList.drop (i+k))=R:=by have:=z.o;rwa[Nat.sub_self]at this
    rw[cJ]at l;subst l;obtain⟨o,a⟩:=aGI hi u.o.2.2;have b:((s.data.toList.drop i).take k).length=k:=by rw[cu,bm,show s.data.toList.length=s.size by simp];omega
    obtain⟨m1,m2,P,h,B,E,F⟩:=aJC o;rw[b]at m1 m2 h B E;have h:P 1+(if k=2 then 192 else if k=3 then 224 else if k=4 then 240 else 0)=s[i].toNat:=by rw[h,take_at (by omega) a];rfl
    have L:=A (show ∀j q(p:q<s.size),i+j=q->1<=j->j<k->P (j+1)+128=64*P j+(s[q]'p).toNat from λj q p e h1 h2=>by subst e;rw[B j h1 h2,take_at h2 a]);have N:=A E;have X:=A F;have r:i+k<=s.size:=a;have g1:¬(k:Int)<(k:Int):=by omega
    have t:k=1\/k=2\/k=3\/k=4:=by omega
    have c0:J.wrap ((s[i].toNat:Nat):Int)=((s[i].toNat:Nat):Int):=by rw[ag];have:=s[i].toNat_lt;omega
    have i4:P 1<=2000000:=F 1;clear z HR B E F b o
    have o:(k=1/\((s[i].toNat:Nat):Int)=(P 1:Int))\/(k=2/\J.wrap (((s[i].toNat:Nat):Int)-192)=(P 1:Int))\/(k=3/\J.wrap (((s[i].toNat:Nat):Int)-224)=(P 1:Int))\/(k=4/\J.wrap (((s[i].toNat:Nat):Int)-240)=(P 1:Int)):=by
     rcases t with b|b|b|b
     .exact T ⟨b,by simp[b]at h;omega⟩
     .exact ac (T ⟨b,by simp[b]at h;rw[ag];omega⟩)
     .exact ac (ac (T ⟨b,by simp[b]at h;rw[ag];omega⟩))
     .exact ac (ac (ac ⟨b,by simp[b]at h;rw[ag];omega⟩))
    have z:=A r;clear h t a r m1 m2;rcases o with⟨g,a⟩|⟨g,a⟩|⟨g,a⟩|⟨g,a⟩
    all_goals
     first|have b:((k:Int)==2)=O:=by(simp;omega)|have b:((k:Int)==2)=S:=by(simp;omega)
     first|have h:((k:Int)==3)=O:=by(simp;omega)|have h:((k:Int)==3)=S:=by(simp;omega)
     first|have r:((k:Int)==4)=O:=by(simp;omega)|have r:((k:Int)==4)=S:=by(simp;omega)
     have t:=A g;clear g;go_wp2_with fail;clear b h r
     go_loopw [12,11] (λv x wr=>∃j:Nat,v=I J j/\1<=j/\j<=k/\x=I J (P j)/\w1=wr) (λv _ _=>k-(bh v).toNat)
     case atStart=>exact⟨1,rfl,af _,by omega,by first|rfl|rw[a],rfl⟩
     case round=>
      obtain⟨j,rfl,g,r,rfl,rfl⟩:=hrel;clear a;have B:=X.o j
      by_cases h:j<k
      .obtain⟨q,p⟩:∃q,i+j=q:=⟨_,rfl⟩;have a:q<s.size:=by have:=z.o;omega
       have b:=L.o j q a p g h;have b1:(j:Int)<(k:Int):=by omega
       have b2:J.wrap ((i:Int)+(j:Int))=(q:Int):=by rw[ag];omega
       have b3:(q:Int)<(s.size:Int):=by omega
       have E:=(s[q]'a).toNat_lt;have b4:J.wrap ((64:Int)*(P j:Int))=(64:Int)*(P j:Int):=by rw[ag];omega
       have F:J.wrap (((s[q]'a).toNat:Nat):Int)=(((s[q]'a).toNat:Nat):Int):=by rw[ag];omega
       have b6:J.wrap ((64:Int)*(P j:Int)+(((s[q]'a).toNat:Nat):Int))=(64:Int)*(P j:Int)+(((s[q]'a).toNat:Nat):Int):=by rw[ag];omega
       have b7:J.wrap ((64:Int)*(P j:Int)+(((s[q]'a).toNat:Nat):Int)-128)=(P (j+1):Int):=by rw[ag];omega
       clear b p;go_wp2_with fail;exact⟨⟨j+1,by go_num,by omega,by omega,rfl,trivial⟩,by simp[bh];omega⟩
      .obtain rfl:j=k:=by omega
       have b1:¬(j:Int)<(j:Int):=by omega
       have b2:ae.wrap (P j:Int)=(P j:Int):=by rw[eo];omega
       go_wp2_with fail;exact aw (v:=ao #[I ae (P j:Int),j,I J 0,I J 0]) (by simp[ba,cg,go_sem]) rfl ⟨by rw[N.o];rfl,rfl⟩
def aAy(w:G)(b f pl:Nat)(r g l t n s a i c m d q o:aj)(h:w.heap[b]?=U (V #[r,g,l,t,n,s,a,i,ak f,c,m,d,q,o] 228 (0,0)))
 (j:Feeds w f pl []):
 ah Q 138 #[ak b,I Y 92] w λe w'=>rZ w b 0 #[r,g,l,.func (.func 168) #[] #[],n,s,a,i,ak f,c,m,d,q,o] e w':=by
 obtain⟨C,c1,c2,L,E,N,R,z,x,y,B,F,v,cd,P⟩:=aN h;have W:=A h;have u:=A (held_any w f pl [] j);clear h j;go_enter bp,bu;go_wp2_with fail;refine(u.o).mono ?_;rintro e w1 ⟨rfl,rfl⟩;go_wp2;go_ret;exact⟨rfl,aB W.o _,(av (λk=>k=b) w1).A3 (p:=⟨b,3,Z⟩) (T rfl) _⟩
def zE(w:G)(b f pl:Nat)(i j k l m o p q r s t u v:aj)(a:UInt8)(z:w.heap[b]?=U (V #[i,j,k,l,m,o,p,q,ak f,r,s,t,u,v] 228 (0,0)))
 (h:Feeds w f pl [])(g:a.toNat<32):
 ah Q 138 #[ak b,I Y a.toNat] w λe w'=>e=ai (I J 91)/\w'=w:=by
 obtain⟨B,c1,c2,C,E,F,L,N,P,R,W,X,cc,cd,cf⟩:=aN z;have x:=A (held_any w f pl [] h);obtain⟨n1,n2,n3⟩:=aD (c:=a) (d:=34) (n:=34) (by intro e;subst e;exact absurd g (by decide)) rfl;obtain⟨-,m2,-⟩:=aD (c:=a) (d:=92) (n:=92) (by intro e;subst e;exact absurd g (by decide)) rfl;have y:(a.toNat:Int)<32:=by omega
 clear z h g;go_enter bp,bu;go_wp2_with fail;refine(x.o).mono ?_;rintro e w1 ⟨rfl,rfl⟩;go_wp2;go_ret;exact⟨rfl,rfl⟩
def aFF(w:G)(b f C pl h:Nat)(E F v3 v4 L N P R W a d:aj)(l:Oo)(toks:List aj)(o:w.heap[b]?=U (V #[pl,E,F,v3,v4,h,L,N,ak f,a,P,R,W,d] 228 (0,0)))
 (y:Feeds w f C [])(n:Win 5 bZ w a l)(p:Win 232 id w d toks)(q:toks.length<=1000)(h1:h<=pl+1)(h2:pl<=1073741823):
 ah Q 138 #[ak b,I Y 34] w λe w'=>jQ w b d toks (bU (.str h (pl+1-h) l)) (λv=> #[pl,E,F,.func (.func 104) #[] #[],ar S,h,L,N,ak f,a,P,R,W,v]) (I J 0) e w':=by
 obtain⟨c0,c1,c2,c3,c4,c5,c6,c7,c8,c9,ca,cb,cc,cd,cf⟩:=aN o;have HF:=A (held_any w f C [] y);have a0:=A o;have HW:=A p;have HR:=A n;have c:∀w1,bj w w w1->(convert 22 9 a).run Q w1=.ok (cj ⟨l.toArray⟩) w1:=λw1 i=>fK (n.A2 (dl (λ_=>False) i) (λ_ _=>id))
 have r:=c w.drew (bc _ _).drew;have X:=A c;obtain⟨s,t⟩:∃s:ByteArray,(⟨l.toArray⟩:ByteArray)=s:=⟨_,rfl⟩;rw[t]at r X;have u:=A (rX w.drew b _ h (pl+1) o rfl (by omega) (by omega));rw[show((pl+1:Nat):Int)=(pl:Int)+1 by omega]at u;obtain⟨j,k⟩:∃j,pl+1-h=j:=⟨_,rfl⟩;rw[k]at u⊢;have HT:=A (λw'(i:bj w w w')=>rY w' b _ _ _ _ _ _ _ _ _ _ _ _ _ d 241 (cr #[h,I J (j:Int),s]) toks (keep o i) (p.A2 (dl (λ_=>False) i) (λ_ _=>id)) q);have h4:=ck o;have m:∀w1,bj w w w1->w1.cell? ⟨b,9,Z⟩=U a:=λw1 i=>aA (keep o i)
 have HD:=A m;have x:=A t;have h0:J.wrap ((pl:Int)+1)=(pl:Int)+1:=by rw[ag];omega
 clear o y n p c t k m;go_enter bp,bu;go_wp2_with fail;refine(HF.o).mono ?_;rintro e w1 ⟨rfl,rfl⟩;go_wp2
 go_region_with (first|(go_at_call 136;refine(u.o).mono ?_;rintro e w2 ⟨rfl,i⟩;have c:=(bc w1.heap.size w1).drew.trans i;have p:=HD.o w2 c;have t:=X.o w2 c)|(go_at_call 135;refine(HT.o _ c).mono ?_;rintro e w3 ⟨rfl,g,off,cap,h3,k,m,n⟩;have H3:=A h3;have y:=A k;have z:=A m;have B:=A n;clear h3 k m n))
 all_goals
  have k:=A c;clear i c p t;go_wp2;go_ret;have c:bU (.str h j l)=.iface 241 (cr #[h,I J (j:Int),s]):=by rw[<-x.o];rfl
  rw[c];exact⟨rfl,g,off,cap,H3.o,y.o,z.o.elim T (λo=>ac (dm k.o.size o)),(dl _ k.o).same B.o⟩
def aDK(w:G)(f b:Nat)(held:Oo)(a:UInt8)(g:Nat)(h:Feeds w f b held)(d:w.heap[g]?=U (V #[bZ a] 5 (0,0)))(j:b<=1073741824):
 ah Q 169 #[ak f,au g 1 1] w λe w'=>feedRet w' f b 1 (aO held a) e/\Keeps (λk=>k=f) w w':=by
 have c:g≠f:=by
  obtain⟨_,m,a1,a2,a3,l,_⟩:=h;intro e;subst e;rw[d]at l;simp at l
 have:=feed_any w f b held [a] (U ⟨g,0,Z⟩) 1 h (ac ⟨g,0,rfl,c,ck d,λi x hi=>by
  rw[aA d];cases i with
  | zero=>simp at hi;subst hi;rfl
  | succ i=>simp at hi⟩) (by simp) j
 rw[show aX held [a]=aO held a from rfl]at this;exact this
def pS(held:List UInt8)(a:UInt8):Prop:=held≠ []\/(a≠34/\a≠92/\32<=a.toNat)
def aFG(w:G)(b f l:Nat)(v x y z B C E L N P R W X:aj)(a:UInt8)(held:Oo)(o:w.heap[b]?=U (V #[v,x,y,z,B,C,E,L,ak f,N,P,R,W,X] 228 (0,0)))
 (j:Feeds w f l held)(s:l<=1073741824)(r:pS held a)(g:aO held a=Z):
 ah Q 138 #[ak b,I Y a.toNat] w λe w'=>e=ai (I J 90)/\Keeps (λk=>k=f) w w':=by
 obtain⟨c0,c1,c2,c3,c4,c5,c6,c7,c8,c9,ca,cb,cc,cd,cf⟩:=aN o;have m:=A (held_any w f l held j);have i:Feeds (w.alloc (V #[bZ a] 5)) f l held:=j.A2 (F:=λ_=>False) ((av _ w).A6 _) id;have h:=A (aDK _ f l held a w.heap.size i (bw w _) s);rw[g]at h;clear o j i g;unfold pS at r;rcases r with r|⟨i,j,o⟩
 .have t:(((held.length:Nat):Int)==0)=S:=by cases held<;>simp_all;omega
  obtain⟨n,q⟩:∃n,held.length=n:=⟨_,rfl⟩;rw[q]at t m;clear r q;go_enter bp,bu;go_wp2_with fail;refine(m.o).mono ?_;rintro e w1 ⟨rfl,rfl⟩;go_wp2_with fail;refine(h.o).mono ?_;rintro e w2 ⟨⟨p,rfl,-⟩,g⟩;have r:=A g;clear g;go_wp2;go_ret;exact⟨rfl,((av (λk=>k=f) w1).A6 (V #[bZ a] 5)).same r.o⟩
 .by_cases u:held= []
  .subst u;obtain⟨-,n2,-⟩:=aD (c:=a) (d:=34) (n:=34) i rfl;obtain⟨-,m2,-⟩:=aD (c:=a) (d:=92) (n:=92) j rfl;have h0:¬(a.toNat:Int)<32:=by omega
   clear i j o;go_enter bp,bu;go_wp2_with fail;refine(m.o).mono ?_;rintro e w1 ⟨rfl,rfl⟩;go_wp2_with fail;refine(h.o).mono ?_;rintro e w2 ⟨⟨p,rfl,-⟩,g⟩;have r:=A g;clear g;go_wp2;go_ret;exact⟨rfl,((av (λk=>k=f) w1).A6 (V #[bZ a] 5)).same r.o⟩
  .have t:(((held.length:Nat):Int)==0)=S:=by cases held<;>simp_all;omega
   obtain⟨n,q⟩:∃n,held.length=n:=⟨_,rfl⟩;rw[q]at t m;clear i j o u q;go_enter bp,bu;go_wp2_with fail;refine(m.o).mono ?_;rintro e w1 ⟨rfl,rfl⟩;go_wp2_with fail;refine(h.o).mono ?_;rintro e w2 ⟨⟨p,rfl,-⟩,g⟩;have r:=A g;clear g;go_wp2;go_ret;exact⟨rfl,((av (λk=>k=f) w1).A6 (V #[bZ a] 5)).same r.o⟩
def aDL(w:G)(b f r:Nat)(L N P R W X v6 v7 va vb vc vd a:aj)(i:UInt8)(held h l:Oo)(E:w.heap[b]?=U (V #[L,N,P,R,W,X,v6,v7,ak f,a,va,vb,vc,vd] 228 (0,0)))
 (y:Feeds w f r held)(z:Win 5 bZ w a l)(hl:l.length<=1073741824)(h7:r<=1073741824)(hc:pS held i)(j:aO held i=U h):
 ah Q 138 #[ak b,I Y i.toNat] w λe w'=>e=ai (I J 0)/\∃g off cap,w'.heap[b]?=U (V #[L,N,P,R,W,X,v6,v7,ak f,au (U ⟨g,off,Z⟩) (l.length+1) cap,va,vb,vc,vd] 228 (0,0))/\
  Win 5 bZ w' (au (U ⟨g,off,Z⟩) (l.length+1) cap) (l++ [i])/\(a.ownBlock=U g\/w.heap.size<=g)/\Feeds w' f (r+1) h/\Keeps (λk=>k=b\/k=f\/a.ownBlock=U k) w w':=by
 obtain⟨c0,c1,c2,c3,c4,c5,c6,c7,c8,c9,ca,cb,cc,cd,cf⟩:=aN E;have HF:=A (held_any w f r held y);have B:Feeds (w.alloc (V #[bZ i] 5)) f r held:=y.A2 (F:=λ_=>False) ((av _ w).A6 _) id;have u:=aDK _ f r held i w.heap.size B (bw w _) h7;rw[j]at u
 have v:b≠f:=by
  obtain⟨_,a0,a1,a2,a3,s,_⟩:=y;intro e;subst e;rw[E]at s;simp at s
 have x:∀k,a.ownBlock=U k->k≠f:=by
  obtain⟨_,a0,a1,a2,a3,s,_⟩:=y;intro k m e;subst e;exact z.ne s (by decide) m
 have h8:=A (z.ne E (by decide));have i0:=A x;have i1:=A v;have C:=ck E;have q:(w.alloc (V #[bZ i] 5)).heap[b]?=_:=(dp w _ _ C).trans E;have t:Win 5 bZ (w.alloc (V #[bZ i] 5)) a l:=z.A2 (F:=λ_=>False) ((av _ w).A6 _) (λ_ _=>id)
 have i2:=A (u.mono (R':=λe w2=>e=ai .nilIface/\Feeds w2 f (r+1) h/\w2.heap[b]?=U (V #[L,N,P,R,W,X,v6,v7,ak f,a,va,vb,vc,vd] 228 (0,0))/\Win 5 bZ (w2.alloc (V #[bZ i] 5)) a l/\Keeps (λk=>k=f) w w2/\w.heap.size<w2.heap.size)
  λe w2 ⟨⟨he,o⟩,m⟩=>⟨he,o,m.B7 q v,(t.A2 m (λk e=>x k e)).A2 (F:=λ_=>False) ((av _ w2).A6 _) (λ_ _=>id),((av (λk=>k=f) w).A6 (V #[bZ i] 5)).same m,Nat.lt_of_lt_of_le (by simp) m.size⟩)
 obtain⟨ta,tc,i3⟩:=z.A7;clear E y B j u v x q t z;subst i3
 have u:(((held.length:Nat):Int)==0)=S\/(held= []/\i≠34/\i≠92/\32<=i.toNat):=by
  unfold pS at hc
  by_cases j:held= []
  .exact ac ⟨j,(hc.resolve_left (λE=>E j))⟩
  .left;cases held<;>simp_all;omega
 clear hc;rcases u with E1|⟨rfl,j,q,t⟩
 focus
  obtain⟨n,v⟩:∃n,held.length=n:=⟨_,rfl⟩;rw[v]at E1 HF;clear v
 rotate_left
 focus
  obtain⟨-,x,-⟩:=aD (c:=i) (d:=34) (n:=34) j rfl;obtain⟨-,y,-⟩:=aD (c:=i) (d:=92) (n:=92) q rfl;have v:¬(i.toNat:Int)<32:=by omega
  clear j q t
 all_goals
  go_enter bp,bu;go_wp2_with fail;refine(HF.o).mono ?_;rintro e w1 ⟨rfl,rfl⟩;go_wp2_with fail;refine(i2.o).mono ?_;rintro e w2 ⟨rfl,o,j,q,t,v⟩;obtain⟨-,-,-,-,-,-,-,-,-,d9,-,-,-,-,-⟩:=aN j;have z:=A q;have B:=A o;have i4:=A j;have i5:=A t;have i6:=A v;have x:=A (ck j);clear o j q t v c0 c1 c2 c3 c4 c5 c6 c7 c8 c9 ca cb cc cd cf C
  go_wp2_with (at_builtin;refine dE nY rfl _ _ rfl rfl z.o w2 1 i rfl ?_ rfl ?_ ?_ ?_)
  .exact fQ rfl
  .omega
  .unfold bk;omega
  intro g off cap w' j t o;have q:=(o.block b (by have:=x.o;simp;omega) (λe=>h8.o e.symm)).trans ((dp w2 _ _ x.o).trans i4.o);have C:=A (j.ne q (by decide));have i7:=A (show(au ta l.length tc).ownBlock=U g\/w1.heap.size<=g from t.elim T (λE=>ac (dm (Nat.le_of_lt i6.o) (dm (by simp) E.1))))
  have v:Feeds w' f (r+1) h:=by
   obtain⟨y,a0,a1,a2,a3,s,h9⟩:=B.o;exact⟨y,a0,a1,a2,a3,(o.block f (by have:=ck s;simp;omega) (λe=>i0.o f e.symm rfl)).trans ((dp w2 _ _ (ck s)).trans s),h9⟩
  have i8:=A v;have s:Keeps (λk=>k=b\/k=f\/(au ta l.length tc).ownBlock=U k) w1 w':=((i5.o.mono (λk m=>ac (T m))).A6 (V #[bZ i] 5)).D7 o (λk e=>T (ac (ac e)));have i9:=A s;have y:=A j;obtain⟨-,-,-,-,-,-,-,-,-,e9,-,-,-,-,ef⟩:=aN q;have j0:=A q;clear q j t o v s d9;go_wp2;go_ret;have j:Keeps (λk=>k=b) w' (w'.setCell ⟨b,9,Z⟩ (au (g,off) (l.length+1) cap)):=(av (λk=>k=b) w').A3 (p:=⟨b,9,Z⟩) (T rfl) _;exact⟨rfl,g,off,cap,aB j0.o _,y.o.A2 j (λk e m=>C.o (e.trans (congrArg U m))),i7.o,i8.o.A2 j (λe=>i1.o e.symm),i9.o.A3 (p:=⟨b,9,Z⟩) (T (T rfl)) _⟩
structure mX where
 c:UInt8
 a:List UInt8
 X:List UInt8
def mX.Ok(x:mX):Prop:=(x.c=101\/x.c=69)/\(x.a= []\/x.a= [43]\/x.a= [45])/\x.X≠ []/\∀d∈x.X,isD d=O
def pL:Option (List UInt8)->List UInt8
 | none=> []
 | some F=>46::F
def eL:Option mX->List UInt8
 | none=> []
 | some x=>x.c::(x.a++x.X)
structure aJv(l W:List UInt8)(P:Option (List UInt8))(E:Option mX):Prop where
 is:l=W++(pL P++eL E)
 ne:W≠ []
 b:∀d∈W,isD d=O
 c:W= [48]\/∀t,W≠48::t
 e:∀F,P=U F->F≠ []/\∀d∈F,isD d=O
 a:∀x,E=U x->x.Ok
def aAN(l:List UInt8)(neg:Bool)(W:List UInt8)(P:Option (List UInt8))(E:Option mX):Prop:=∃u,l=(if neg then 45::u else u)/\aJv u W P E
def pW:Option mX->Int
 | none=>0
 | some x=>if x.a= [45]then -(fH x.X:Int)else fH x.X
def j3(neg:Bool)(W:List UInt8)(P:Option (List UInt8))(E:Option mX):Dml:=cB neg (W++P.getD []) (pW E-(P.getD []).length)
def qQ(l:Oo):l.take (over l)=l.takeWhile isD/\l.drop (over l)=l.dropWhile isD:=by
 unfold over;have e:=List.takeWhile_append_dropWhile (p:=isD) (l:=l);constructor
 .conv=>lhs;arg 2;rw[<-e]
  exact List.take_left
 .conv=>lhs;arg 2;rw[<-e]
  exact List.drop_left
def xN(h:bR l=O):l.takeWhile isD≠ []:=by
 cases l with
 | nil=>cases h
 | cons c t=>
  have h:isD c=O:=h;rw[ct,if_pos h];exact List.cons_ne_nil _ _
def tY(l:Oo):∀c∈l.takeWhile isD,isD c=O:=by
 induction l with
 | nil=>intro c h;cases h
 | cons x l a=>
  intro c h;rw[ct]at h;split at h
  .rename_i b;rcases dx.1 h with rfl|h
   .exact b
   .exact a c h
  .cases h
def aEV(t:Oo):t.take (iC t)= []\/t.take (iC t)= [43]\/t.take (iC t)= [45]:=by
 cases t with
 | nil=>exact T rfl
 | cons d t=>
  unfold iC;simp only
  by_cases h:d=43\/d=45
  .rw[if_pos h];rcases h with rfl|rfl
   .exact ac (T rfl)
   .exact ac (ac rfl)
  .rw[if_neg h];exact T rfl
def xO(n m:Nat)(l:Oo)(h:jA n l=(m,O)):n<=m/\∃E,l.take (m-n)=eL E/\∀x,E=U x->x.Ok:=by
 cases l with
 | nil=>
  unfold jA at h;simp only[cw,and_true]at h;subst h;exact⟨af _,Z,by simp[eL],λx e=>by cases e⟩
 | cons c t=>
  unfold jA at h;simp only at h
  by_cases b:c=101\/c=69
  .rw[if_pos b]at h
   by_cases a:bR (t.drop (iC t))=O
   .rw[if_pos a]at h;simp only[cw,and_true]at h;refine⟨by omega,U ⟨c,t.take (iC t),(t.drop (iC t)).takeWhile isD⟩,?_,λx e=>?_⟩
    .rw[show m-n=(iC t+over (t.drop (iC t)))+1 by omega,cz,eL,dq,(qQ _).1]
    .cases e;exact⟨b,aEV t,xN a,tY _⟩
   .rw[if_neg a]at h;simp at h
  .rw[if_neg b]at h;simp only[cw,and_true]at h;subst h;exact⟨af _,Z,by simp[eL],λx e=>by cases e⟩
def sJ(n m:Nat)(l:Oo)(h:dP n l=(m,O)):n<=m/\∃P E,l.take (m-n)=pL P++eL E/\(∀F,P=U F->F≠ []/\∀d∈F,isD d=O)/\∀x,E=U x->x.Ok:=by
 cases l with
 | nil=>
  unfold dP at h;simp only[cw,and_true]at h;subst h;exact⟨af _,Z,Z,by simp[pL,eL],(λF e=>by cases e),λx e=>by cases e⟩
 | cons c t=>
  unfold dP at h;simp only at h
  by_cases g:c=46
  .rw[if_pos g]at h
   by_cases a:bR t=O
   .rw[if_pos a]at h;obtain⟨i,E,b,f⟩:=xO _ _ _ h;refine⟨by omega,U (t.takeWhile isD),E,?_,(λF e=>by cases e;exact⟨xN a,tY _⟩),f⟩;rw[show m-n=(over t+(m-(n+1+over t)))+1 by omega,cz,dq,b,(qQ _).1,g];rfl
   .rw[if_neg a]at h;simp at h
  .rw[if_neg g]at h;obtain⟨i,E,b,f⟩:=xO _ _ _ h;exact⟨i,Z,E,by rw[b];rfl,(λF e=>by cases e),f⟩
def sK(n m:Nat)(l:Oo)(h:dQ n l=(m,O)):n<m/\∃W P E,aJv (l.take (m-n)) W P E:=by
 cases l with
 | nil=>unfold dQ at h;simp at h
 | cons c t=>
  unfold dQ at h;simp only at h
  by_cases a:isD c=O
  .rw[if_pos a]at h
   by_cases b:c=48
   .rw[if_pos b]at h;obtain⟨j,P,E,f,i,g⟩:=sJ _ _ _ h;refine⟨by omega,[48],P,E,?_,by simp,(λd e=>by rw[List.mem_singleton.1 e];rfl),T rfl,i,g⟩;rw[show m-n=(m-(n+1))+1 by omega,cz,f,b];rfl
   .rw[if_neg b]at h;obtain⟨j,P,E,f,i,g⟩:=sJ _ _ _ h;have k:0<over (c::t):=by unfold over;rw[ct,if_pos a];simp
    refine⟨by omega,(c::t).takeWhile isD,P,E,?_,xN (show bR (c::t)=O from a),tY _,ac λu e=>?_,i,g⟩
    .rw[show m-n=over (c::t)+(m-(n+over (c::t))) by omega,dq,f,(qQ _).1]
    .rw[ct,if_pos a]at e;injection e with e _
     exact b e
  .rw[if_neg a]at h;simp at h
def mY{m:Nat}(h:dB l=(m,O)):0<m/\∃neg W P E,aAN (l.take m) neg W P E:=by
 cases l with
 | nil=>unfold dB at h;simp at h
 | cons c t=>
  unfold dB at h;simp only at h
  by_cases b:c=45
  .rw[if_pos b]at h;obtain⟨d,W,P,E,a⟩:=sK _ _ _ h;refine⟨by omega,O,W,P,E,t.take (m-1),?_,a⟩;rw[if_pos rfl,show m=(m-1)+1 by omega,cz,b];rfl
  .rw[if_neg b]at h;obtain⟨d,W,P,E,a⟩:=sK _ _ _ h;exact⟨d,S,W,P,E,_,rfl,a⟩
def iL{r:Oo}(a:∀d∈W,isD d=O)(b:bR r=S):(W++r).takeWhile isD=W/\(W++r).dropWhile isD=r:=by
 rw[List.takeWhile_append_of_pos a,List.dropWhile_append_of_pos a];cases r with
 | nil=>simp
 | cons c t=>
  have:isD c=S:=b;rw[ct,List.dropWhile_cons,this];simp
def aEW{E:Option mX}(h:∀x,E=U x->x.Ok):bR (eL E)=S:=by
 cases E with
 | none=>rfl
 | some x=>
  show isD x.c=S
  rcases(h x rfl).1 with e|e<;>rw[e]<;>rfl
def aJw{E:Option mX}(h:∀x,E=U x->x.Ok):bR (pL P++eL E)=S:=by
 cases P with
 | none=>exact aEW h
 | some F=>rfl
def xP{a X:Oo}(e:a= []\/a= [43]\/a= [45])(f:X≠ [])(b:∀d∈X,isD d=O):cA (a++X)=(decide (a= [45]),X):=by
 rcases e with rfl|rfl|rfl
 .cases X with
  | nil=>exact absurd rfl f
  | cons c t=>
   have g:isD c=O:=b c dt
   show(if c=43\/c=45 then(c==45,t)else(S,c::t))=_
   rw[if_neg (by rintro(rfl|rfl)<;>revert g<;>decide)];rfl
 .rfl
 .rfl
def qD{F:Oo}{E:Option mX}(h:∀x,E=U x->x.Ok):∃L,cZ neg W F (eL E)=U L/\L.a=neg/\L.whole=W/\L.b=F/\(if L.d then -(fH L.c:Int)else fH L.c)=pW E:=by
 cases E with
 | none=>exact⟨_,rfl,rfl,rfl,rfl,rfl⟩
 | some x=>
  obtain⟨d,c,b,a⟩:=h x rfl;have e:cA (x.a++x.X)=(decide (x.a= [45]),x.X):=xP c b a;have w:=iL (W:=x.X) (r:= []) a rfl;rw[dy]at w;refine⟨⟨neg,W,F,decide (x.a= [45]),x.X⟩,?_,rfl,rfl,rfl,?_⟩
  .show(if x.c=101\/x.c=69 then(if(cA (x.a++x.X)).2.takeWhile isD= []\/(cA (x.a++x.X)).2.dropWhile isD≠ []then Z else U (Lit.mk neg W F (cA (x.a++x.X)).1 ((cA (x.a++x.X)).2.takeWhile isD)))else Z)=_
   rw[if_pos d,e];simp only[w.1,w.2];rw[if_neg (by simp[b])]
  .show(if decide (x.a= [45])=O then _ else _)=(if x.a= [45]then _ else _)
   simp only[decide_eq_true_eq]
def vZ{r:Oo}(j:W≠ [])(f:∀d∈W,isD d=O)(g:W= [48]\/∀t,W≠48::t)(h:bR r=S):cR neg (W++r)=bF neg W r:=by
 have a:=iL f h;cases W with
 | nil=>exact absurd rfl j
 | cons c t=>
  have i:isD c=O:=f c dt
  show(if isD c then(if c=48 then bF neg [48] (t++r)else bF neg (((c::t)++r).takeWhile isD) (((c::t)++r).dropWhile isD))else Z)=_
  rw[if_pos i]
  by_cases b:c=48
  .rw[if_pos b];subst b;rcases g with e|e
   .injection e with _ e
    subst e;rfl
   .exact absurd rfl (e t)
  .rw[if_neg b,a.1,a.2]
def aJx{E:Option mX}(h:aAN l neg W P E):∃L,bI l=U L/\dA L=j3 neg W P E:=by
 obtain⟨u,w,a⟩:=h;have q:=aJw (P:=P) a.a
 have p:∃L,bF neg W (pL P++eL E)=U L/\dA L=j3 neg W P E:=by
  cases z:P with
  | none=>
   obtain⟨L,g,i,b,n,o⟩:=qD (neg:=neg) (W:=W) (F:= []) a.a;refine⟨L,?_,?_⟩
   .rw[<-g]
    show bF neg W (eL E)=_
    cases v:E with
    | none=>rfl
    | some x=>
     show(if x.c=46 then _ else cZ neg W [] (eL (U x)))=_
     rw[if_neg (by rcases(a.a x v).1 with e|e<;>rw[e]<;>decide)]
   .unfold dA j3;rw[i,b,n,o];rfl
  | some F=>
   obtain⟨s,y⟩:=a.e F z;have k:=iL y (aEW a.a);obtain⟨L,g,i,b,n,o⟩:=qD (neg:=neg) (W:=W) (F:=F) a.a;refine⟨L,?_,?_⟩
   .rw[<-g]
    show(if(46:UInt8)=46 then(if(F++eL E).takeWhile isD= []then Z else cZ neg W ((F++eL E).takeWhile isD) ((F++eL E).dropWhile isD))else cZ neg W [] (46::(F++eL E)))=_
    rw[if_pos rfl,k.1,k.2,if_neg s]
   .unfold dA j3;rw[i,b,n,o];rfl
 have j:cR neg u=bF neg W (pL P++eL E):=by rw[a.is];exact vZ a.ne a.b a.c q
 obtain⟨L,g,i⟩:=p;refine⟨L,?_,i⟩;rw[w];cases neg with
 | true=>
  show(if(45:UInt8)=45 then cR O u else cR S (45::u))=_
  rw[if_pos rfl,j,g]
 | false=>
  show bI u=_
  cases f:u with
  | nil=>rw[a.is]at f;have:=List.append_eq_nil_iff.1 f;exact absurd this.1 a.ne
  | cons c t=>
   show(if c=45 then cR O t else cR S (c::t))=_
   have B:c≠45:=by
    rintro rfl;have b:=a.is;rw[f]at b;cases m:W with
    | nil=>exact a.ne m
    | cons d r=>
     rw[m]at b;injection b with b _
     have:=a.b d (by rw[m];exact dt);rw[<-b]at this;revert this;decide
   rw[if_neg B,<-f,j,g]
def aJy{E:Option mX}(h:aAN l neg W P E):bitsOf l=cF (j3 neg W P E):=by
 obtain⟨L,b,a⟩:=aJx h;unfold bitsOf;rw[b,<-a];rfl
def aC1(w:G)(n:Nat)(b:n<=1114111)(a:n<55296\/57343<n):ah Q 198 #[I ae n] w λe w'=>e=ai (ar O)/\w'=w:=by
 have a1:(0:Int)<=(n:Int):=by omega
 have a2:(n:Int)<=1114111:=by omega
 rcases a with a|a
 .have a3:(n:Int)<55296:=by omega
  go_enter func198,ntmps198;go_wp2;go_ret;exact⟨rfl,rfl⟩
 .have a3:¬(n:Int)<55296:=by omega
  have a4:(57343:Int)<(n:Int):=by omega
  go_enter func198,ntmps198;go_wp2;go_ret;exact⟨rfl,rfl⟩
def vA(w:G)(n:Nat)(P:n<=1114111)(R:n<55296\/57343<n):ah Q 178 #[I ae n] w λe w'=>e=ai (cj ⟨(aT n).toArray⟩)/\bj w w w':=by
 have m:=A (λW:G=>aC1 W n P R);have c1:J.wrap (n:Int)=(n:Int):=by rw[ag];omega
 have h:∀x:Nat,x<256->Y.wrap (x:Int)=(((D x).toNat:Nat):Int):=λx hx=>by rw[ee];simp
 unfold aT
 by_cases E:n<128
 .rw[if_pos E];have a1:(n:Int)<128:=by omega
  have p:Y.wrap ((n:Int))=(((D (n)).toNat:Nat):Int):=by rw[show((n:Int):Int)=((n:Nat):Int) by omega];exact h _ (by omega)
  obtain⟨i,d⟩:∃x,D (n)=x:=⟨_,rfl⟩;rw[d]at p;rw[d];clear h d;go_enter dh,di;go_wp2_with fail;refine(m.o _).mono ?_;rintro e w1 ⟨rfl,rfl⟩
  go_wp2_with (at_builtin;refine jH (B:=w1.heap.size) (enc:=bZ) nY rfl _ _ rfl rfl (co _ _ _ _) ⟨w1.heap.size,0,Z⟩ 1 1 [i] rfl rfl ?_ ?_ ?_ ?_ ?_ ?_ ?_)
  .decide
  .intro j y l;rw[dj,aA (bw w1 _)];rcases j with _|j<;>simp at l<;>subst l<;>rfl
  .intro y;rfl
  .decide
  .simp;unfold bk;omega
  .simp
  intro b cap z c a;have q:=((bc w1 w1).alloc (af _) (V #[I Y i.toNat] 5)).grown a (by simp) (λk r=>by cases r);have s:=fK (bx c);clear c a;go_wp2;go_ret;exact⟨rfl,q⟩
 rw[if_neg E];have b1:decide ((n:Int)<128)=S:=decide_eq_false (by omega)
 by_cases F:n<2048
 .rw[if_pos F];have a2:(n:Int)<2048:=by omega
  have p:Y.wrap (192+(n:Int)/64)=(((D (192+n/64)).toNat:Nat):Int):=by rw[show(192+(n:Int)/64:Int)=((192+n/64:Nat):Int) by omega];exact h _ (by omega)
  have u:Y.wrap (128+(n:Int)%64)=(((D (128+n%64)).toNat:Nat):Int):=by rw[show(128+(n:Int)%64:Int)=((128+n%64:Nat):Int) by omega];exact h _ (by omega)
  obtain⟨i,d⟩:∃x,D (192+n/64)=x:=⟨_,rfl⟩;rw[d]at p;obtain⟨o,f⟩:∃x,D (128+n%64)=x:=⟨_,rfl⟩;rw[f]at u;rw[d,f];clear h d f;go_enter dh,di;go_wp2_with fail;refine(m.o _).mono ?_;rintro e w1 ⟨rfl,rfl⟩
  go_wp2_with (at_builtin;refine jH (B:=w1.heap.size) (enc:=bZ) nY rfl _ _ rfl rfl (co _ _ _ _) ⟨w1.heap.size,0,Z⟩ 2 2 [i,o] rfl rfl ?_ ?_ ?_ ?_ ?_ ?_ ?_)
  .decide
  .intro j y l;rw[dj,aA (bw w1 _)];rcases j with _|_|j<;>simp at l<;>subst l<;>rfl
  .intro y;rfl
  .decide
  .simp;unfold bk;omega
  .simp
  intro b cap z c a;have q:=((bc w1 w1).alloc (af _) (V #[I Y i.toNat,I Y o.toNat] 5)).grown a (by simp) (λk r=>by cases r);have s:=fK (bx c);clear c a;go_wp2;go_ret;exact⟨rfl,q⟩
 rw[if_neg F];have b2:decide ((n:Int)<2048)=S:=decide_eq_false (by omega)
 by_cases L:n<65536
 .rw[if_pos L];have a3:(n:Int)<65536:=by omega
  have p:Y.wrap (224+(n:Int)/4096)=(((D (224+n/4096)).toNat:Nat):Int):=by rw[show(224+(n:Int)/4096:Int)=((224+n/4096:Nat):Int) by omega];exact h _ (by omega)
  have u:Y.wrap (128+(n:Int)/64%64)=(((D (128+n/64%64)).toNat:Nat):Int):=by rw[show(128+(n:Int)/64%64:Int)=((128+n/64%64:Nat):Int) by omega];exact h _ (by omega)
  have C:Y.wrap (128+(n:Int)%64)=(((D (128+n%64)).toNat:Nat):Int):=by rw[show(128+(n:Int)%64:Int)=((128+n%64:Nat):Int) by omega];exact h _ (by omega)
  obtain⟨i,d⟩:∃x,D (224+n/4096)=x:=⟨_,rfl⟩;rw[d]at p;obtain⟨o,f⟩:∃x,D (128+n/64%64)=x:=⟨_,rfl⟩;rw[f]at u;obtain⟨v,g⟩:∃x,D (128+n%64)=x:=⟨_,rfl⟩;rw[g]at C;rw[d,f,g];clear h d f g;go_enter dh,di;go_wp2_with fail;refine(m.o _).mono ?_;rintro e w1 ⟨rfl,rfl⟩
  go_wp2_with (at_builtin;refine jH (B:=w1.heap.size) (enc:=bZ) nY rfl _ _ rfl rfl (co _ _ _ _) ⟨w1.heap.size,0,Z⟩ 3 3 [i,o,v] rfl rfl ?_ ?_ ?_ ?_ ?_ ?_ ?_)
  .decide
  .intro j y l;rw[dj,aA (bw w1 _)];rcases j with _|_|_|j<;>simp at l<;>subst l<;>rfl
  .intro y;rfl
  .decide
  .simp;unfold bk;omega
  .simp
  intro b cap z c a;have q:=((bc w1 w1).alloc (af _) (V #[I Y i.toNat,I Y o.toNat,I Y v.toNat] 5)).grown a (by simp) (λk r=>by cases r);have s:=fK (bx c);clear c a;go_wp2;go_ret;exact⟨rfl,q⟩
 rw[if_neg L];have b3:decide ((n:Int)<65536)=S:=decide_eq_false (by omega);have p:Y.wrap (240+(n:Int)/262144)=(((D (240+n/262144)).toNat:Nat):Int):=by rw[show(240+(n:Int)/262144:Int)=((240+n/262144:Nat):Int) by omega];exact h _ (by omega)
 have u:Y.wrap (128+(n:Int)/4096%64)=(((D (128+n/4096%64)).toNat:Nat):Int):=by rw[show(128+(n:Int)/4096%64:Int)=((128+n/4096%64:Nat):Int) by omega];exact h _ (by omega)
 have C:Y.wrap (128+(n:Int)/64%64)=(((D (128+n/64%64)).toNat:Nat):Int):=by rw[show(128+(n:Int)/64%64:Int)=((128+n/64%64:Nat):Int) by omega];exact h _ (by omega)
 have X:Y.wrap (128+(n:Int)%64)=(((D (128+n%64)).toNat:Nat):Int):=by rw[show(128+(n:Int)%64:Int)=((128+n%64:Nat):Int) by omega];exact h _ (by omega)
 obtain⟨i,d⟩:∃x,D (240+n/262144)=x:=⟨_,rfl⟩;rw[d]at p;obtain⟨o,f⟩:∃x,D (128+n/4096%64)=x:=⟨_,rfl⟩;rw[f]at u;obtain⟨v,g⟩:∃x,D (128+n/64%64)=x:=⟨_,rfl⟩;rw[g]at C;obtain⟨N,t⟩:∃x,D (128+n%64)=x:=⟨_,rfl⟩;rw[t]at X;rw[d,f,g,t];clear h d f g t;go_enter dh,di;go_wp2_with fail;refine(m.o _).mono ?_;rintro e w1 ⟨rfl,rfl⟩
 go_wp2_with (at_builtin;refine jH (B:=w1.heap.size) (enc:=bZ) nY rfl _ _ rfl rfl (co _ _ _ _) ⟨w1.heap.size,0,Z⟩ 4 4 [i,o,v,N] rfl rfl ?_ ?_ ?_ ?_ ?_ ?_ ?_)
 .decide
 .intro j y l;rw[dj,aA (bw w1 _)];rcases j with _|_|_|_|j<;>simp at l<;>subst l<;>rfl
 .intro y;rfl
 .decide
 .simp;unfold bk;omega
 .simp
 intro b cap z c a;have q:=((bc w1 w1).alloc (af _) (V #[I Y i.toNat,I Y o.toNat,I Y v.toNat,I Y N.toNat] 5)).grown a (by simp) (λk r=>by cases r);have s:=fK (bx c);clear c a;go_wp2;go_ret;exact⟨rfl,q⟩
def aJK(w:G)(s:ByteArray)(a:Nat)(c:a<s.size)(f:s.size<=2147483648)(b:¬a+1<s.size):ah Q 155 #[s,a] w λe w'=>
 e=ai (gP a (jG (s.data.toList.drop (a+1))))/\bj w w w':=by
 have d:J.wrap ((a:Int)+1)=((a+1:Nat):Int):=by rw[ag];omega
 rw[cY b];go_enter du,dv;go_wp2_with fail;exact aw (v:=gP a .cut) (by simp[ba,dw,go_sem,gP]) rfl ⟨rfl,(bc _ _).alloc (af _) _⟩
def aJL(w:G)(s:ByteArray)(c:Nat)(F:s.size<=2147483648)(L:c+1<s.size)(a:s[c+1]≠117):ah Q 155 #[s,c] w λe w'=>
 e=ai (gP c (jG (s.data.toList.drop (c+1))))/\bj w w w':=by
 obtain⟨p,d⟩:∃p,c+1=p:=⟨_,rfl⟩;have a:s[p]'(by omega)≠117:=by subst d;exact a
 rw[d];have k:p<s.size:=by omega
 have N:J.wrap ((c:Int)+1)=(p:Int):=by rw[ag];omega
 have R:¬(s.size:Int)<=(p:Int):=by omega
 have X:(p:Int)<(s.size:Int):=by omega
 rw[bA k,jG,if_neg a];have h:=A (λW=>aCR W s[p]);have l:M (∀W:G,ah Q 156 #[I J 92,I J p] W λe w'=>e=ai (cr #["",I J 0,I J 92,I J (p:Int),ar S])/\bj W W w'):=λW=>mA W 92 p
 have e1:(((s[p].toNat:Nat):Int)!=117)=O:=by
  have:s[p].toNat≠117:=λe=>a (ep e)
  simp;omega
 have m:=A d;have g:(w.alloc (V #["",I J 0,I J 0,I J 0,ar S] 200)).heap[w.heap.size]?=U (V #["",I J 0,I J 0,I J 0,ar S] 200 (0,0)):=bw w _;have i:=(bc w w).alloc (af _) (V #["",I J 0,I J 0,I J 0,ar S] 200);clear a d;cases j:cO s[p]with
 | none=>
  have d:gN s[p]= -1:=by rw[gN,j]
  rw[d]at h;clear j d;go_enter du,dv;go_wp2_with fail;refine(h.o _).mono ?_;rintro e w2 ⟨rfl,rfl⟩;go_wp2_with fail;refine(l.o _).mono ?_;rintro e w3 ⟨rfl,a⟩;have n:=A (keep g a);have o:=A (chain i a);obtain⟨z,c1,c2,B,C,E⟩:=cells5 (keep g a);clear a g i;go_wp2;obtain⟨P,q⟩:=aS (cj ⟨#[]⟩) (I J 0) (I J 92) (I J (p:Int)) (ar S) n.o o.o (af _);have f:=A q;obtain⟨r,t,u,x,y,_⟩:=cells5 P;exact aw (v:=cr #["",I J 0,I J 92,I J (p:Int),ar S]) (by simp[ba,dw,go_sem,r,t,u,x,y]) rfl ⟨by rw[<-m.o];simp[gP],f.o⟩
 | some b=>
  have d:gN s[p]=(b.toNat:Int):=by rw[gN,j]
  rw[d]at h;clear j d;have j:¬(b.toNat:Int)<0:=by omega
  have q5:Y.wrap (b.toNat:Int)=(b.toNat:Int):=by rw[ee];have:=b.toNat_lt;omega
  go_enter du,dv;go_wp2_with fail;generalize w.alloc (V #["",I J 0,I J 0,I J 0,ar S] 200)=w1 at*;refine(h.o _).mono ?_;rintro e w2 ⟨rfl,rfl⟩
  have d:(convert 22 9 (au w2 1 1)).run Q (w2.alloc (V #[I Y b.toNat] 5))=.ok (cj ⟨#[b]⟩) (w2.alloc (V #[I Y b.toNat] 5)):=
   fK (bx (Row.G5 0 5 bZ w2 [b] (bz _) (by simp;unfold bk;omega)))
  have a:=(bc w2 w2).alloc (af _) (V #[I Y b.toNat] 5);have n:=A (keep g a);have o:=A (chain i a);obtain⟨z,c1,c2,B,C,E⟩:=cells5 (keep g a);clear a g i;go_wp2;obtain⟨P,q⟩:=aS (cj ⟨#[b]⟩) (I J 2) (I J 0) (I J 0) (ar S) n.o o.o (af _);have f:=A q;obtain⟨r,t,u,x,y,_⟩:=cells5 P;exact aw (v:=cr #[cj ⟨#[b]⟩,I J 2,I J 0,I J 0,ar S]) (by simp[ba,dw,go_sem,r,t,u,x,y]) rfl ⟨by simp[gP],f.o⟩
def oH{b:Bool}:∀{m n no a:Nat}{l:Oo},cX b m n l=.bad no a->no=92\/no=93
 | 0,_,_,_,l,h=>by rw[cX]at h;cases h
 | m+1,_,_,_,[],h=>by rw[cX]at h;cases h
 | m+1,n,no,a,c::l,h=>by
  rw[cX]at h;split at h
  .injection h with d h2;subst d;cases b<;>simp
  .split at h
   .injection h with d h2;exact ac d.symm
   .exact oH h
def pK{a:Bool}{m r:Nat}(h:cX a (m+1) n l=.ok r):∃v t,v<16/\gV a (3-m) n v=S/\cX a m (16*n+v) t=.ok r:=by
 cases l with
 | nil=>rw[cX]at h;cases h
 | cons c t=>
  rw[cX]at h;split at h
  .cases h
  .rename_i v b;split at h
   .cases h
   .rename_i d;exact⟨v,t,aAQ b,by simpa using d,h⟩
def vB{a:Bool}{r:Nat}(h:cX a 4 0 l=.ok r):r<=65535/\(a=S->r<56320\/57343<r)/\(a=O->56320<=r/\r<=57343):=by
 obtain⟨g,i,a1,b1,h⟩:=pK h;obtain⟨j,b,a2,b2,h⟩:=pK h;obtain⟨d,c,a3,b3,h⟩:=pK h;obtain⟨k,f,a4,b4,h⟩:=pK h;rw[cX]at h;injection h with h
 cases a<;>simp[gV]at b1 b2<;>refine⟨by omega,λe=>?_,λe=>?_⟩<;>first|omega|(cases e;done)
def aJ0(n:Nat):aj:=I ae n
def aL5(n:Nat):aj:=I .u16 n
def aL6:Elem 394 21 4:=⟨underlying394,by
 have h:(Q.info? 21).map (λi=>(i.zero,i.size,i.bytes))=U (U (I ae 0),1,4):=by kernel_rfl
 obtain⟨i,c,a,d,b⟩:=eh h;exact⟨i,_,c,a,d,b,rfl⟩⟩
def aLV:Elem 375 377 2:=⟨underlying375,by
 have h:(Q.info? 377).map (λi=>(i.zero,i.size,i.bytes))=U (U (I .u16 0),1,2):=by kernel_rfl
 obtain⟨i,c,a,d,b⟩:=eh h;exact⟨i,_,c,a,d,b,rfl⟩⟩
def eJ(l:List UInt8):List Nat:=match l with
 | []=> []
 | c::t=>match eC (c::t)with
  | .ok n=>bM ((c::t).take n)::eJ (t.drop (n-1))
  | _=> []
termination_by l.length
decreasing_by simp_wf;omega
def vH:eJ []= []:=by rw[eJ]
def sY{t:Oo}(h:eC (c::t)=.ok (n+1)):eJ (c::t)=bM ((c::t).take (n+1))::eJ (t.drop n):=by
 rw[eJ,h];rfl
def vI:∀(N:Nat)(l:Oo),l.length<=N->aV l=O->gI l=(eJ l).flatMap dG/\(∀r∈eJ l,fM r)/\(eJ l).length<=l.length
 | _,[],_,_=>by rw[lS,vH];exact⟨rfl,by simp,by simp⟩
 | 0,_::_,h,_=>by simp at h
 | N+1,c::t,h,a=>by
  obtain⟨n,b,e,i⟩:=iN a;obtain⟨d,g,f⟩:=vI N (t.drop n) (by rw[bm];simp at h;omega) e;rw[iX b,sY b,d];refine⟨rfl,λr a=>?_,?_⟩
  .rcases dx.1 a with rfl|a
   .exact aBD (mZ b).1
   .exact g r a
  .rw[bm]at f;simp only[List.length_cons];omega
def aDq(h:i<s.size)(c:aV (s.data.toList.drop i)=O):∃n,1<=n/\eC (s.data.toList.drop i)=.ok n/\aV (s.data.toList.drop (i+n))=O/\i+n<=s.size/\
 eJ (s.data.toList.drop i)=bM ((s.data.toList.drop i).take n)::eJ (s.data.toList.drop (i+n)):=by
 have e:(s.data.toList.drop (i+1)).length=s.size-(i+1):=by rw[bm];simp
 rw[bA h]at c⊢;obtain⟨n,d,a,f⟩:=iN c;rw[ei,show i+1+n=i+(n+1) by omega]at a;have b:=sY d;rw[ei,show i+1+n=i+(n+1) by omega]at b;exact⟨n+1,by omega,d,a,by omega,b⟩
def Row.D8{r s:Type}{g f:Nat}{enc:r->aj}{b:s->aj}{v d:aj}{l:List r}{o:List s}(h:Row B e enc w v l)(j:Row g f b w d o)(n:e≠f):∀k,v.ownBlock=U k->¬d.ownBlock=U k:=by
 intro k m i;obtain⟨c,p⟩:=(bx h).E0 m;obtain⟨q,a⟩:=(bx j).E0 i;rw[p]at a;cases a;exact n rfl
def Row.F6{j:Type}{enc:j->aj}{w':G}{v:aj}{l:List j}{F:Nat->Prop}(h:Row B e enc w v l)(d:Keeps F w w')(f:∀k,v.ownBlock=U k->¬F k):Row B e enc w' v l:=by
 refine⟨h.1,?_⟩;rcases h.2 with i|⟨g,cap,a,rfl,c,b,rest⟩
 .exact T i
 .exact ac ⟨g,cap,a,rfl,c,d.B7 b (f g rfl),rest⟩
def Row.at{f:Type}{enc:f->aj}{a:Option Addr}{c:Nat}{l:List f}(h:Row B e enc w (au a k c) l){i:Nat}(hi:i<l.length):∃g,a=U ⟨g,0,Z⟩/\k=l.length/\w.cell? ⟨g,i,Z⟩=U (enc l[i]):=by
 rcases h.B6 with⟨_,rfl⟩|⟨g,cap,b,_,_,_,_,_,d⟩
 .simp at hi
 .cases b;exact⟨g,rfl,rfl,d i _ (cv hi)⟩
def aFg(w:G)(s:ByteArray)(r:s.size<=1073741824)(g:aV s.data.toList=O):ah Q 243 #[s] w λe w'=>e=ai (ao #[I J 0,I J 0])/\w'=w:=by
 have l:=A (show aV (s.data.toList.drop 0)=O from g);clear g;go_enter func243,ntmps243;go_wp2
 go_loopw [4] (λv wr=>∃i:Nat,v=I J i/\i<=s.size/\M (aV (s.data.toList.drop i)=O)/\w=wr) (λv _=>s.size-(bh v).toNat)
 case atStart=>exact⟨0,rfl,bz _,l,rfl⟩
 case round=>
  obtain⟨i,rfl,hi,m,rfl⟩:=hrel
  by_cases h:i<s.size
  .obtain⟨n,b,c,a,j,_⟩:=aDq h m.o;have d:=A (λW=>aBE W s i h (by omega));rw[c,aCY]at d;have k:(i:Int)<(s.size:Int):=by omega
   obtain⟨p,f⟩:∃p,i+n=p:=⟨_,rfl⟩;have t:J.wrap ((i:Int)+(n:Int))=(p:Int):=by rw[ag];omega
   rw[f]at a j;have o:=A a;have q:=A (show i<p by omega);clear c a f b;go_wp2_with fail;refine(d.o _).mono ?_;rintro e w2 ⟨rfl,rfl⟩;go_wp2_with fail;exact⟨⟨p,by go_num,j,o,trivial⟩,by have:=q.o;simp[bh];omega⟩
  .have k:¬(i:Int)<(s.size:Int):=by omega
   go_wp2_with fail;exact aw (v:=ao #[I J 0,I J 0]) (by simp[ba,results243,go_sem]) rfl ⟨rfl,rfl⟩
def yN(w:G)(s:ByteArray)(b:s.size<=1073741824)(a:aV s.data.toList=O):ah Q 225 #[s] w λe w'=>e=ai (ar O)/\w'=w:=by
 have c:=A (λW=>aFg W s b a);clear a;go_enter func225,ntmps225;go_wp2_with fail;refine(c.o _).mono ?_;rintro e w2 ⟨rfl,rfl⟩;go_wp2;go_ret;exact⟨rfl,rfl⟩
def aFh(w:G)(s:ByteArray)(hs:s.size<=1073741824)(f:aV s.data.toList=O):ah Q 244 #[s] w λe w'=>
 ∃a k c b m d,e=ai (ao #[au a k c,au b m d])/\Row w.heap.size 21 aJ0 w' (au a k c) (eJ s.data.toList)/\bj w w w':=by
 have HR:=A (show aV (s.data.toList.drop 0)=O from f);obtain⟨R,g⟩:∃R,eJ s.data.toList=R:=⟨_,rfl⟩;have HL:=A (show []++eJ (s.data.toList.drop 0)=R from g);rw[g];clear f g;go_enter func244,ntmps244;go_wp2
 go_loopw [4,5,6] (λl t v wr=>∃(i:Nat)(L a0:List Nat),v=I J i/\i<=s.size/\M (aV (s.data.toList.drop i)=O)/\M (L++eJ (s.data.toList.drop i)=R)/\L.length<=i/\a0.length<=i/\Row w.heap.size 21 aJ0 wr l L/\Row w.heap.size 3 encI wr t a0/\bj w w wr) (λ_ _ v _=>s.size-(bh v).toNat)
 case atStart=>exact⟨0,[],[],rfl,bz _,HR,HL,bz _,bz _,co _ _ _ _,co _ _ _ _,bc _ _⟩
 case round=>
  obtain⟨i,L,a0,rfl,hi,HK,x,z,B,o,y,g⟩:=hrel
  by_cases a1:i<s.size
  .obtain⟨n,q,E,u,h3,P⟩:=aDq a1 HK.o;have HA:=A (λW=>aBE W s i a1 (by omega));have h:=x.o;rw[P]at h;rw[E,aCY]at HA;have q1:(i:Int)<(s.size:Int):=by omega
   obtain⟨p,X⟩:∃p,i+n=p:=⟨_,rfl⟩;have q2:J.wrap ((i:Int)+(n:Int))=(p:Int):=by rw[ag];omega
   rw[X]at u h3 h;obtain⟨r,f⟩:∃r,bM ((s.data.toList.drop i).take n)=r:=⟨_,rfl⟩;rw[f]at h HA;have H2:=A u;have F:=A (show(L++ [r])++eJ (s.data.toList.drop p)=R by rw[<-h];simp);have HP:=A (show i<p by omega);have g1:=g.size;have C:=A o;have N:=A y;have g2:=A g;have j:=A (And.intro z B);clear E u X q P h f o y g z B x;go_wp2_with fail;refine(HA.o _).mono ?_;rintro e w2 ⟨rfl,rfl⟩
   go_wp2_with (at_builtin;refine cV aL6 rfl _ _ rfl rfl (C.o.A6 _) ⟨w2.heap.size,0,Z⟩ 1 r rfl ?_ rfl ?_ ?_ ?_ ?_)
   .simp[aJ0]
   .have:=j.o;simp;omega
   .have:=j.o;simp;unfold bk;omega
   .simp;omega
   intro b cap w3 q f;have E:=(g2.o.alloc g1 (V #[I ae r] 21)).grown f (by simp;omega) (λk hk=>(C.o.lt k hk).1);have z:=Row.F6 (N.o.A6 (V #[I ae r] 21)) ((av (λk=>ej _=U k) _).D7 f λk e=>T e) (Row.D8 N.o C.o (by decide));have P:=A q;have u:=A z;have g3:=A E;have B:=E.size;clear q f z E
   go_wp2_with (at_builtin;refine cV aCZ rfl _ _ rfl rfl (u.o.A6 _) ⟨w3.heap.size,0,Z⟩ 1 i rfl ?_ rfl ?_ ?_ ?_ ?_)
   .simp
   .have:=j.o;simp;omega
   .have:=j.o;simp;unfold bk;omega
   .simp;omega
   intro b2 g4 w4 q f;have X:=(g3.o.alloc B (V #[i] 3)).grown f (by simp;omega) (λk hk=>(u.o.lt k hk).1);have z:=Row.F6 (P.o.A6 (V #[i] 3)) ((av (λk=>ej _=U k) _).D7 f λk e=>T e) (Row.D8 P.o u.o (by decide));have E:=A (And.intro q (And.intro z X));clear q f z X B;go_wp2_with fail;exact⟨⟨p,L++ [r],a0++ [i],by go_num,h3,H2,F,by have:=j.o;have:=HP.o;simp;omega,by have:=j.o;have:=HP.o;simp;omega,by simpa using E.o.2.1,by simpa using E.o.1,E.o.2.2⟩,by have:=HP.o;simp[bh];omega⟩
  .have q1:¬(i:Int)<(s.size:Int):=by omega
   have h:=x.o;rw[cY a1,vH,dy]at h;subst h;obtain⟨a,c,rfl⟩:=o.A7;obtain⟨b,d,rfl⟩:=y.A7;have f:=A (And.intro o g);clear o y g x;go_wp2_with fail;exact aw (v:=ao #[au a L.length c,au b a0.length d]) (by simp[ba,results244,go_sem]) rfl ⟨_,_,_,⟨_,_,_,rfl⟩,f.o.1,f.o.2⟩
section
open Go.Sort
abbrev Mem:=List UInt8×Tr
def mD(x y:Mem):Bool:=decide (eE x.1 y.1<=0)
def iE(l:List Mem):List Mem:=
 if l.length<2 then l else ek (iE (l.take (l.length/2))) (iE (l.drop (l.length/2))) mD
termination_by l.length
decreasing_by all_goals(simp_wf;omega)
def gJ{l:List Mem}(h:l.length<2):iE l=l:=by rw[iE,if_pos h]
def oQ{l:List Mem}(h:¬l.length<2):iE l=ek (iE (l.take (l.length/2))) (iE (l.drop (l.length/2))) mD:=by rw[iE,if_neg h]
def aDr(N:Nat):∀l:List Mem,l.length<=N->(iE l).Perm l:=by
 induction N with
 | zero=>intro l h;rw[gJ (by omega)]
 | succ N a=>
  intro l h
  by_cases b:l.length<2
  .rw[gJ b]
  .rw[oQ b];have d:=a (l.take (l.length/2)) (by rw[cu];omega);have c:=a (l.drop (l.length/2)) (by rw[bm];omega);refine(List.merge_perm_append ..).trans ((d.append c).trans ?_);rw[List.take_append_drop]
def aDs(a b c:Mem)(g:mD a b=O)(f:mD b c=O):mD a c=O:=by
 unfold mD at*;have g:=of_decide_eq_true g;have f:=of_decide_eq_true f;refine decide_eq_true ?_;have d:=kY a.1 b.1;have e:=kY b.1 c.1;rcases d with d|d|d
 .rcases e with e|e|e
  .have:=mQ (x:=a.1) (y:=b.1) (z:=c.1) (by omega) (by omega);omega
  .rw[<-rN e,d];decide
  .omega
 .rw[rN d];exact f
 .omega
def aDt(a b:Mem):(mD a b||mD b a)=O:=by
 unfold mD;have:=kR a.1 b.1;simp only[Bool.or_eq_true,decide_eq_true_eq];omega
def aAj(N:Nat):∀l:List Mem,l.length<=N->(iE l).Pairwise (λa b=>mD a b=O):=by
 induction N with
 | zero=>intro l h;rw[gJ (by omega),List.eq_nil_of_length_eq_zero (Nat.le_zero.1 h)];exact .nil
 | succ N d=>
  intro l h
  by_cases c:l.length<2
  .rw[gJ c]
   match l,c with
   | [],_=>exact .nil
   | [a],_=>simp
   | _::_::_,c=>simp at c;omega
  .rw[oQ c];exact List.pairwise_merge aDs aDt _ _ (d _ (by rw[cu];omega)) (d _ (by rw[bm];omega))
def aFj{a b:List Oo}(c:a.Perm b)(d:a.Pairwise (λx y=>eE x y<=0))(e:b.Pairwise (λx y=>eE x y<=0)):a=b:=by
 refine c.eq_of_pairwise (le:=λx y=>eE x y<=0) ?_ d e;intro x y _ _ g f;have:=kR x y;exact rN (by omega)
def aBR{keys:List Oo}(h:bK keys):(dC keys).Pairwise (λx y=>eE x y<=0):=by
 rw[oD h];obtain⟨d,f⟩:∃d,(qA keys h).toArray=d:=⟨_,rfl⟩;rw[f];have c:=(Sort.pdq_sorts (ltOf vV) rW d 0 d.size (Lib.bitLen d.size) O O (bz _) (af _) (T rfl)).2;have c:SortedIn (ltOf vV) 0 d.size (gM d):=c;rw[em];rw[List.pairwise_iff_getElem];intro i j hi a b;have e:=qM d;have:=c i j (bz _) b (by rw[<-e];simpa using a);rw[getElem!_pos (gM d) i (by simpa using hi),getElem!_pos (gM d) j (by simpa using a)]at this;unfold ltOf vV at this;have k:=of_decide_eq_false this;have g:=kR ((gM d)[i]'(by simpa using hi)).1 ((gM d)[j]'(by simpa using a)).1;simp only[Array.getElem_toList];omega
def aLn{keys:List Oo}{a:List Tr}(h:bK keys)(d:keys.Nodup)(n:a.length=keys.length):(iE (keys.zip a)).map (·.1)=dC keys/\(iE (keys.zip a)).map (·.2)=besides keys a:=by
 have f:=aDr (keys.zip a).length (keys.zip a) (af _);have l:=aAj (keys.zip a).length (keys.zip a) (af _)
 have g:(iE (keys.zip a)).map (·.1)=dC keys:=by
  refine aFj ?_ ?_ (aBR h)
  .refine(f.map (·.1)).trans ?_;have:(keys.zip a).map (·.1)=keys:=List.map_fst_zip (by omega);rw[this];exact(fL keys).symm
  .rw[em];exact l.imp λc=>of_decide_eq_true c
 refine⟨g,?_⟩;unfold besides;rw[<-g,List.map_map];refine List.map_congr_left λm j=>?_
 have e:m∈keys.zip a:=f.mem_iff.1 j;obtain⟨i,hi,b⟩:=List.mem_iff_getElem.1 e;rw[List.getElem_zip]at b;have k:keys[i]?=U m.1:=by rw[cv (by simp at hi;omega),<-b]
 show m.2=a.getD (keys.idxOf m.1) .null
 rw[aEQ d k,List.getD_eq_getElem?_getD,cv (by simp at hi;omega),<-b];rfl
end
