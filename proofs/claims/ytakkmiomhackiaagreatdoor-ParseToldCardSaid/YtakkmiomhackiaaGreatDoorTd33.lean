/-
  The program, one part of its walk. Conditions: none.
-/
import Derived.Test.YtakkmiomhackiaaGreatDoorTd32
set_option linter.all false
set_option maxRecDepth 100000
set_option maxHeartbeats 16000000
open Go.Proofs.Tryz
open Bool renaming and_eq_true->ek,false->J,true->I
open Except renaming error->ai,pure->cr
open Go renaming World->ac,bodyPost_ret->bh,results->bj
open Go.Ending renaming returned->cz
open Go.IntKind renaming i64->H,wrap_i64->au
open Go.Proofs.Tryz renaming results90->bk
open Go.Proofs.YtakkmiomhackiaaGreatDoor.Fr renaming list->bx,object->ag
open Go.Proofs.YtakkmiomhackiaaGreatDoor.Lx renaming B0->dm,F5->aj
open Go.Proofs.YtakkmiomhackiaaGreatDoor.Pc renaming bad->Z,cut->E,ok->X
open Go.Proofs.YtakkmiomhackiaaGreatDoor.Ps renaming B0->dl,C5->cj,C7->ae,D0->dx,D4->co,D7->dp,D9->bs
open Go.Proofs.YtakkmiomhackiaaGreatDoor.Rr renaming C7->ah,D8->ee,E5->az
open Go.Proofs.YtakkmiomhackiaaGreatDoor.St renaming digit->V,escape->ak,letterU->bu,slash->bc,within->O
open Go.Proofs.YtakkmiomhackiaaGreatDoor.Sz renaming C3->ej
open Go.Proofs.YtakkmiomhackiaaGreatDoor.Tr renaming object->dj
open Go.Value renaming bool->ar,int->R,string->cw,tuple->ao
open List renaming append_inj'->ck,append_nil->bz,concat_eq_append->bp,dropLast_concat->dh,drop_drop->bg,drop_left->eh,drop_succ_cons->ba,drop_zero->dt,eq_nil_or_concat->bm,foldlM_cons->dq,getLast?_map->cg,length_append->aw,length_cons->Y,length_drop->af,length_nil->cu,map_append->av,map_singleton->di,takeWhile_sublist->dw,take_left->ei,take_succ_cons->ct
open Nat renaming add_assoc->Q,add_sub_cancel->bw,le_refl->cv,zero_add->du,zero_le->dv
open Option renaming map_some->dy,some->G
open Or renaming inl->K,inr->U
open UInt8.toNat renaming inj->em
namespace Go.Proofs.YtakkmiomhackiaaGreatDoor
open Go.RowKit
def Ps.C8(p:Ps)(x:Lx):Ps:={p with lex:=x,place:=x.place}
theorem eB(p:Ps){x y:Lx}{c:UInt8}(h:x.B4 c=⟨y,[],0⟩)(d:x.place<16777216)(hi:y.isIn=I)(e:y.start<x.place):(p.C8 x).B0 po c=.ok (p.C8 {y with place:=x.place+1}):=by
 have a:¬x.place=16777216:=by omega
 have b:¬x.place+1-y.start=1:=by omega
 simp[dl,dm,Ps.C8,a,h,co,Lx.F0,hi,b,pure,cr]
theorem eW(p:Ps){x y:Lx}{c:UInt8}{no:Nat}(h:x.B4 c=⟨y,[],no⟩)(e:x.place<16777216)(d:no≠0)(a:no≠41):(p.C8 x).B0 po c=ai (nG no,x.place):=by
 have b:¬x.place=16777216:=by omega
 simp[dl,dm,Ps.C8,b,h,co,d,a,pure,cr]
theorem uN{p q:Ps}{c:UInt8}{t:List UInt8}(h:p.B0 po c=.ok q):p.D7 po (c::t)=q.D7 po t:=by
 unfold dp;rw[dq,h];rfl
theorem gU{p:Ps}{c:UInt8}{t:List UInt8}{e:Nat×Nat}(h:p.B0 po c=ai e):p.D7 po (c::t)=ai e:=by
 unfold dp;rw[dq,h];rfl
def Goes(p:Ps)(l:List UInt8):Pc (Ps×List UInt8)->Prop
 | .cut=>∃q,p.D7 po l=.ok q/\q.C0 po=ai (95,p.place+l.length)
 | .bad no a=>p.D7 po l=ai (no,a)
 | .ok x=>p.D7 po l=x.1.D7 po x.2/\(eY p->eY x.1)
theorem Goes.C9{p q:Ps}{c:UInt8}{t:List UInt8}(h:p.B0 po c=.ok q)(d:q.place=p.place+1):∀{o:Pc (Ps×List UInt8)},Goes q t o->Goes p (c::t) o
 | .cut,⟨r,b,e⟩=>⟨r,by rw[uN h];exact b,by rw[e,d,Y];congr 2;omega⟩
 | .bad no a,b=>by show p.D7 po _=_;rw[uN h];exact b
 | .ok x,b=>⟨by rw[uN h];exact b.1,λd=>b.2 (d.B0 h)⟩
theorem Goes.Q2{p q:Ps}{l r:List UInt8}(h:Goes p l (X (q,r)))(c:q.place+r.length=p.place+l.length):∀{o:Pc (Ps×List UInt8)},Goes q r o->Goes p l o
 | .cut,⟨x,b,d⟩=>⟨x,h.1.trans b,by rw[d,c]⟩
 | .bad no a,b=>h.1.trans b
 | .ok x,b=>⟨h.1.trans b.1,λc=>b.2 (h.2 c)⟩
theorem jT(p:Ps){x:Lx}(hi:x.isIn=I)(a:bI x.number=J):Goes (p.C8 x) [] E:=by
 refine⟨p.C8 x,rfl,?_⟩;simp[Ps.C0,Lx.C6,Ps.C8,hi,a,co,nG,pure,cr]
abbrev aI(st:St)(P s:Nat)(held S:List UInt8)(dg cd hi:Nat):Lx:=⟨P,st,I,s,[],0,held,S,dg,cd,hi⟩
theorem aCk{P s:Nat}{h:UInt8}{t S:List UInt8}{dg cd hi:Nat}{c:UInt8}(a:(aC h).D5 (h::t).length c=I):
 (aI O P s (h::t) S dg cd hi).B4 c=⟨aI O P s (if(h::t).length+1=(aC h).wide then []else(h::t)++ [c]) (S++ [c]) dg cd hi,[],0⟩:=by
 show bW _ c=_
 unfold bW;simp only[reduceCtorEq,false_and,if_false]
 have:aK (h::t) c=G (if(h::t).length+1=(aC h).wide then []else(h::t)++ [c]):=by
  unfold aK;simp only;rw[if_pos a];split<;>rfl
 rw[this]
theorem uC{P s:Nat}{h:UInt8}{t S:List UInt8}{dg cd hi:Nat}{c:UInt8}(a:(aC h).D5 (h::t).length c=J):
 (aI O P s (h::t) S dg cd hi).B4 c=⟨aI O P s (h::t) S dg cd hi,[],90⟩:=by
 show bW _ c=_
 unfold bW;simp only[reduceCtorEq,false_and,if_false]
 have:aK (h::t) c=none:=by
  unfold aK;simp only;rw[a];rfl
 rw[this]
theorem zS(p:Ps)(b s dg cd:Nat)(h:UInt8)(o:s<b):∀(m:Nat)(t l S:List UInt8),(aC h).wide=(h::t).length+(m+1)->b+(h::t).length+l.length<=16777216->
 Goes (p.C8 (aI O (b+(h::t).length) s (h::t) S dg cd 0)) l
  (match cS (aC h) (m+1) (h::t).length l with
   | .cut=>E
   | .bad no a=>Z no (b+a)
   | .ok n=>X (p.C8 (aI O (b+n) s [] (S++l.take (m+1)) dg cd 0),l.drop (m+1)))
 | m,t,[],S,_,_=>jT p rfl rfl
 | m,t,c::l,S,k,f=>by
  have e:(c::l).length=l.length+1:=rfl;rw[e]at f;rw[cS]
  by_cases d:(aC h).D5 (h::t).length c=I
  .rw[if_pos d];have i:=eB p (aCk (P:=b+(h::t).length) (s:=s) (S:=S) (dg:=dg) (cd:=cd) (hi:=0) d) (show b+(h::t).length<16777216 by omega) rfl (show s<b+(h::t).length by omega);refine Goes.C9 i rfl ?_;cases m with
   | zero=>
    rw[if_pos (by omega),cS,ct,List.take_zero,ba,dt];exact⟨rfl,id⟩
   | succ m=>
    rw[if_neg (by omega)];have g:=zS p b s dg cd h o m (t++ [c]) l (S++ [c]) (by simp at k⊢;omega) (by simp at f⊢;omega);have j:(h::(t++ [c])).length=(h::t).length+1:=by simp
    rw[j]at g;rw[ct,ba,show S++c::l.take (m+1)=S++ [c]++l.take (m+1) by simp];exact g
  .rw[if_neg d];exact gU (eW p (uC (by simpa using d)) (show b+(h::t).length<16777216 by omega) (by decide) (by decide))
theorem aAP{P s:Nat}{S:List UInt8}{dg cd hi:Nat}{c:UInt8}(d:c≠34)(a:c≠92)(e:¬c.toNat<32)(b:(aC c).wide≠0):
 (aI O P s [] S dg cd hi).B4 c=⟨aI O P s (if 1<(aC c).wide then [c]else []) (S++ [c]) dg cd hi,[],0⟩:=by
 show bW _ c=_
 unfold bW;rw[if_neg (λh=>d h.2),if_neg (λh=>a h.2),if_neg (λh=>e h.2)]
 have:aK [] c=G (if 1<(aC c).wide then [c]else []):=by
  unfold aK;simp only;rw[if_neg b];split<;>rfl
 show(match aK [] c with|none=>_|some h=>_)=_
 rw[this]
theorem sR{P s:Nat}{S:List UInt8}{dg cd hi:Nat}{c:UInt8}(d:c≠34)(a:c≠92)(e:¬c.toNat<32)(b:(aC c).wide=0):
 (aI O P s [] S dg cd hi).B4 c=⟨aI O P s [] S dg cd hi,[],90⟩:=by
 show bW _ c=_
 unfold bW;rw[if_neg (λh=>d h.2),if_neg (λh=>a h.2),if_neg (λh=>e h.2)]
 have:aK [] c=none:=by
  unfold aK;simp only;rw[if_pos b]
 show(match aK [] c with|none=>_|some h=>_)=_
 rw[this]
theorem aGF(p:Ps)(P s dg cd:Nat)(c:UInt8)(l S:List UInt8)(f:c≠34)(e:c≠92)(g:¬c.toNat<32)(j:s<P)(k:P+(c::l).length<=16777216):
 Goes (p.C8 (aI O P s [] S dg cd 0)) (c::l)
  (match fD (c::l)with
   | .cut=>E
   | .bad no a=>Z no (P+a)
   | .ok n=>X (p.C8 (aI O (P+n) s [] (S++(c::l).take n) dg cd 0),l.drop (n-1))):=by
 rw[Y]at k;unfold fD;simp only
 by_cases b:(aC c).wide=0
 .rw[if_pos b];exact gU (eW p (sR f e g b) (show P<16777216 by omega) (by decide) (by decide))
 .rw[if_neg b];refine Goes.C9 (eB p (aAP f e g b) (show P<16777216 by omega) rfl j) rfl ?_;obtain⟨m,r⟩:∃m,(aC c).wide-1=m:=⟨_,rfl⟩;rw[r];cases m with
  | zero=>
   rw[if_neg (by omega),cS];exact⟨rfl,id⟩
  | succ m=>
   rw[if_pos (by omega)];have:=zS p P s dg cd c j m [] l (S++ [c]) (by simp;omega) (by simp;omega)
   have o:∀n,cS (aC c) (m+1) 1 l=X n->n=m+1+1:=by
    have:∀(m i n:Nat)(l:List UInt8),cS (aC c) m i l=X n->n=i+m:=by
     intro m
     induction m with
     | zero=>intro i n l h;cases l<;>(unfold cS at h;cases h;rfl)
     | succ m t=>
      intro i n l h;cases l with
      | nil=>unfold cS at h;cases h
      | cons d u=>
       unfold cS at h;split at h
       .have:=t _ _ _ h;omega
       .cases h
    intro n h;have:=this _ _ _ _ h;omega
   simp only[Y,cu,du]at this;revert this;cases q:cS (aC c) (m+1) 1 l with
   | cut=>exact id
   | bad no a=>exact id
   | ok n=>
    have:=o n q;subst this;intro h
    show Goes _ l (X (p.C8 (aI O (P+(m+1+1)) s [] (S++(c::l).take (m+1+1)) dg cd 0),l.drop (m+1)))
    rw[ct,show S++c::l.take (m+1)=S++ [c]++l.take (m+1) by simp];exact h
theorem sS(p:Ps)(b s:Nat)(f:Bool)(hi:Nat)(j:f=decide (hi≠0))(S:List UInt8)(x:s<b):∀(m n:Nat)(l:List UInt8),m<=3->b+(3-m)+l.length<=16777216->
 Goes (p.C8 (aI V (b+(3-m)) s [] S (3-m) n hi)) l
  (match dI f (m+1) n l with
   | .cut=>E
   | .bad no a=>Z no (b+a)
   | .ok v=>X (p.C8 {(aI V b s [] S 4 v hi).F5 with place:=b+4},l.drop (m+1)))
 | m,n,[],_,_=>jT p rfl rfl
 | m,n,c::l,z,w=>by
  rw[Y]at w;rw[dI];have d:(aI V (b+(3-m)) s [] S (3-m) n hi).B4 c=dC (aI V (b+(3-m)) s [] S (3-m) n hi) c:=rfl;cases o:hexOf c with
  | none=>
   have i:dC (aI V (b+(3-m)) s [] S (3-m) n hi) c=⟨aI V (b+(3-m)) s [] S (3-m) n hi,[],if f then 93 else 92⟩:=by
    unfold dC;rw[o,j]
    by_cases h:hi=0<;>simp[h]
   have:=gU (t:=l) (eW p (d.trans i) (show b+(3-m)<16777216 by omega) (by cases f<;>decide) (by cases f<;>decide));refine this.trans ?_;cases f<;>rfl
  | some v=>
   simp only
   have g:(aI V (b+(3-m)) s [] S (3-m) n hi).M5 v=iG f (3-m) n v:=by
    unfold Lx.M5 iG;rw[j]
    by_cases h:hi=0
    .subst h;simp
    .simp only[h,not_false_eq_true,true_and,decide_true,if_true,ne_eq]
     by_cases q:3-m=0
     .simp[q]
     .by_cases r:3-m=1
      .simp[r]
      .simp[q,r]
   by_cases k:iG f (3-m) n v=I
   .rw[if_pos k]
    have i:dC (aI V (b+(3-m)) s [] S (3-m) n hi) c=⟨aI V (b+(3-m)) s [] S (3-m) n hi,[],93⟩:=by
     unfold dC;rw[o];simp only;rw[g,if_pos k]
    exact gU (eW p (d.trans i) (show b+(3-m)<16777216 by omega) (by decide) (by decide))
   .rw[if_neg k]
    have i:dC (aI V (b+(3-m)) s [] S (3-m) n hi) c=⟨if(3-m)+1=4 then(aI V (b+(3-m)) s [] S (3-m+1) (n*16+v) hi).F5 else aI V (b+(3-m)) s [] S (3-m+1) (n*16+v) hi,[],0⟩:=by
     unfold dC;rw[o];simp only;rw[g,if_neg k]
    rw[Nat.mul_comm 16 n];cases m with
    | zero=>
     rw[if_pos rfl]at i;refine Goes.C9 (eB p (d.trans i) (show b+3<16777216 by omega) ?_ ?_) rfl ?_
     .unfold aj;split
      .rfl
      .split<;>rfl
     .have:(aI V (b+(3-0)) s [] S (3-0+1) (n*16+v) hi).F5.start=s:=by
       unfold aj;split
       .rfl
       .split<;>rfl
      rw[this]
      show s<b+3
      omega
     .rw[dI];simp only[ba,dt]
      have e:({(aI V (b+(3-0)) s [] S (3-0+1) (n*16+v) hi).F5 with place:=b+(3-0)+1}:Lx)={(aI V b s [] S 4 (n*16+v) hi).F5 with place:=b+4}:=by
       unfold aj;simp only;split
       .rfl
       .split<;>rfl
      show Goes (p.C8 {(aI V (b+(3-0)) s [] S (3-0+1) (n*16+v) hi).F5 with place:=b+(3-0)+1}) l _
      rw[e];exact⟨rfl,id⟩
    | succ m=>
     rw[if_neg (by omega)]at i;refine Goes.C9 (eB p (d.trans i) (show b+(3-(m+1))<16777216 by omega) rfl (show s<b+(3-(m+1)) by omega)) rfl ?_;have y:=sS p b s f hi j S x m (n*16+v) l (by omega) (by omega);rw[ba];have u:3-(m+1)+1=3-m:=by omega
     rw[u]
     show Goes (p.C8 (aI V (b+(3-(m+1))+1) s [] S (3-m) (n*16+v) hi)) l _
     rw[Q,u];exact y
def aJ1(p:Ps)(P s:Nat)(S:List UInt8)(l:List UInt8):Pc (List UInt8×Nat)->Pc (Ps×List UInt8)->Prop
 | .cut,o=>o=E
 | .bad no a,o=>o=Z no (P+a)
 | .ok x,o=>1<=x.2/\x.2<=l.length/\∃dg cd,o=X (p.C8 (aI O (P+x.2) s [] (S++x.1) dg cd 0),l.drop x.2)
theorem nX{a:Bool}:∀{m n v:Nat}{l:List UInt8},dI a m n l=X v->m<=l.length
 | 0,_,_,_,_=>dv _
 | m+1,_,_,[],h=>by unfold dI at h;cases h
 | m+1,n,v,c::l,h=>by
  unfold dI at h;cases b:hexOf c with
  | none=>rw[b]at h;cases h
  | some x=>
   rw[b]at h;simp only at h;split at h
   .cases h
   .have:=nX h;rw[Y];omega
theorem aCl{f:Form}:∀{m i n:Nat}{l:List UInt8},cS f m i l=X n->n=i+m/\m<=l.length
 | 0,_,_,_,h=>by unfold cS at h;cases h;exact⟨rfl,dv _⟩
 | m+1,_,_,[],h=>by unfold cS at h;cases h
 | m+1,i,n,c::l,h=>by
  unfold cS at h;split at h
  .obtain⟨b,a⟩:=aCl h;rw[Y];omega
  .cases h
theorem aCm{c:UInt8}{l:List UInt8}{n:Nat}(h:fD (c::l)=X n):1<=n/\n<=(c::l).length:=by
 unfold fD at h;simp only at h;split at h
 .cases h
 .obtain⟨b,a⟩:=aCl h;rw[Y];omega
theorem yC{P s:Nat}{S:List UInt8}{dg cd:Nat}:(aI ak P s [] S dg cd 0).B4 117=⟨aI V P s [] S 0 0 0,[],0⟩:=rfl
theorem yD{P s:Nat}{S:List UInt8}{dg cd:Nat}{c b:UInt8}(h:c≠117)(a:cO c=G b):(aI ak P s [] S dg cd 0).B4 c=⟨aI O P s [] (S++ [b]) dg cd 0,[],0⟩:=by
 show dK _ c=_
 unfold dK;rw[if_neg h,a]
theorem uD{P s:Nat}{S:List UInt8}{dg cd:Nat}{c:UInt8}(h:c≠117)(a:cO c=none):(aI ak P s [] S dg cd 0).B4 c=⟨aI ak P s [] S dg cd 0,[],92⟩:=by
 show dK _ c=_
 unfold dK;rw[if_neg h,a]
theorem aAQ{P s:Nat}{S:List UInt8}{dg cd hi:Nat}:(aI bc P s [] S dg cd hi).B4 92=⟨aI bu P s [] S dg cd hi,[],0⟩:=rfl
theorem wI{P s:Nat}{S:List UInt8}{dg cd hi:Nat}{c:UInt8}(h:c≠92):(aI bc P s [] S dg cd hi).B4 c=⟨aI bc P s [] S dg cd hi,[],93⟩:=by
 show fA _ c=_
 unfold fA;rw[if_neg h]
theorem wJ{P s:Nat}{S:List UInt8}{dg cd hi:Nat}:(aI bu P s [] S dg cd hi).B4 117=⟨aI V P s [] S 0 0 hi,[],0⟩:=rfl
theorem sT{P s:Nat}{S:List UInt8}{dg cd hi:Nat}{c:UInt8}(h:c≠117):(aI bu P s [] S dg cd hi).B4 c=⟨aI bu P s [] S dg cd hi,[],93⟩:=by
 show dO _ c=_
 unfold dO;rw[if_neg h]
theorem aIJ(p:Ps)(P s n dg cd:Nat)(S l:List UInt8)(g:n≠0)(q:s<P)(f:P+6+l.length<=16777216):
 ∃o,Goes (p.C8 (aI bc (P+6) s [] S dg cd n)) l o/\match xX n l with
  | .cut=>o=E
  | .bad no a=>o=Z no (P+a)
  | .ok x=>x.2=12/\6<=l.length/\∃dg cd,o=X (p.C8 (aI O (P+12) s [] (S++x.1) dg cd 0),l.drop 6):=by
 cases l with
 | nil=>exact⟨E,jT p rfl rfl,rfl⟩
 | cons c t=>
  rw[Y]at f;unfold xX;simp only
  by_cases h:c=92
  .subst h;rw[if_pos rfl];have e:=eB p (aAQ (P:=P+6) (s:=s) (S:=S) (dg:=dg) (cd:=cd) (hi:=n)) (show P+6<16777216 by omega) rfl (show s<P+6 by omega);cases t with
   | nil=>exact⟨E,Goes.C9 e rfl (jT p rfl rfl),rfl⟩
   | cons d u=>
    rw[Y]at f;simp only
    by_cases b:d=117
    .subst b;rw[if_pos rfl];have m:=eB p (wJ (P:=P+6+1) (s:=s) (S:=S) (dg:=dg) (cd:=cd) (hi:=n)) (show P+6+1<16777216 by omega) rfl (show s<P+6+1 by omega);have j:=sS p (P+8) s I n (by simp[g]) S (by omega) 3 0 u (cv _) (by omega);refine⟨_,Goes.C9 e rfl (Goes.C9 m rfl j),?_⟩;cases k:dI I (3+1) 0 u with
     | cut=>rfl
     | bad no a=>show Z no (P+8+a)=Z no (P+(8+a));rw[Q]
     | ok v=>
      have:=nX k;refine⟨rfl,by simp;omega,4,v,?_⟩
      show X _=_
      have i:{(aI V (P+8) s [] S 4 v n).F5 with place:=P+8+4}=aI O (P+12) s [] (S++aS (65536+(n-55296)*1024+v-56320)) 4 v 0:=by
       unfold aj;rw[if_pos g]
      rw[i];simp
    .rw[if_neg b];exact⟨_,Goes.C9 (o:=Z 93 (P+6+1)) e rfl (gU (eW p (sT b) (show P+6+1<16777216 by omega) (by decide) (by decide))),rfl⟩
  .rw[if_neg h];exact⟨Z 93 (P+6),gU (eW p (wI h) (show P+6<16777216 by omega) (by decide) (by decide)),rfl⟩
theorem aIK(p:Ps)(P s dg cd:Nat)(S l:List UInt8)(r:s<P)(q:P+1+l.length<=16777216):
 ∃o,Goes (p.C8 (aI ak (P+1) s [] S dg cd 0)) l o/\match lX l with
  | .cut=>o=E
  | .bad no a=>o=Z no (P+a)
  | .ok x=>2<=x.2/\x.2<=l.length+1/\∃dg cd,o=X (p.C8 (aI O (P+x.2) s [] (S++x.1) dg cd 0),l.drop (x.2-1)):=by
 cases l with
 | nil=>exact⟨E,jT p rfl rfl,rfl⟩
 | cons c t=>
  rw[Y]at q;unfold lX;simp only
  by_cases h:c=117
  .subst h;rw[if_pos rfl];have e:=eB p (yC (P:=P+1) (s:=s) (S:=S) (dg:=dg) (cd:=cd)) (show P+1<16777216 by omega) rfl (show s<P+1 by omega);have d:=sS p (P+2) s J 0 rfl S (by omega) 3 0 t (cv _) (by omega);cases f:dI J (3+1) 0 t with
   | cut=>rw[f]at d;exact⟨E,Goes.C9 e rfl d,rfl⟩
   | bad no a=>rw[f]at d;exact⟨_,Goes.C9 e rfl d,by show Z no (P+2+a)=Z no (P+(2+a));rw[Q]⟩
   | ok n=>
    rw[f]at d;have w:=nX f
    show ∃o,_/\match(if n<55296\/56319<n then X (aS n,6)else xX n (t.drop 4))with| .cut=>_| .bad no a=>_| .ok x=>_
    by_cases k:n<55296\/56319<n
    .rw[if_pos k]
     have i:{(aI V (P+2) s [] S 4 n 0).F5 with place:=P+2+4}=aI O (P+6) s [] (S++aS n) 4 n 0:=by
      unfold aj;rw[if_neg (λh=>h rfl),if_neg (by show ¬(55296<=n/\n<=56319);omega)]
     simp only[i]at d;exact⟨_,Goes.C9 e rfl d,(show 2<=6 by decide),by simp;omega,4,n,by simp⟩
    .rw[if_neg k]
     have i:{(aI V (P+2) s [] S 4 n 0).F5 with place:=P+2+4}=aI bc (P+6) s [] S 4 n n:=by
      unfold aj;rw[if_neg (λh=>h rfl),if_pos (by show 55296<=n/\n<=56319;omega)]
     simp only[i]at d;obtain⟨o,m,u⟩:=aIJ p P s n 4 n S (t.drop 4) (by omega) r (by simp;omega);refine⟨o,Goes.C9 e rfl (Goes.Q2 d ?_ m),?_⟩
     .show P+6+(t.drop 4).length=P+1+1+t.length
      rw[af];omega
     .revert u;cases xX n (t.drop 4)with
      | cut=>exact id
      | bad no a=>exact id
      | ok x=>
       rintro⟨g,v,dg,cd,h⟩;rw[af]at v;refine⟨by omega,by simp;omega,dg,cd,?_⟩;rw[h,g];simp
  .rw[if_neg h];cases j:cO c with
   | none=>exact⟨Z 92 (P+1),gU (eW p (uD h j) (show P+1<16777216 by omega) (by decide) (by decide)),rfl⟩
   | some b=>
    refine⟨X _,Goes.C9 (eB p (yD (P:=P+1) (s:=s) (S:=S) (dg:=dg) (cd:=cd) h j) (show P+1<16777216 by omega) rfl (show s<P+1 by omega)) rfl (o:=X (p.C8 (aI O (P+1+1) s [] (S++ [b]) dg cd 0),t)) ⟨rfl,id⟩,cv _,by simp,dg,cd,rfl⟩
theorem aD0(p:Ps)(P s dg cd:Nat)(S:List UInt8)(c:UInt8)(l:List UInt8)(j:c≠34)(i:s<P)(m:P+(c::l).length<=16777216):
 ∃o,Goes (p.C8 (aI O P s [] S dg cd 0)) (c::l) o/\aJ1 p P s S (c::l) (gN (c::l)) o:=by
 unfold gN;simp only;have g:=m;rw[Y]at m
 by_cases b:c=92
 .subst b;rw[if_pos rfl];have t:(p.C8 (aI O P s [] S dg cd 0)).B0 po 92=.ok (p.C8 {(aI ak P s [] S dg cd 0)with place:=P+1}):=eB p rfl (show P<16777216 by omega) rfl i;obtain⟨o,u,v⟩:=aIK p P s dg cd S l i (by omega);refine⟨o,Goes.C9 t rfl u,?_⟩;revert v;cases lX l with
  | cut=>exact id
  | bad no a=>exact id
  | ok x=>
   rintro⟨b,z,dg,cd,h⟩;refine⟨by omega,by rw[Y];omega,dg,cd,?_⟩;rw[h];congr 2;obtain⟨A,q⟩:=x;obtain⟨k,rfl⟩:∃k,q=k+1:=⟨q-1,by simp only at b;omega⟩;rfl
 .rw[if_neg b]
  by_cases e:c.toNat<32
  .rw[if_pos e];refine⟨Z 91 P,gU (eW p (x:=aI O P s [] S dg cd 0) (y:=aI O P s [] S dg cd 0) (no:=91) ?_ (show P<16777216 by omega) (by decide) (by decide)),rfl⟩
   show bW _ c=_
   unfold bW;rw[if_neg (λh=>j h.2),if_neg (λh=>b h.2),if_pos ⟨rfl,e⟩]
  .rw[if_neg e];have d:=aGF p P s dg cd c l S j b e i g;cases f:fD (c::l)with
   | cut=>rw[f]at d;exact⟨E,d,rfl⟩
   | bad no a=>rw[f]at d;exact⟨_,d,by show Z no (P+a)=Z no (P+(0+a));rw[du]⟩
   | ok n=>
    rw[f]at d;obtain⟨r,w⟩:=aCm f;refine⟨_,d,r,w,dg,cd,?_⟩;congr 2;obtain⟨k,rfl⟩:∃k,n=k+1:=⟨n-1,by omega⟩;rfl
theorem zT(p:Ps)(b s:Nat)(A:s<=b):∀(N:Nat)(l S:List UInt8)(i dg cd:Nat),l.length<=N->1<=i->b+i+l.length<=16777216->
 match eK S i l with
  | .cut=>Goes (p.C8 (aI O (b+i) s [] S dg cd 0)) l E
  | .bad no a=>Goes (p.C8 (aI O (b+i) s [] S dg cd 0)) l (Z no (b+a))
  | .ok x=>i<x.2/\x.2<=i+l.length/\∃e d,Goes (p.C8 (aI O (b+i) s [] S dg cd 0)) l (X (p.C8 (aI O (b+x.2-1) s [] x.1 e d 0),34::l.drop (x.2-i)))
 | N,[],S,i,dg,cd,_,_,_=>by
  rw[eK];exact jT p rfl rfl
 | 0,c::l,_,_,_,_,h,_,_=>by simp at h
 | N+1,c::l,S,i,dg,cd,C,hi,u=>by
  rw[eK]
  by_cases h:c=34
  .subst h;rw[if_pos rfl];refine⟨Nat.lt_succ_self _,by rw[Y];show i+1<=_;omega,dg,cd,?_⟩
   show Goes _ _ (X (p.C8 (aI O (b+(i+1)-1) s [] S dg cd 0),34::(34::l).drop (i+1-i)))
   rw[Nat.add_sub_cancel_left,<-Q,bw];exact⟨rfl,id⟩
  .rw[if_neg h];obtain⟨o,q,r⟩:=aD0 p (b+i) s dg cd S c l h (by omega) u;revert r;cases P:gN (c::l)with
   | cut=>rintro rfl;exact q
   | bad no a=>rintro rfl;show Goes _ _ (Z no (b+(i+a)));rw[<-Q];exact q
   | ok x=>
    rintro⟨z,w,e,d,rfl⟩;obtain⟨t,v⟩:=x;obtain⟨k,rfl⟩:∃k,v=k+1:=⟨v-1,by simp only at z;omega⟩;simp only[Y]at w;rw[Y]at C u;simp only[bw]
    have g:Goes (p.C8 (aI O (b+i) s [] S dg cd 0)) (c::l) (X (p.C8 (aI O (b+(i+(k+1))) s [] (S++t) e d 0),l.drop k)):=by
     rw[<-Q];exact q
    have f:b+(i+(k+1))+(l.drop k).length=b+i+(c::l).length:=by rw[af,Y];omega
    have B:=zT p b s A N (l.drop k) (S++t) (i+(k+1)) e d (by rw[af];omega) (by omega) (by rw[af];omega);revert B;cases eK (S++t) (i+(k+1)) (l.drop k)with
    | cut=>exact λh=>Goes.Q2 g f h
    | bad no a=>exact λh=>Goes.Q2 g f h
    | ok y=>
     rintro⟨F,D,j,n,h⟩;rw[af]at D;refine⟨by omega,by rw[Y];omega,j,n,?_⟩;have:=Goes.Q2 g f h;rw[bg]at this;obtain⟨m,r⟩:∃m,y.2-i=m+1:=⟨y.2-i-1,by omega⟩;rw[r,ba];rw[show k+(y.2-(i+(k+1)))=m by omega]at this;exact this
section
theorem wV(k n:Nat)(l:List UInt8):kU (k+n) l=(k+(kU n l).1,(kU n l).2):=by
 cases l with
 | nil=>rfl
 | cons c t=>
  unfold kU;simp only
  by_cases h:c=101\/c=69
  .rw[if_pos h,if_pos h]
   by_cases a:cF (t.drop (iT t))=I
   .rw[if_pos a,if_pos a];simp only[Q]
   .rw[if_neg a,if_neg a];simp only[Q]
  .rw[if_neg h,if_neg h]
theorem rQ(k n:Nat)(l:List UInt8):eF (k+n) l=(k+(eF n l).1,(eF n l).2):=by
 cases l with
 | nil=>rfl
 | cons c t=>
  unfold eF;simp only
  by_cases h:c=46
  .rw[if_pos h,if_pos h]
   by_cases a:cF t=I
   .rw[if_pos a,if_pos a,<-wV];simp only[Q]
   .rw[if_neg a,if_neg a];simp only[Q]
  .rw[if_neg h,if_neg h,wV]
theorem rR(k n:Nat)(l:List UInt8):eT (k+n) l=(k+(eT n l).1,(eT n l).2):=by
 cases l with
 | nil=>rfl
 | cons c t=>
  unfold eT;simp only
  by_cases h:isD c=I
  .rw[if_pos h,if_pos h]
   by_cases a:c=48
   .rw[if_pos a,if_pos a,Q,rQ]
   .rw[if_neg a,if_neg a,Q,rQ]
  .rw[if_neg h,if_neg h]
section
variable {s:ByteArray} {i:Nat}
theorem aI2(h:i<s.size)(a:s[i]=45):(i+(fJ (s.data.toList.drop i)).1,(fJ (s.data.toList.drop i)).2)=eT (i+1) (s.data.toList.drop (i+1)):=by
 rw[rR,aZ h,a];rfl
theorem aGV(h:i<s.size)(a:s[i]≠45):(i+(fJ (s.data.toList.drop i)).1,(fJ (s.data.toList.drop i)).2)=eT i (s.data.toList.drop i):=by
 have:=rR i 0 (s.data.toList.drop i);rw[Nat.add_zero]at this;rw[this,aZ h];unfold fJ;simp only;rw[if_neg a]
theorem aI3(h:cF (s.data.toList.drop i)=J)(n:Nat):eT n (s.data.toList.drop i)=(n,J):=by
 by_cases hi:i<s.size
 .rw[aZ hi]at h⊢;have h:isD s[i]=J:=h;unfold eT;simp only;rw[if_neg (by rw[h];decide)]
 .rw[dA hi];rfl
theorem aEf(h:i<s.size)(a:s[i]=48)(n:Nat):eT n (s.data.toList.drop i)=eF (n+1) (s.data.toList.drop (i+1)):=by
 rw[aZ h,a];rfl
theorem aEg(h:i<s.size)(a:cF (s.data.toList.drop i)=I)(b:s[i]≠48)(n:Nat):eT n (s.data.toList.drop i)=eF (n+over (s.data.toList.drop i)) (s.data.toList.drop (i+over (s.data.toList.drop i))):=by
 rw[<-bg,aZ h]at*;have a:isD s[i]=I:=a;unfold eT;simp only;rw[if_pos a,if_neg b]
theorem aCv(h:∀h:i<s.size,s[i]≠46)(n:Nat):eF n (s.data.toList.drop i)=kU n (s.data.toList.drop i):=by
 by_cases hi:i<s.size
 .rw[aZ hi];unfold eF;simp only;rw[if_neg (h hi)]
 .rw[dA hi];rfl
theorem aGW(h:i<s.size)(a:s[i]=46)(b:cF (s.data.toList.drop (i+1))=J)(n:Nat):eF n (s.data.toList.drop i)=(n+1,J):=by
 rw[aZ h,a];unfold eF;simp only;rw[if_pos trivial,if_neg (by rw[b];decide)]
theorem aGX(h:i<s.size)(a:s[i]=46)(b:cF (s.data.toList.drop (i+1))=I)(n:Nat):eF n (s.data.toList.drop i)=kU (n+1+over (s.data.toList.drop (i+1))) (s.data.toList.drop (i+1+over (s.data.toList.drop (i+1)))):=by
 rw[<-bg (i:=over (s.data.toList.drop (i+1))),aZ h,a];unfold eF;simp only;rw[if_pos trivial,if_pos b]
theorem aI4(h:∀h:i<s.size,s[i]≠101/\s[i]≠69)(n:Nat):kU n (s.data.toList.drop i)=(n,I):=by
 by_cases hi:i<s.size
 .rw[aZ hi];unfold kU;simp only;rw[if_neg (by rintro(e|e);exact(h hi).1 e;exact(h hi).2 e)]
 .rw[dA hi];rfl
theorem aKb(h:i<s.size)(c:s[i]=101\/s[i]=69){k:Nat}(b:iT (s.data.toList.drop (i+1))=k)(a:cF (s.data.toList.drop (i+1+k))=J)(n:Nat):kU n (s.data.toList.drop i)=(n+1+k,J):=by
 rw[<-bg]at a;rw[aZ h];unfold kU;simp only;rw[if_pos c,b,if_neg (by rw[a];decide)]
theorem aKc(h:i<s.size)(c:s[i]=101\/s[i]=69){k:Nat}(b:iT (s.data.toList.drop (i+1))=k)(a:cF (s.data.toList.drop (i+1+k))=I)(n:Nat):kU n (s.data.toList.drop i)=(n+1+k+over (s.data.toList.drop (i+1+k)),I):=by
 rw[<-bg]at a⊢;rw[aZ h];unfold kU;simp only;rw[if_pos c,b,if_pos a]
theorem aI5(h:∀h:i<s.size,s[i]≠43/\s[i]≠45):iT (s.data.toList.drop i)=0:=by
 by_cases hi:i<s.size
 .rw[aZ hi];unfold iT;simp only;rw[if_neg (by rintro(e|e);exact(h hi).1 e;exact(h hi).2 e)]
 .rw[dA hi];rfl
theorem aFD(h:i<s.size)(a:s[i]=43\/s[i]=45):iT (s.data.toList.drop i)=1:=by
 rw[aZ h];unfold iT;simp only;rw[if_pos a]
end
theorem ne2{c:UInt8}{k:UInt8}(h:c≠k):¬((c.toNat:Nat):Int)=((k.toNat:Nat):Int)/\(((c.toNat:Nat):Int)==((k.toNat:Nat):Int))=J:=by
 have:¬((c.toNat:Nat):Int)=((k.toNat:Nat):Int):=λe=>h (em (by omega))
 exact⟨this,by simpa using this⟩
theorem aI6(s:ByteArray)(q:Nat)(e:s.size<=2147483648)(d:q<=s.size):∃k,iT (s.data.toList.drop q)=k/\q+k<=s.size/\
 ((¬ (q : Int) < (s.size : Int) /\ k = 0) \/ (∃ h : q < s.size, (q : Int) < (s.size : Int) /\ ((k = 0 /\ (¬ ((s[q].toNat : Nat) : Int) = 43 /\ (((s[q].toNat : Nat) : Int) == 43) = J) /\ (¬ ((s[q].toNat : Nat) : Int) = 45 /\ (((s[q].toNat : Nat) : Int) == 45) = J)) \/
   (k=1/\((s[q].toNat:Nat):Int)=43)\/(k=1/\(¬((s[q].toNat:Nat):Int)=43/\(((s[q].toNat:Nat):Int)==43)=J)/\((s[q].toNat:Nat):Int)=45)))):=by
 by_cases h:q<s.size
 .by_cases a:s[q]=43
  .exact⟨1,aFD h (K a),by omega,U ⟨h,by omega,U (K ⟨rfl,by rw[a];rfl⟩)⟩⟩
  .by_cases b:s[q]=45
   .exact⟨1,aFD h (U b),by omega,U ⟨h,by omega,U (U ⟨rfl,ne2 (k:=43) a,by rw[b];rfl⟩)⟩⟩
   .exact⟨0,aI5 λ_=>⟨a,b⟩,by omega,U ⟨h,by omega,K ⟨rfl,ne2 (k:=43) a,ne2 (k:=45) b⟩⟩⟩
 .exact⟨0,aI5 λc=>absurd c h,by omega,K ⟨by omega,rfl⟩⟩
theorem aCw(w:ac)(s:ByteArray)(i:Nat)(hi:i<s.size)(hs:s.size<=2147483648):Calls prog 90 #[cw s,R H i] w λe w'=>
 e=cz (ao #[R H ((i+(fJ (s.data.toList.drop i)).1:Nat):Int),ar (fJ (s.data.toList.drop i)).2])/\w'=w:=by
 have z:=L (λ(W:ac)(k:Nat)=>vP W s k);have D:=L (λ(W:ac)(k:Nat)(l:k<=s.size)=>aGj W s k l hs);have hs1:(i:Int)<(s.size:Int):=by omega
 obtain⟨o,B,n⟩:∃o B,(i+(fJ (s.data.toList.drop i)).1,(fJ (s.data.toList.drop i)).2)=(o,B):=⟨_,_,rfl⟩
 have hw:(s[i]=45/\eT (i+1) (s.data.toList.drop (i+1))=(o,B))\/(s[i]≠45/\eT i (s.data.toList.drop i)=(o,B)):=by
  by_cases c:s[i]=45
  .exact K ⟨c,by rw[<-aI2 hi c];exact n⟩
  .exact U ⟨c,by rw[<-aGV hi c];exact n⟩
 injection n with a b
 rw[a,b];clear a b;have F:=L (λq(h:q<=s.size)=>aI6 s q hs h);rcases hw with⟨a,d⟩|⟨a,d⟩
 case' inl=>
  obtain⟨p,f⟩:∃p,i+1=p:=⟨_,rfl⟩;rw[f]at d;have t:=L d;have j:((s[i].toNat:Nat):Int)=45:=by rw[a];rfl
  have g:H.wrap ((i:Int)+1)=(p:Int):=by rw[au];omega
  have x:p<=s.size:=by omega
  clear d a f;go_enter func90,ntmps90;go_wp2_with fail;clear j g
 case' inr=>
  have t:=L d;obtain⟨j,g⟩:=ne2 (k:=45) a;have j:¬((s[i].toNat:Nat):Int)=45:=j;have g:(((s[i].toNat:Nat):Int)==45)=J:=g;have x:i<=s.size:=by omega
  clear d a;go_enter func90,ntmps90;go_wp2_with fail;obtain⟨p,rfl⟩:∃p,p=i:=⟨i,rfl⟩;clear j g
 all_goals
  refine(z.o w p).mono ?_;rintro r w1 ⟨rfl,rfl⟩;cases d:cF (s.data.toList.drop p)with
  | false=>
   have e:=t.o;rw[aI3 d]at e;injection e with f m
   subst f m;clear d;go_wp2_with fail;exact bh (v:=ao #[R H (p:Int),ar J]) (by simp[bj,bk,go_sem]) rfl ⟨rfl,rfl⟩
  | true=>
   have y:=(aDG d).1;have hpi:(p:Int)<(s.size:Int):=by omega
   have h:(s[p]=48/\∃q,p+1=q/\q<=s.size/\eF q (s.data.toList.drop q)=(o,B))\/(s[p]≠48/\∃q,p+over (s.data.toList.drop p)=q/\q<=s.size/\eF q (s.data.toList.drop q)=(o,B)):=by
    by_cases a:s[p]=48
    .exact K ⟨a,_,rfl,by omega,by rw[<-aEf y a];exact t.o⟩
    .refine U ⟨a,_,rfl,?_,by rw[<-aEg y d a];exact t.o⟩;have:over (s.data.toList.drop p)<=(s.data.toList.drop p).length:=by unfold over;exact(dw _).length_le
     rw[af,show s.data.toList.length=s.size by simp]at this;omega
   clear d t;rcases h with⟨a,q,h,N,t⟩|⟨a,q,h,N,t⟩
   case' inl=>
    have j:((s[p].toNat:Nat):Int)=48:=by rw[a];rfl
    have g:H.wrap ((p:Int)+1)=(q:Int):=by rw[au];omega
    have d:=L t;clear t h a
   case' inr=>
    obtain⟨j,g⟩:=ne2 (k:=48) a;have g:(((s[p].toNat:Nat):Int)==48)=J:=g;have d:=L t;have A:=L (show ∀W:ac,Calls prog 119 #[cw s,R H p] W λe w'=>e=cz (R H (q:Int))/\w'=W from λW=>by have:=D.o W p x;rw[h]at this;exact this);clear t h a;go_wp2_with fail;refine(A.o _).mono ?_;rintro r w2 ⟨rfl,rfl⟩;clear g
   all_goals
    have P:s.data.toList.length=s.size:=by simp
    have a:∀k,k<=s.size->k+over (s.data.toList.drop k)<=s.size:=λk l=>by
     have:over (s.data.toList.drop k)<=(s.data.toList.drop k).length:=by unfold over;exact(dw _).length_le
     rw[af,P]at this;omega
    have S:(∃c:q<s.size,((s[q].toNat:Nat):Int)=46/\cF (s.data.toList.drop (q+1))=J/\(q+1,J)=(o,B))\/
     (∃c:q<s.size,∃r,((s[q].toNat:Nat):Int)=46/\cF (s.data.toList.drop (q+1))=I/\q+1+over (s.data.toList.drop (q+1))=r/\kU r (s.data.toList.drop r)=(o,B))\/
     ((¬(q:Int)<(s.size:Int)\/((q:Int)<(s.size:Int)/\∃c:q<s.size,¬((s[q].toNat:Nat):Int)=46/\(((s[q].toNat:Nat):Int)==46)=J))/\kU q (s.data.toList.drop q)=(o,B)):=by
     by_cases c:q<s.size
     .by_cases b:s[q]=46
      .cases h:cF (s.data.toList.drop (q+1))with
       | false=>exact K ⟨c,by rw[b];rfl,rfl,by rw[<-aGW c b h];exact d.o⟩
       | true=>exact U (K ⟨c,_,by rw[b];rfl,rfl,rfl,by rw[<-aGX c b h];exact d.o⟩)
      .exact U (U ⟨U ⟨by omega,c,ne2 (k:=46) b⟩,by rw[<-aCv λ_=>b];exact d.o⟩)
     .exact U (U ⟨K (by omega),by rw[<-aCv λT=>absurd T c];exact d.o⟩)
    clear d;have HOB:=L a;clear a;rcases S with⟨hy0,t1,a,A⟩|⟨hy1,r,t1,a,C,x⟩|⟨hn,x⟩
    all_goals
     first
     | (have t2:(q:Int)<(s.size:Int):=by omega
        have t3:H.wrap ((q:Int)+1)=((q+1:Nat):Int):=by rw[au];omega
        injection A with f m
        obtain⟨d,g⟩:∃d,q+1=d:=⟨_,rfl⟩;rw[g]at f a t3;subst f m;have j:=L (λW:ac=>z.o W d);rw[a]at j;clear a g;go_wp2_with fail;refine(j.o _).mono ?_;rintro r w3 ⟨rfl,rfl⟩;go_wp2_with fail;exact bh (v:=ao #[R H (d:Int),ar J]) (by simp[bj,bk,go_sem]) rfl ⟨rfl,rfl⟩)
     | (have t2:(q:Int)<(s.size:Int):=by omega
        have t3:H.wrap ((q:Int)+1)=((q+1:Nat):Int):=by rw[au];omega
        obtain⟨d,g⟩:∃d,q+1=d:=⟨_,rfl⟩;rw[g]at a t3 C;have hrs:r<=s.size:=by rw[<-C];exact HOB.o d (by omega)
        have j:=L (λW:ac=>z.o W d);rw[a]at j;have HO2:=L (show ∀W:ac,Calls prog 119 #[cw s,R H d] W λe w'=>e=cz (R H (r:Int))/\w'=W from λW=>by have:=D.o W d (by omega);rw[C]at this;exact this);have t:=L x;clear a g C x;go_wp2_with fail;refine(j.o _).mono ?_;rintro C w3 ⟨rfl,rfl⟩;go_wp2_with fail;refine(HO2.o _).mono ?_;rintro C g ⟨rfl,rfl⟩)
     | (have t:=L x;clear x;obtain⟨r,rfl⟩:∃r,r=q:=⟨q,rfl⟩;rcases hn with hn|⟨d,g,-,x⟩)
    all_goals
     have x:((¬(r:Int)<(s.size:Int)\/((r:Int)<(s.size:Int)/\∃c:r<s.size,(¬((s[r].toNat:Nat):Int)=101/\(((s[r].toNat:Nat):Int)==101)=J)/\(¬((s[r].toNat:Nat):Int)=69/\(((s[r].toNat:Nat):Int)==69)=J)))/\(r,I)=(o,B))\/
      (∃c:r<s.size,(((s[r].toNat:Nat):Int)=101\/((¬((s[r].toNat:Nat):Int)=101/\(((s[r].toNat:Nat):Int)==101)=J)/\((s[r].toNat:Nat):Int)=69))/\
       ∀k,iT (s.data.toList.drop (r+1))=k->(cF (s.data.toList.drop (r+1+k))=J->(r+1+k,J)=(o,B))/\(cF (s.data.toList.drop (r+1+k))=I->(r+1+k+over (s.data.toList.drop (r+1+k)),I)=(o,B))):=by
      by_cases c:r<s.size
      .by_cases b:s[r]=101\/s[r]=69
       .refine U ⟨c,?_,λk l=>⟨λh=>by rw[<-aKb c b l h];exact t.o,λh=>by rw[<-aKc c b l h];exact t.o⟩⟩
        by_cases h:s[r]=101
        .exact K (by rw[h];rfl)
        .exact U ⟨ne2 (k:=101) h,by rw[b.resolve_left h];rfl⟩
       .exact K ⟨U ⟨by omega,c,ne2 (k:=101) (λe=>b (K e)),ne2 (k:=69) (λe=>b (U e))⟩,by rw[<-aI4 λ_=>⟨λe=>b (K e),λe=>b (U e)⟩];exact t.o⟩
      .exact K ⟨K (by omega),by rw[<-aI4 λT=>absurd T c];exact t.o⟩
     clear t;rcases x with⟨hx,A⟩|⟨hx,hc,l⟩
     all_goals
      first
      | (have b := A
         injection A with f m
         subst f m;clear b;rcases hx with x1|⟨x1,x2,⟨-,x4⟩,-,b⟩
         all_goals
          first
          | (exfalso;omega)
          | (go_wp2_with fail
             exact bh (v:=ao #[R H (r:Int),ar I]) (by simp[bj,bk,go_sem]) rfl ⟨rfl,rfl⟩))
      | (exfalso;omega)
      | (have x1 : (r : Int) < (s.size : Int) := by omega
         obtain⟨b,d⟩:∃b,r+1=b:=⟨_,rfl⟩;have x2:H.wrap ((r:Int)+1)=(b:Int):=by rw[au];omega
         obtain⟨k,g,h,T⟩:=F.o b (by omega);rw[d]at l;obtain⟨f1,f2⟩:=l k g;obtain⟨u,hu⟩:∃u,b+k=u:=⟨_,rfl⟩;rw[hu]at f1 f2 h;have x3:k=1->H.wrap ((b:Int)+1)=(u:Int):=λc=>by rw[au];omega
         have j:=L (λW:ac=>z.o W u);have t:=L (λW:ac=>D.o W u h);have F1:=L f1;have F2:=L f2;clear l g f1 f2 d;rcases hc with y1|⟨⟨y1,y2⟩,y3⟩
         all_goals
          rcases T with⟨z1,d⟩|⟨z0,z1,⟨d,⟨l,z4⟩,z5,z6⟩|⟨d,l⟩|⟨d,⟨l,z4⟩,z5⟩⟩
          all_goals
           try have x4:=x3 d
           try (have g : u = b := by omega
                subst g)
           clear x3 hu d;cases a:cF (s.data.toList.drop u)with
           | false=>
            have e:=F1.o a;rw[a]at j;injection e with f m
            subst f m;clear a F1 F2;go_wp2_with fail;refine(j.o _).mono ?_;rintro C d ⟨rfl,rfl⟩;go_wp2_with fail;exact bh (v:=ao #[R H (u:Int),ar J]) (by simp[bj,bk,go_sem]) rfl ⟨rfl,rfl⟩
           | true=>
            have e:=F2.o a;rw[a]at j;injection e with f m
            rw[f]at t;subst m;clear a F1 F2 f;go_wp2_with fail;refine(j.o _).mono ?_;rintro C d ⟨rfl,rfl⟩;go_wp2_with fail;refine(t.o _).mono ?_;rintro C a ⟨rfl,rfl⟩;go_wp2_with fail;exact bh (v:=ao #[R H (o:Int),ar I]) (by simp[bj,bk,go_sem]) rfl ⟨rfl,rfl⟩)
end
section
def jB(f:RFr):Fr:=if f.object then ag f.keys else bx f.items.length
def aFE(l:List RFr):Prop:=∀f∈l.dropLast,f.object=I->f.keys.length=f.items.length+1
def aFF(l:List RFr)(want:Nat):Prop:=∀f,l.getLast?=G f->f.object=I->f.keys.length=f.items.length+(if want=4\/want=0 then 1 else 0)
theorem iA{l:List RFr}{f:RFr}:aFE (l++ [f])<->∀g∈l,g.object=I->g.keys.length=g.items.length+1:=by unfold aFE;rw[dh]
theorem pW{l:List RFr}{f:RFr}{w:Nat}:aFF (l++ [f]) w<->(f.object=I->f.keys.length=f.items.length+(if w=4\/w=0 then 1 else 0)):=by
 unfold aFF;rw[show(l++ [f]).getLast?=G f by simp];exact⟨λh=>h f rfl,λh g a=>by cases a;exact h⟩
structure Al(p:Ps)(r:Rr)(d:Nat):Prop where
 depth:p.depth=d
 want:p.want=r.want
 nodes:p.nodes=r.nodes
 bytes:p.bytes=r.bytes
 pile:p.pile=r.pile.map jB
 items:p.items=r.pile.flatMap (λf=>f.items)++(if r.want=6 then [r.done]else [])
 low:aFE r.pile
 top:aFF r.pile r.want
section
variable {p:Ps} {r:Rr} {d:Nat}
theorem Al.C8(h:Al p r d)(x:Lx):Al (p.C8 x) r d:=⟨h.depth,h.want,h.nodes,h.bytes,h.pile,h.items,h.low,h.top⟩
theorem Al.O8(h:Al p r d):p.pile.length=r.pile.length:=by rw[h.pile,List.length_map]
theorem Al.D0(h:Al p r d)(ok:cG p 0)(a:Nat):match r.D5 d with
 | .error no=>p.D0 a=ai (no,a)
 | .ok g=>p.D0 a=.ok {p with nodes:=p.nodes+1}/\g={r with nodes:=r.nodes+1}/\(r.want=0\/r.want=1)/\cG {p with nodes:=p.nodes+1} 1:=by
 have n:=ok.room;have l:=ok.nodes;have q:=h.O8;have m:=h.depth;have o:=h.nodes;have s:=h.want;cases b:p.D0 a with
 | ok y=>
  have j:=ok.D0 b;unfold dx at b;unfold Rr.D5;split at b
  .cases b
  .rename_i c1;split at b
   .cases b
   .rename_i c2;split at b
    .cases b
    .rename_i k;rw[if_neg (by omega),if_neg (by omega),if_neg (by omega)];obtain⟨f,i,c⟩:=j;rw[<-c];exact⟨c▸rfl,rfl,by omega,f⟩
 | error e=>
  unfold dx at b;unfold Rr.D5;split at b
  .rename_i c1;cases b;rw[if_pos (by omega)]
  .rename_i c1;split at b
   .rename_i c2;cases b;rw[if_neg (by omega),if_pos (by omega)]
   .rename_i c2;split at b
    .rename_i k;cases b;rw[if_neg (by omega),if_neg (by omega),if_pos (by omega)]
    .cases b
theorem Al.M0(h:Al p r d):Al {p with nodes:=p.nodes+1} {r with nodes:=r.nodes+1} d:=⟨h.depth,h.want,by show p.nodes+1=r.nodes+1;rw[h.nodes],h.bytes,h.pile,h.items,h.low,h.top⟩
theorem aI8(f:RFr)(t:Tr):more [jB f]= [jB {f with items:=f.items++ [t]}]:=by
 unfold jB
 by_cases h:f.object
 .simp only[h,if_true];rfl
 .simp only[h];simp[more]
theorem aCx(l:List Fr)(f:Fr):more (l++ [f])=l++more [f]:=by
 cases f with
 | list n=>rw[l5];rfl
 | object k=>rw[jS];rfl
theorem cB{b:Type}(l:List b)(a:b):(l++ [a]).getLast?=G a:=by simp
theorem Al.C7(h:Al p r d)(q:r.want=0\/r.want=1)(g:∀f,r.pile.getLast?=G f->f.object=I->r.want=0)(t:Tr):Al (ae {p with items:=p.items++ [t]}) (r.C7 t) d:=by
 have j:¬r.want=6:=by omega
 have b:=h.pile;have c:=h.items;have o:=h.low;have m:=h.top;rw[if_neg j,bz]at c;rcases bm r.pile with a|⟨e,f,a⟩
 .rw[a]at b c;have b:p.pile= []:=b;have c:p.items= []:=c;have l:r.C7 t={r with done:=t,want:=6}:=by unfold ah;rw[a];rfl
  rw[l];refine⟨h.depth,?_,h.nodes,h.bytes,?_,?_,?_,?_⟩
  .show(if p.pile= []then 6 else 5)=6;rw[if_pos b]
  .show more p.pile=r.pile.map jB;rw[b,a];rfl
  .show p.items++ [t]=r.pile.flatMap _++(if 6=6 then [t]else []);rw[c,a];rfl
  .show aFE r.pile;rw[a];intro f k;simp at k
  .show aFF r.pile 6;rw[a];intro f k;simp at k
 .rw[bp]at a;have l:r.C7 t={r with pile:=e++ [{f with items:=f.items++ [t]}],want:=5}:=by unfold ah;rw[a,cB];simp
  rw[a]at b c o m;rw[l];have i:¬p.pile= []:=by rw[b];simp
  refine⟨h.depth,?_,h.nodes,h.bytes,?_,?_,?_,?_⟩
  .show(if p.pile= []then 6 else 5)=5;rw[if_neg i]
  .show more p.pile=(e++ [_]).map jB
   rw[b,av,av,di,aCx,aI8 f t];rfl
  .show p.items++ [t]=(e++ [_]).flatMap _++(if 5=6 then [r.done]else [])
   rw[c];simp
  .exact iA.2 (iA.1 o)
  .refine pW.2 λn=>?_
   have:=m f (cB _ _) n;rw[if_pos (U (g f (by rw[a];exact cB _ _) n))]at this
   show f.keys.length=(f.items++ [t]).length+(if 5=4\/5=0 then 1 else 0)
   rw[aw];simp;omega
theorem Al.G0(h:Al p r d)(c:cG p 1){t:Tr}{b:Nat}(e:t.A7=⟨1,b,1⟩)(g:jA p.items+b+fU p.pile<=p.bytes)(a:∀f,r.pile.getLast?=G f->f.object=I->r.want=0):Al (ae {p with items:=aY p.items t}) (r.C7 t) d:=by
 rw[(c.G0 e g).1];exact h.C7 (by have:=c.pend;have:=h.want;omega) a t
theorem Al.S4(h:Al p r d)(b:eX p.depth p.want p.pile p.items)(m:r.want=0\/r.want=1):∀f,r.pile.getLast?=G f->f.object=I->r.want=0:=by
 intro f g i;have e:=h.pile;have c:=h.want;have a:p.pile.getLast?=G (ag f.keys):=by rw[e,cg,g];simp[jB,i]
 revert a;generalize p.pile=pile at b;generalize p.items=items at b;generalize p.want=want at b c;cases b with
 | new=>intro a;simp at a
 | done t j=>intro a;simp at a
 | list s _ _ _ _=>intro a;rw[cB]at a;cases a
 | object k s _ _ _ l=>intro _;omega
theorem Al.E5(h:Al p r d):r.E5=iU p.pile:=by
 unfold az iU;rw[h.pile,cg];cases r.pile.getLast? with
 | none=>rfl
 | some f=>show f.object=_;simp only[dy];unfold jB;cases f.object<;>rfl
theorem Al.D8(h:Al p r d)(a:r.E5=I):r.D8=fO p.pile:=by
 unfold az at a;unfold ee fO;rw[h.pile,cg];cases b:r.pile.getLast? with
 | none=>rfl
 | some f=>rw[b]at a;have a:f.object=I:=a;simp[jB,a]
theorem Al.L9(h:Al p r d)(o:r.want=2\/r.want=3)(c:r.E5=I)(s:List UInt8):Al {p with pile:=p.pile.dropLast++ [ag (fO p.pile++ [s])],want:=4} (r.L9 s) d:=by
 have i:=h.D8 c;rcases bm r.pile with a|⟨b,f,a⟩
 .unfold az at c;rw[a]at c;cases c
 .rw[bp]at a;have e:f.object=I:=by unfold az at c;rw[a,cB]at c;exact c
  have n:r.L9 s={r with pile:=b++ [{f with keys:=f.keys++ [s]}],want:=4}:=by unfold Rr.L9;rw[a,cB];simp
  have l:r.D8=f.keys:=by unfold ee;rw[a,cB]
  have j:=h.pile;have g:=h.items;have k:=h.low;have m:=h.top f (by rw[a];exact cB _ _) e;rw[if_neg (by omega)]at m;rw[if_neg (by omega),bz]at g;rw[a]at j g k;rw[n,<-i,l];refine⟨h.depth,rfl,h.nodes,h.bytes,?_,?_,?_,?_⟩
  .show p.pile.dropLast++ [_]=(b++ [_]).map jB
   rw[j,av,av,di,dh];simp[jB,e]
  .show p.items=(b++ [_]).flatMap _++(if 4=6 then [r.done]else [])
   rw[g];simp
  .exact iA.2 (iA.1 k)
  .refine pW.2 λ_=>?_
   show(f.keys++ [s]).length=f.items.length+(if 4=4\/4=0 then 1 else 0)
   rw[aw];simp;omega
theorem Al.M7(h:Al p r d)(m:r.want=0\/r.want=1)(e:∀f,r.pile.getLast?=G f->f.object=I->r.want=0)(o:Bool):
 Al {p with pile:=p.pile++ [if o then ag []else bx 0],want:=if o then 2 else 1} {r with pile:=r.pile++ [⟨o,[],[]⟩],want:=if o then 2 else 1} d:=by
 have k:=h.items;rw[if_neg (by omega),bz]at k;refine⟨h.depth,rfl,h.nodes,h.bytes,?_,?_,?_,?_⟩
 .show p.pile++ [_]=(r.pile++ [_]).map jB
  rw[h.pile,av];cases o<;>rfl
 .show p.items=(r.pile++ [_]).flatMap _++(if(if o then 2 else 1)=6 then [r.done]else [])
  rw[k,if_neg (by cases o<;>decide)];simp
 .refine iA.2 λg a i=>?_
  rcases bm r.pile with b|⟨l,f,b⟩
  .rw[b]at a;simp at a
  .rw[bp]at b;have j:r.pile.getLast?=G f:=by rw[b];exact cB _ _
   rw[b]at a;rcases List.mem_append.1 a with a|a
   .have c:=h.low;rw[b]at c;exact iA.1 c g a i
   .simp at a;subst a;have:=h.top g j i
    rwa[if_pos (U (e g j i))]at this
 .refine pW.2 λ_=>?_
  show 0=0+(if(if o then 2 else 1)=4\/(if o then 2 else 1)=0 then 1 else 0)
  cases o<;>rfl
theorem Al.L8(h:Al p r d){n:Nat}(i:n≠6)(g:r.want≠6)(a:(if n=4\/n=0 then 1 else 0)=(if r.want=4\/r.want=0 then 1 else 0)\/r.E5=J):Al {p with want:=n} {r with want:=n} d:=by
 have e:=h.items;rw[if_neg g]at e;refine⟨h.depth,rfl,h.nodes,h.bytes,h.pile,?_,h.low,?_⟩
 .show p.items=_++(if n=6 then [r.done]else []);rw[if_neg i];exact e
 .intro f b c;rcases a with a|a
  .show _=_+(if n=4\/n=0 then 1 else 0);rw[a];exact h.top f b c
  .have b:r.pile.getLast?=G f:=b;unfold az at a;rw[b]at a;exact absurd c (by rw[show f.object=J from a];decide)
end
theorem cG.S5{x:Ps}(h:cG x 0){g:UInt8}(l:x.D9 g=I):∃b a s,x.items=a++s/\
 ((x.pile = b ++ [bx s.length] /\ x.C5 po = ae { x with pile := b, items := a ++ [.list s] }) \/
   (∃k,x.pile=b++ [ag k]/\k.length=s.length/\x.C5 po=ae {x with pile:=b,items:=a++ [dj (cV k) (besides k s)]})):=by
 have z:=h.depth;have r:=h.room;have F:=h.nodes;have C:=h.bytes;have i:=h.cnt;have q:=h.byt;have y:=h.stand;have w:=h.keys;obtain⟨D,place,lex,items,pile,want,nodes,bytes⟩:=x;simp only at z r F C i q y w;cases y with
 | new=>simp[bs]at l
 | done t j=>simp[bs]at l
 | @list b a s _ A j f=>
  have e:(cj po ⟨D,place,lex,a++s,b++ [bx s.length],want,nodes,bytes⟩)=ae ⟨D,place,lex,eD (a++s) s.length,b,want,nodes,bytes⟩:=by
   unfold cj;simp
  obtain⟨p,n,v⟩:=kM 0 s;rw[jQ]at i;rw[jR,dV,kK]at q;simp only[aw,Y,cu]at i r;have o:=v (D-b.length-1) (λt m=>by have:=j t m;omega);rw[<-jG]at p n o
  have d:eD (a++s) s.length=a++ [.list s]:=by
   unfold eD fY;rw[if_neg (by simp),aw,bw,eh,ei,if_pos];unfold ej;simp only[ek,decide_eq_true_eq];omega
  exact⟨b,a,s,rfl,K ⟨rfl,by rw[e,d]⟩⟩
 | @object b a k s _ A j f=>
  have c:k.length=s.length:=by
   rcases f with f|f
   .exact f.2
   .unfold bs at l;simp at l;omega
  have e:(cj po ⟨D,place,lex,a++s,b++ [ag k],want,nodes,bytes⟩)=ae ⟨D,place,lex,po (a++s) k,b,want,nodes,bytes⟩:=by
   unfold cj;simp
  obtain⟨u,B⟩:=w k (by simp);obtain⟨p,n,v⟩:=kM (bA k) s;rw[jQ]at i;rw[jR,dV,kK]at q;simp only[aw,Y,cu]at i r;have o:=v (D-b.length-1) (λt m=>by have:=j t m;omega);rw[<-mN u c.symm]at p n o
  have d:po (a++s) k=a++ [dj (cV k) (besides k s)]:=by
   unfold po fY;rw[if_neg (by simp;omega),aw,c,bw,eh,ei,if_pos];unfold ej;simp only[ek,decide_eq_true_eq];have:frB (ag k)=bA k:=rfl;omega
  exact⟨b,a,s,rfl,U ⟨k,rfl,c,by rw[e,d]⟩⟩
section
variable {p:Ps} {r:Rr} {d:Nat}
theorem Al.I7(A:Al p r d)(P:cG p 0){o:UInt8}(B:p.D9 o=I):Al (p.C5 po) r.L7 d:=by
 obtain⟨S,T,s,q,u⟩:=P.S5 B;have m:=A.pile;have v:=A.items;rcases bm r.pile with h|⟨a,f,h⟩
 .rw[h]at m;rcases u with⟨n,_⟩|⟨k,n,_⟩<;>(rw[n]at m;simp at m)
 .rw[bp]at h
  have hw:r.want=5\/r.want=1\/r.want=2:=by
   have:=A.want;unfold bs at B;simp at B;omega
  have N:r.pile.getLast?=G f:=by rw[h];exact cB _ _
  have W:r.L7=ah {r with pile:=a} (madeOf f):=by unfold Rr.L7;rw[N];simp only;rw[h,dh]
  have i:=A.top f N;rw[if_neg (by omega)]at i;rw[if_neg (by omega),bz,h,List.flatMap_append]at v;have v:p.items=a.flatMap (λf=>f.items)++f.items:=by rw[v];simp
  rw[h,av,di]at m;have w:=A.low;rw[h]at w;have j:=iA.1 w;rw[W]
  have x:∀t:Tr,Al (ae {p with pile:=a.map jB,items:=a.flatMap (λf=>f.items)++ [t]}) (ah {r with pile:=a} t) d:=by
   intro t
   have c:Al {p with pile:=a.map jB,items:=a.flatMap (λf=>f.items),want:=0} {r with pile:=a,want:=0} d:=
    ⟨A.depth,rfl,A.nodes,A.bytes,rfl,by simp,λg b=>j g ((List.dropLast_sublist _).subset b),λg b y=>by rw[if_pos (U rfl)];exact j g (List.mem_of_getLast? b) y⟩
   have:=c.C7 (K rfl) (λ_ _ _=>rfl) t;have z:ae {p with pile:=a.map jB,items:=a.flatMap (λf=>f.items)++ [t],want:=0}=ae {p with pile:=a.map jB,items:=a.flatMap (λf=>f.items)++ [t]}:=rfl
   have l:ah {r with pile:=a,want:=0} t=ah {r with pile:=a} t:=by
    unfold ah;cases a.getLast?<;>rfl
   rw[l]at this;exact this
  rcases u with⟨n,C⟩|⟨k,n,hk,C⟩
  .have e:=n.symm.trans m;obtain⟨z,l⟩:=ck e rfl
   have b:f.object=J:=by
    cases y:f.object with
    | false=>rfl
    | true=>simp[jB,y]at l
   have c:s.length=f.items.length:=by simpa[jB,b]using l
   obtain⟨D,F⟩:=ck (q.symm.trans v) c;rw[C,z,D,F];have:madeOf f=.list f.items:=by unfold madeOf;rw[b];rfl
   rw[this];exact x _
  .have e:=n.symm.trans m;obtain⟨z,l⟩:=ck e rfl
   have b:f.object=I:=by
    cases y:f.object with
    | true=>rfl
    | false=>simp[jB,y]at l
   have y:k=f.keys:=by simpa[jB,b]using l
   have c:s.length=f.items.length:=by have:=i b;rw[<-y]at this;omega
   obtain⟨D,F⟩:=ck (q.symm.trans v) c;rw[C,z,D,F,y];have:madeOf f=dj (cV f.keys) (besides f.keys f.items):=by unfold madeOf;rw[b];rfl
   rw[this];exact x _
theorem Al.D9(h:Al p r d)(o:eX p.depth p.want p.pile p.items)(c:UInt8):p.D9 c=I<->(c=93/\r.H5=I/\(r.want=5\/r.want=1)\/c=125/\r.E5=I/\(r.want=5\/r.want=2)):=by
 have m:=h.pile;have l:=h.want;unfold bs Rr.H5 az;rw[m,cg,l];have e:=o;rcases bm r.pile with i|⟨n,f,i⟩
 .rw[i];simp
 .rw[bp]at i;rw[i,cB];simp only[dy];have b:p.pile.getLast?=G (jB f):=by rw[m,i];simp
  have a:(f.object=I->r.want≠1)/\(f.object=J->r.want≠2):=by
   revert b;rw[<-l];clear l m o;generalize p.pile=pile at e;generalize p.items=items at e;generalize p.want=want at e;cases e with
   | new=>intro b;simp at b
   | done t q=>intro b;simp at b
   | list s _ _ _ j=>
    intro b;rw[cB]at b;refine⟨λg=>?_,λ_=>by omega⟩;simp[jB,g]at b
   | object k s _ _ _ u=>
    intro b;rw[cB]at b;refine⟨λ_=>by omega,λg=>?_⟩;simp[jB,g]at b
  cases g:f.object with
  | true=>
   have:=a.1 g;simp[jB,g,uV];constructor
   .rintro⟨rfl,j⟩;exact⟨rfl,by omega⟩
   .rintro⟨rfl,j⟩;exact⟨rfl,by omega⟩
  | false=>
   have:=a.2 g;simp[jB,g,uV];constructor
   .rintro⟨rfl,j⟩;exact⟨rfl,by omega⟩
   .rintro⟨rfl,j⟩;exact⟨rfl,by omega⟩
end
end
end Go.Proofs.YtakkmiomhackiaaGreatDoor
