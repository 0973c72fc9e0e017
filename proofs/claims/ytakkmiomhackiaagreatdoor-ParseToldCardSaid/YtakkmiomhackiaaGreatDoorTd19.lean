/-
  The program, one part of its walk. Conditions: none.
-/
import Derived.Test.YtakkmiomhackiaaGreatDoorTd16
set_option linter.all false
set_option maxRecDepth 100000
set_option maxHeartbeats 16000000
open Go.Proofs.Tryz
open Go.Proofs.YtakkmiomhackiaaGreatDoor.Form renaming D5->O
open Or renaming inl->N,inr->I
open UInt8.toNat renaming inj->J
namespace Go.Proofs.YtakkmiomhackiaaGreatDoor
open Go.RowKit
inductive Fm:List UInt8->Prop
 | one (a:UInt8) (h:a.toNat<128):Fm [a]
 | two (a b:UInt8) (h1:194<=a.toNat) (h2:a.toNat<=223) (h3:128<=b.toNat) (h4:b.toNat<=191):Fm [a,b]
 | three (a b c:UInt8) (h1:224<=a.toNat) (h2:a.toNat<=239) (h3:128<=b.toNat) (h4:b.toNat<=191) (h5:128<=c.toNat) (h6:c.toNat<=191) (h7:a.toNat=224->160<=b.toNat) (h8:a.toNat=237->b.toNat<=159):Fm [a,b,c]
 | four (a b c d:UInt8) (h1:240<=a.toNat) (h2:a.toNat<=244) (h3:128<=b.toNat) (h4:b.toNat<=191) (h5:128<=c.toNat) (h6:c.toNat<=191) (h7:128<=d.toNat) (h8:d.toNat<=191) (h9:a.toNat=240->144<=b.toNat) (h10:a.toNat=244->b.toNat<=143):Fm [a,b,c,d]
def bK:List UInt8->Nat
 | [a]=>a.toNat
 | [a,b]=>64*(a.toNat-192)+(b.toNat-128)
 | [a,b,c]=>64*(64*(a.toNat-224)+(b.toNat-128))+(c.toNat-128)
 | [a,b,c,d]=>64*(64*(64*(a.toNat-240)+(b.toNat-128))+(c.toNat-128))+(d.toNat-128)
 | _=>0
theorem sM(c:UInt8)(h:(aC c).wide≠0):(c.toNat<128/\(aC c).wide=1)\/(194<=c.toNat/\c.toNat<=223/\aC c=⟨2,128,191⟩)\/
 (224<=c.toNat/\c.toNat<=239/\aC c=⟨3,if c.toNat=224 then 160 else 128,if c.toNat=237 then 159 else 191⟩)\/(240<=c.toNat/\c.toNat<=244/\aC c=⟨4,if c.toNat=240 then 144 else 128,if c.toNat=244 then 143 else 191⟩):=by
 revert h;unfold aC
 by_cases f:c.toNat<128
 .rw[if_pos f];intro _;exact N ⟨f,rfl⟩
 .rw[if_neg f]
  by_cases j:c.toNat<194
  .rw[if_pos j];intro h;exact absurd rfl h
  .rw[if_neg j]
   by_cases k:c.toNat<224
   .rw[if_pos k];intro _;exact I (N ⟨by omega,by omega,rfl⟩)
   .rw[if_neg k]
    by_cases a:c.toNat=224
    .rw[if_pos a];intro _;exact I (I (N ⟨by omega,by omega,by rw[if_pos a,if_neg (by omega)]⟩))
    .rw[if_neg a]
     by_cases d:c.toNat=237
     .rw[if_pos d];intro _;exact I (I (N ⟨by omega,by omega,by rw[if_neg a,if_pos d]⟩))
     .rw[if_neg d]
      by_cases g:c.toNat<240
      .rw[if_pos g];intro _;exact I (I (N ⟨by omega,by omega,by rw[if_neg a,if_neg d]⟩))
      .rw[if_neg g]
       by_cases b:c.toNat=240
       .rw[if_pos b];intro _;exact I (I (I ⟨by omega,by omega,by rw[if_pos b,if_neg (by omega)]⟩))
       .rw[if_neg b]
        by_cases i:c.toNat<244
        .rw[if_pos i];intro _;exact I (I (I ⟨by omega,by omega,by rw[if_neg b,if_neg (by omega)]⟩))
        .rw[if_neg i]
         by_cases e:c.toNat=244
         .rw[if_pos e];intro _;exact I (I (I ⟨by omega,by omega,by rw[if_neg b,if_pos e]⟩))
         .rw[if_neg e];intro h;exact absurd rfl h
theorem uM{f:Form}{c:UInt8}:f.D5 1 c=true<->f.low<=c.toNat/\c.toNat<=f.high:=by unfold O;rw[if_pos rfl];simp
theorem aBS{f:Form}{i:Nat}{c:UInt8}(hi:i≠1):f.D5 i c=true<->128<=c.toNat/\c.toNat<=191:=by unfold O;rw[if_neg hi];simp
theorem mP{c:UInt8}{t:List UInt8}{n:Nat}(h:fD (c::t)=.ok n):Fm ((c::t).take n)/\n=((c::t).take n).length:=by
 unfold fD at h;simp only at h
 by_cases o:(aC c).wide=0
 .rw[if_pos o]at h;cases h
 .rw[if_neg o]at h;rcases sM c o with⟨j,i⟩|⟨j,i,k⟩|⟨j,i,k⟩|⟨j,i,k⟩
  .rw[i]at h;unfold cS at h;cases h;exact⟨.one c j,rfl⟩
  .rw[k]at h;cases t with
   | nil=>simp[cS]at h
   | cons b t=>
    simp only[cS]at h;split at h
    .rename_i a;cases h;rw[uM]at a;exact⟨.two c b j i a.1 a.2,rfl⟩
    .cases h
  .obtain⟨l,f⟩:∃l,(if c.toNat=224 then 160 else 128)=l:=⟨_,rfl⟩;obtain⟨hi,d⟩:∃hi,(if c.toNat=237 then 159 else 191)=hi:=⟨_,rfl⟩;rw[f,d]at k;rw[k]at h;cases t with
   | nil=>simp[cS]at h
   | cons b t=>
    simp only[cS]at h;split at h
    .rename_i a;cases t with
     | nil=>cases h
     | cons b2 t=>
      simp only[cS]at h;split at h
      .rename_i g;cases h;rw[uM]at a;rw[aBS (by decide)]at g;simp only at a;refine⟨.three c b b2 j i ?_ ?_ g.1 g.2 ?_ ?_,rfl⟩
       .have:=a.1;split at f<;>omega
       .have:=a.2;split at d<;>omega
       .intro e;have:=a.1;rw[if_pos e]at f;omega
       .intro e;have:=a.2;rw[if_pos e]at d;omega
      .cases h
    .cases h
  .obtain⟨l,f⟩:∃l,(if c.toNat=240 then 144 else 128)=l:=⟨_,rfl⟩;obtain⟨hi,d⟩:∃hi,(if c.toNat=244 then 143 else 191)=hi:=⟨_,rfl⟩;rw[f,d]at k;rw[k]at h;cases t with
   | nil=>simp[cS]at h
   | cons b t=>
    simp only[cS]at h;split at h
    .rename_i a;cases t with
     | nil=>cases h
     | cons b2 t=>
      simp only[cS]at h;split at h
      .rename_i g;cases t with
       | nil=>cases h
       | cons b3 t=>
        simp only[cS]at h;split at h
        .rename_i m;cases h;rw[uM]at a;rw[aBS (by decide)]at g m;simp only at a;refine⟨.four c b b2 b3 j i ?_ ?_ g.1 g.2 m.1 m.2 ?_ ?_,rfl⟩
         .have:=a.1;split at f<;>omega
         .have:=a.2;split at d<;>omega
         .intro e;have:=a.1;rw[if_pos e]at f;omega
         .intro e;have:=a.2;rw[if_pos e]at d;omega
        .cases h
      .cases h
    .cases h
def dB(n:Nat):List Nat:=if n<65536 then [n]else [55296+(n-65536)/1024,56320+(n-65536)%1024]
def cmpL:List Nat->List Nat->Int
 | [],[]=>0
 | [],_::_=> -1
 | _::_,[]=>1
 | x::a,y::b=>if x=y then cmpL a b else if x<y then -1 else 1
theorem zG:∀(u a b:List Nat),cmpL (u++a) (u++b)=cmpL a b
 | [],_,_=>rfl
 | x::u,a,b=>by show(if x=x then _ else _)=_;rw[if_pos rfl];exact zG u a b
theorem zH:∀(u a b:List UInt8),eA (u++a) (u++b)=eA a b
 | [],_,_=>rfl
 | x::u,a,b=>by show(if x=x then _ else _)=_;rw[if_pos rfl];exact zH u a b
def keyOf(n:Nat):Nat:=if n<57344 then n else if n<65536 then n+2000000 else n
theorem aGm{n m:Nat}(f:fK n)(e:fK m)(h:n≠m)(a b:List Nat):cmpL (dB n++a) (dB m++b)=if keyOf n<keyOf m then -1 else 1:=by
 unfold fK at f e;unfold dB keyOf
 by_cases d:n<65536
 .rw[if_pos d]
  by_cases c:m<65536
  .rw[if_pos c]
   show(if n=m then _ else if n<m then(-1:Int)else 1)=_
   rw[if_neg h]
   repeat' split
   all_goals first|rfl|omega
  .rw[if_neg c]
   show(if n=55296+(m-65536)/1024 then _ else if n<55296+(m-65536)/1024 then(-1:Int)else 1)=_
   rw[if_neg (by omega)]
   repeat' split
   all_goals first|rfl|omega
 .rw[if_neg d]
  by_cases c:m<65536
  .rw[if_pos c]
   show(if 55296+(n-65536)/1024=m then _ else if 55296+(n-65536)/1024<m then(-1:Int)else 1)=_
   rw[if_neg (by omega)]
   repeat' split
   all_goals first|rfl|omega
  .rw[if_neg c]
   show(if 55296+(n-65536)/1024=55296+(m-65536)/1024 then(if 56320+(n-65536)%1024=56320+(m-65536)%1024 then _ else if 56320+(n-65536)%1024<56320+(m-65536)%1024 then(-1:Int)else 1)else if 55296+(n-65536)/1024<55296+(m-65536)/1024 then -1 else 1)=_
   by_cases g:(n-65536)/1024=(m-65536)/1024
   .rw[if_pos (by omega),if_neg (by omega)]
    repeat' split
    all_goals first|rfl|omega
   .rw[if_neg (by omega)]
    repeat' split
    all_goals first|rfl|omega
theorem aAF{f:List UInt8}(h:Fm f):fK (bK f):=by
 unfold fK;cases h<;>simp only[bK]<;>omega
theorem bQ(x:UInt8):(x.toNat<238->aW x=x.toNat)/\(238<=x.toNat->x.toNat<240->aW x=x.toNat+16)/\(240<=x.toNat->aW x=x.toNat-2):=by
 unfold aW;refine⟨λh=>if_pos h,λb a=>?_,λh=>?_⟩
 .rw[if_neg (by omega),if_pos a]
 .rw[if_neg (by omega),if_neg (by omega)]
theorem aIi(n:Nat):(n<57344->keyOf n=n)/\(57344<=n->n<65536->keyOf n=n+2000000)/\(65536<=n->keyOf n=n):=by
 unfold keyOf;refine⟨λh=>if_pos h,λb a=>?_,λh=>?_⟩
 .rw[if_neg (by omega),if_pos a]
 .rw[if_neg (by omega),if_neg (by omega)]
theorem dG{p q:Prop} [Decidable p] [Decidable q](h:p<->q):(if p then(-1:Int)else 1)=if q then -1 else 1:=by
 by_cases a:p
 .rw[if_pos a,if_pos (h.1 a)]
 .rw[if_neg a,if_neg (λb=>a (h.2 b))]
theorem aDK{f g:List UInt8}(V:Fm f)(B:Fm g)(U:f≠g)(a b:List UInt8):eA (f++a) (g++b)=if keyOf (bK f)<keyOf (bK g)then -1 else 1:=by
 have C:=aIi (bK f);have j:=aIi (bK g);generalize keyOf (bK f)=p at*;generalize keyOf (bK g)=q at*;cases V with
 | one x m=>
  have D:=bQ x;simp only[bK]at C;cases B with
  | one y g1=>
   have k:=bQ y;simp only[bK]at j
   show(if x=y then _ else if aW x<aW y then(-1:Int)else 1)=_
   have d:x≠y:=λe=>U (by rw[e])
   have l:x.toNat≠y.toNat:=λe=>d (J e)
   rw[if_neg d];exact dG (by omega)
  | two y c g1 n=>
   have k:=bQ y;simp only[bK]at j
   show(if x=y then _ else if aW x<aW y then(-1:Int)else 1)=_
   rw[if_neg (λe=>by rw[e]at m;omega)];exact dG (by omega)
  | three y c h g1 n=>
   have k:=bQ y;simp only[bK]at j
   show(if x=y then _ else if aW x<aW y then(-1:Int)else 1)=_
   rw[if_neg (λe=>by rw[e]at m;omega)];exact dG (by omega)
  | four y c h s g1 n=>
   have k:=bQ y;simp only[bK]at j
   show(if x=y then _ else if aW x<aW y then(-1:Int)else 1)=_
   rw[if_neg (λe=>by rw[e]at m;omega)];exact dG (by omega)
 | two x i m w Q R=>
  have D:=bQ x;have S:=bQ i;simp only[bK]at C;cases B with
  | one y g1=>
   have k:=bQ y;simp only[bK]at j
   show(if x=y then _ else if aW x<aW y then(-1:Int)else 1)=_
   rw[if_neg (λe=>by rw[e]at m;omega)];exact dG (by omega)
  | two y c g1 n u v=>
   have k:=bQ y;have T:=bQ c;simp only[bK]at j
   show(if x=y then(if i=c then _ else if aW i<aW c then(-1:Int)else 1)else if aW x<aW y then(-1:Int)else 1)=_
   by_cases o:x=y
   .subst o;have d:i≠c:=λe=>U (by rw[e])
    have l:i.toNat≠c.toNat:=λe=>d (J e)
    rw[if_pos rfl,if_neg d];exact dG (by omega)
   .have z:x.toNat≠y.toNat:=λe=>o (J e)
    rw[if_neg o];exact dG (by omega)
  | three y c h g1 n=>
   have k:=bQ y;simp only[bK]at j
   show(if x=y then _ else if aW x<aW y then(-1:Int)else 1)=_
   rw[if_neg (λe=>by rw[e]at w;omega)];exact dG (by omega)
  | four y c h s g1 n=>
   have k:=bQ y;simp only[bK]at j
   show(if x=y then _ else if aW x<aW y then(-1:Int)else 1)=_
   rw[if_neg (λe=>by rw[e]at w;omega)];exact dG (by omega)
 | three x i r m w Q R W X Y Z=>
  have D:=bQ x;have S:=bQ i;have t1:=bQ r;simp only[bK]at C;cases B with
  | one y g1=>
   have k:=bQ y;simp only[bK]at j
   show(if x=y then _ else if aW x<aW y then(-1:Int)else 1)=_
   rw[if_neg (λe=>by rw[e]at m;omega)];exact dG (by omega)
  | two y c g1 n u v=>
   have k:=bQ y;simp only[bK]at j
   show(if x=y then _ else if aW x<aW y then(-1:Int)else 1)=_
   rw[if_neg (λe=>by rw[e]at m;omega)];exact dG (by omega)
  | three y c h g1 n u v E F G H=>
   have k:=bQ y;have T:=bQ c;have t2:=bQ h;simp only[bK]at j
   show(if x=y then(if i=c then(if r=h then _ else if aW r<aW h then(-1:Int)else 1)else if aW i<aW c then(-1:Int)else 1)else if aW x<aW y then(-1:Int)else 1)=_
   by_cases o:x=y
   .subst o;rw[if_pos rfl]
    by_cases t:i=c
    .subst t;have d:r≠h:=λe=>U (by rw[e])
     have l:r.toNat≠h.toNat:=λe=>d (J e)
     rw[if_pos rfl,if_neg d];exact dG (by omega)
    .have l:i.toNat≠c.toNat:=λe=>t (J e)
     rw[if_neg t];exact dG (by omega)
   .have z:x.toNat≠y.toNat:=λe=>o (J e)
    rw[if_neg o];exact dG (by omega)
  | four y c h s g1 n u v E F G H g9 K=>
   have k:=bQ y;simp only[bK]at j
   show(if x=y then _ else if aW x<aW y then(-1:Int)else 1)=_
   rw[if_neg (λe=>by rw[e]at w;omega)];exact dG (by omega)
 | four x i r A m w Q R W X Y Z h9 h10=>
  have D:=bQ x;have S:=bQ i;have t1:=bQ r;have u1:=bQ A;simp only[bK]at C;cases B with
  | one y g1=>
   have k:=bQ y;simp only[bK]at j
   show(if x=y then _ else if aW x<aW y then(-1:Int)else 1)=_
   rw[if_neg (λe=>by rw[e]at m;omega)];exact dG (by omega)
  | two y c g1 n u v=>
   have k:=bQ y;simp only[bK]at j
   show(if x=y then _ else if aW x<aW y then(-1:Int)else 1)=_
   rw[if_neg (λe=>by rw[e]at m;omega)];exact dG (by omega)
  | three y c h g1 n u v E F G H=>
   have k:=bQ y;simp only[bK]at j
   show(if x=y then _ else if aW x<aW y then(-1:Int)else 1)=_
   rw[if_neg (λe=>by rw[e]at m;omega)];exact dG (by omega)
  | four y c h s g1 n u v E F G H g9 K=>
   have k:=bQ y;have T:=bQ c;have t2:=bQ h;have u2:=bQ s;simp only[bK]at j
   show(if x=y then(if i=c then(if r=h then(if A=s then _ else if aW A<aW s then(-1:Int)else 1)else if aW r<aW h then(-1:Int)else 1)else if aW i<aW c then(-1:Int)else 1)else if aW x<aW y then(-1:Int)else 1)=_
   by_cases o:x=y
   .subst o;rw[if_pos rfl]
    by_cases t:i=c
    .subst t;rw[if_pos rfl]
     by_cases P:r=h
     .subst P;have d:A≠s:=λe=>U (by rw[e])
      have l:A.toNat≠s.toNat:=λe=>d (J e)
      rw[if_pos rfl,if_neg d];exact dG (by omega)
     .have l:r.toNat≠h.toNat:=λe=>P (J e)
      rw[if_neg P];exact dG (by omega)
    .have l:i.toNat≠c.toNat:=λe=>t (J e)
     rw[if_neg t];exact dG (by omega)
   .have z:x.toNat≠y.toNat:=λe=>o (J e)
    rw[if_neg o];exact dG (by omega)
end Go.Proofs.YtakkmiomhackiaaGreatDoor
