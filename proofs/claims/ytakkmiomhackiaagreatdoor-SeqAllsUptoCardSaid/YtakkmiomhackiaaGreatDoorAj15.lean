/-
  The program, one part of its walk. Conditions: none.
-/
import Derived.Test.YtakkmiomhackiaaGreatDoorAj14
import Derived.Laws.Runes
set_option linter.all false
set_option maxRecDepth 100000
set_option maxHeartbeats 16000000
open Go.Proofs.Tryz
open BitVec renaming ofInt->gy
open Bool renaming false->U,true->X
open ByteArray renaming getElem_eq_getElem_data->ii,size->ig
open Go renaming Calls->ae,Ending->bz,Value->ag,World->Z,bits->cw,bytesRow->fh,grownCap->dt,lt_of_block->fc,maxLen->ct,results->aw
open Go.Proofs.Tryz renaming func141->fm,func172->eu,func178->ei,func188->dv,func202->dh,func203->bw,func204->fj,ntmps141->fq,ntmps172->ew,ntmps178->ej,ntmps188->dw,ntmps202->di,ntmps203->bx,ntmps204->fk,prog->C,results146->ga,results172->fa,results177->dl,results195->ee
open Go.Proofs.YtakkmiomhackiaaGreatDoor.Form renaming D4->ft
open Go.Proofs.YtakkmiomhackiaaGreatDoor.Row renaming nil->ek
open List renaming not_mem_nil->gh
open Option renaming none->S,some->J
open Or renaming inl->D,inr->Y
open UInt8 renaming ofNat->ak
namespace Go.Proofs.YtakkmiomhackiaaGreatDoor
open Go.RowKit
open Addr renaming add->gq
open BinOp renaming and->dp,or->fu
open Ending renaming returned->Q
open Fn renaming func->cr
open IntKind renaming bits->ik,i32->E,i64->O,signed->il,u64->aj,u8->L,wrap->ij,wrap_u64->ie
open Lib renaming trimLeftB->bg,trimRightB->cj
open Obj renaming cells->ac
open Keeps renaming A2->bs,A4->bj
open Tr renaming object->gc
open Win renaming I6->eo
open RowKit renaming Below->az,wrap32->dm
open Utf8 renaming encode->gk,valid->gl
open Value renaming agg->av,bool->af,func->co,iface->cz,int->I,nilIface->bm,pointer->au,slice->ah,string->bh,tuple->ai
variable {c:UInt8}{b i n s:Nat}
inductive Fm:List UInt8->Prop
 | one (a:UInt8) (h:a.toNat<128):Fm [a]
 | two (a b:UInt8) (h1:194<=a.toNat) (h2:a.toNat<=223) (h3:128<=b.toNat) (h4:b.toNat<=191):Fm [a,b]
 | three (a b c:UInt8) (h1:224<=a.toNat) (h2:a.toNat<=239) (h3:128<=b.toNat) (h4:b.toNat<=191) (h5:128<=c.toNat) (h6:c.toNat<=191) (h7:a.toNat=224->160<=b.toNat) (h8:a.toNat=237->b.toNat<=159):Fm [a,b,c]
 | four (a b c d:UInt8) (h1:240<=a.toNat) (h2:a.toNat<=244) (h3:128<=b.toNat) (h4:b.toNat<=191) (h5:128<=c.toNat) (h6:c.toNat<=191) (h7:128<=d.toNat) (h8:d.toNat<=191) (h9:a.toNat=240->144<=b.toNat) (h10:a.toNat=244->b.toNat<=143):Fm [a,b,c,d]
def bM:List UInt8->Nat
 | [a]=>a.toNat
 | [a,b]=>64*(a.toNat-192)+(b.toNat-128)
 | [a,b,c]=>64*(64*(a.toNat-224)+(b.toNat-128))+(c.toNat-128)
 | [a,b,c,d]=>64*(64*(64*(a.toNat-240)+(b.toNat-128))+(c.toNat-128))+(d.toNat-128)
 | _=>0
def uA(c:UInt8)(h:(aC c).wide≠0):(c.toNat<128/\(aC c).wide=1)\/(194<=c.toNat/\c.toNat<=223/\aC c=⟨2,128,191⟩)\/
 (224<=c.toNat/\c.toNat<=239/\aC c=⟨3,if c.toNat=224 then 160 else 128,if c.toNat=237 then 159 else 191⟩)\/(240<=c.toNat/\c.toNat<=244/\aC c=⟨4,if c.toNat=240 then 144 else 128,if c.toNat=244 then 143 else 191⟩):=by
 revert h;unfold aC;by_cases f:c.toNat<128
 .rw[pz f];intro _;exact D ⟨f,rfl⟩
 .rw[py f];by_cases j:c.toNat<194
  .rw[pz j];intro h;exact absurd rfl h
  .rw[py j];by_cases k:c.toNat<224
   .rw[pz k];intro _;exact Y (D ⟨by omega,by omega,rfl⟩)
   .rw[py k];by_cases a:c.toNat=224
    .rw[pz a];intro _;exact Y (Y (D ⟨by omega,by omega,by rw[pz a,py]⟩))
    .rw[py a];by_cases d:c.toNat=237
     .rw[pz d];intro _;exact Y (Y (D ⟨by omega,by omega,by rw[py a,pz d]⟩))
     .rw[py d];by_cases g:c.toNat<240
      .rw[pz g];intro _;exact Y (Y (D ⟨by omega,by omega,by rw[py a,py d]⟩))
      .rw[py g];by_cases b:c.toNat=240
       .rw[pz b];intro _;exact Y (Y (Y ⟨by omega,by omega,by rw[pz b,py]⟩))
       .rw[py b];by_cases i:c.toNat<244
        .rw[pz i];intro _;exact Y (Y (Y ⟨by omega,by omega,by rw[py b,py]⟩))
        .rw[py i];by_cases e:c.toNat=244
         .rw[pz e];intro _;exact Y (Y (Y ⟨by omega,by omega,by rw[py b,pz e]⟩))
         .rw[py e];intro h;exact absurd rfl h
def wL{f:Form}:f.D4 1 c=X<->f.low<=c.toNat/\c.toNat<=f.g:=by unfold ft;rw[pz rfl];simp
def aCW{f:Form}(hi:i≠1):f.D4 i c=X<->128<=c.toNat/\c.toNat<=191:=by unfold ft;rw[py hi];simp
def mZ{t:Oo}(h:eC (c::t)=.ok n):Fm ((c::t).take n)/\n=((c::t).take n).length:=by
 unfold eC at h;simp only at h;by_cases o:(aC c).wide=0
 .rw[pz o]at h;cases h
 .rw[py o]at h;rcases uA c o with⟨j,i⟩|⟨j,i,k⟩|⟨j,i,k⟩|⟨j,i,k⟩
  .rw[i]at h;unfold cJ at h;cases h;exact⟨.one c j,rfl⟩
  .rw[k]at h;cases t with
   | nil=>simp[cJ]at h
   | cons b t=>
    simp only[cJ]at h;split at h
    .rename_i a;cases h;rw[wL]at a;exact⟨.two c b j i a.1 a.2,rfl⟩
    .cases h
  .obtain⟨l,f⟩:∃l,(if c.toNat=224 then 160 else 128)=l:=⟨_,rfl⟩;obtain⟨hi,d⟩:∃hi,(if c.toNat=237 then 159 else 191)=hi:=⟨_,rfl⟩;rw[f,d]at k;rw[k]at h;cases t with
   | nil=>simp[cJ]at h
   | cons b t=>
    simp only[cJ]at h;split at h
    .rename_i a;cases t with
     | nil=>cases h
     | cons b2 t=>
      simp only[cJ]at h;split at h
      .rename_i g;cases h;rw[wL]at a;rw[aCW (by decide)]at g;simp only at a;refine⟨.three c b b2 j i ?_ ?_ g.1 g.2 ?_ ?_,rfl⟩
       .have:=a.1;split at f<;>omega
       .have:=a.2;split at d<;>omega
       .intro e;have:=a.1;rw[pz e]at f;omega
       .intro e;have:=a.2;rw[pz e]at d;omega
      .cases h
    .cases h
  .obtain⟨l,f⟩:∃l,(if c.toNat=240 then 144 else 128)=l:=⟨_,rfl⟩;obtain⟨hi,d⟩:∃hi,(if c.toNat=244 then 143 else 191)=hi:=⟨_,rfl⟩;rw[f,d]at k;rw[k]at h;cases t with
   | nil=>simp[cJ]at h
   | cons b t=>
    simp only[cJ]at h;split at h
    .rename_i a;cases t with
     | nil=>cases h
     | cons b2 t=>
      simp only[cJ]at h;split at h
      .rename_i g;cases t with
       | nil=>cases h
       | cons b3 t=>
        simp only[cJ]at h;split at h
        .rename_i m;cases h;rw[wL]at a;rw[aCW (by decide)]at g m;simp only at a;refine⟨.four c b b2 b3 j i ?_ ?_ g.1 g.2 m.1 m.2 ?_ ?_,rfl⟩
         .have:=a.1;split at f<;>omega
         .have:=a.2;split at d<;>omega
         .intro e;have:=a.1;rw[pz e]at f;omega
         .intro e;have:=a.2;rw[pz e]at d;omega
        .cases h
      .cases h
    .cases h
def dG(n:Nat):List Nat:=if n<65536 then [n]else [55296+(n-65536)/1024,56320+(n-65536)%1024]
def cmpL:List Nat->List Nat->Int
 | [],[]=>0
 | [],_::_=> -1
 | _::_,[]=>1
 | x::a,y::b=>if x=y then cmpL a b else if x<y then -1 else 1
def aAO:∀(u a b:List Nat),cmpL (u++a) (u++b)=cmpL a b
 | [],_,_=>rfl
 | x::u,a,b=>by show(if x=x then _ else _)=_;rw[pz rfl];exact aAO u a b
def aAP:∀(u a b:Oo),eE (u++a) (u++b)=eE a b
 | [],_,_=>rfl
 | x::u,a,b=>by show(if x=x then _ else _)=_;rw[pz rfl];exact aAP u a b
def keyOf(n:Nat):Nat:=if n<57344 then n else if n<65536 then n+2000000 else n
def aHu{m:Nat}(f:fM n)(e:fM m)(h:n≠m)(a b:List Nat):cmpL (dG n++a) (dG m++b)=if keyOf n<keyOf m then -1 else 1:=by
 unfold fM at f e;unfold dG keyOf;by_cases d:n<65536
 .rw[pz d];by_cases c:m<65536
  .rw[pz c];show(if n=m then _ else if n<m then(-1:Int)else 1)=_;rw[py h]
   repeat' split
   all_goals first|rfl|omega
  .rw[py c];show(if n=55296+(m-65536)/1024 then _ else if n<55296+(m-65536)/1024 then(-1:Int)else 1)=_;rw[py]
   repeat' split
   all_goals first|rfl|omega
 .rw[py d];by_cases c:m<65536
  .rw[pz c];show(if 55296+(n-65536)/1024=m then _ else if 55296+(n-65536)/1024<m then(-1:Int)else 1)=_;rw[py]
   repeat' split
   all_goals first|rfl|omega
  .rw[py c];show(if 55296+(n-65536)/1024=55296+(m-65536)/1024 then(if 56320+(n-65536)%1024=56320+(m-65536)%1024 then _ else if 56320+(n-65536)%1024<56320+(m-65536)%1024 then(-1:Int)else 1)else if 55296+(n-65536)/1024<55296+(m-65536)/1024 then -1 else 1)=_;by_cases g:(n-65536)/1024=(m-65536)/1024
   .rw[pz,py]
    repeat' split
    all_goals first|rfl|omega
   .rw[py]
    repeat' split
    all_goals first|rfl|omega
def aBD{f:Oo}(h:Fm f):fM (bM f):=by
 unfold fM;cases h<;>simp only[bM]<;>omega
def bS(x:UInt8):(x.toNat<238->aZ x=x.toNat)/\(238<=x.toNat->x.toNat<240->aZ x=x.toNat+16)/\(240<=x.toNat->aZ x=x.toNat-2):=by
 unfold aZ;refine⟨λh=>pz h,λb a=>?_,λh=>?_⟩
 .rw[py,pz a]
 .rw[py,py]
def aJB(n:Nat):(n<57344->keyOf n=n)/\(57344<=n->n<65536->keyOf n=n+2000000)/\(65536<=n->keyOf n=n):=by
 unfold keyOf;refine⟨λh=>pz h,λb a=>?_,λh=>?_⟩
 .rw[py,pz a]
 .rw[py,py]
def dK{p q:Prop} [Decidable p] [Decidable q](h:p<->q):(if p then(-1:Int)else 1)=if q then -1 else 1:=by
 by_cases a:p
 .rw[pz a,pz (h.1 a)]
 .rw[py a,py (λb=>a (h.2 b))]
def aEY{f g:Oo}(hf:Fm f)(F:Fm g)(a0:f≠g)(a b:Oo):eE (f++a) (g++b)=if keyOf (bM f)<keyOf (bM g)then -1 else 1:=by
 have G:=aJB (bM f);have j:=aJB (bM g);generalize keyOf (bM f)=p at*;generalize keyOf (bM g)=q at*;cases hf with
 | one x m=>
  have H:=bS x;simp only[bM]at G;cases F with
  | one y g1=>
   have k:=bS y;simp only[bM]at j;show(if x=y then _ else if aZ x<aZ y then(-1:Int)else 1)=_;have d:x≠y:=λe=>a0 (by rw[e]);have l:x.toNat≠y.toNat:=λe=>d (kb e);rw[py d];exact dK (by omega)
  | two y c g1 n=>
   have k:=bS y;simp only[bM]at j;show(if x=y then _ else if aZ x<aZ y then(-1:Int)else 1)=_;rw[py (λe=>by rw[e]at m;omega)];exact dK (by omega)
  | three y c h g1 n=>
   have k:=bS y;simp only[bM]at j;show(if x=y then _ else if aZ x<aZ y then(-1:Int)else 1)=_;rw[py (λe=>by rw[e]at m;omega)];exact dK (by omega)
  | four y c h s g1 n=>
   have k:=bS y;simp only[bM]at j;show(if x=y then _ else if aZ x<aZ y then(-1:Int)else 1)=_;rw[py (λe=>by rw[e]at m;omega)];exact dK (by omega)
 | two x i m w W h4=>
  have H:=bS x;have s1:=bS i;simp only[bM]at G;cases F with
  | one y g1=>
   have k:=bS y;simp only[bM]at j;show(if x=y then _ else if aZ x<aZ y then(-1:Int)else 1)=_;rw[py (λe=>by rw[e]at m;omega)];exact dK (by omega)
  | two y c g1 n u v=>
   have k:=bS y;have s2:=bS c;simp only[bM]at j;show(if x=y then(if i=c then _ else if aZ i<aZ c then(-1:Int)else 1)else if aZ x<aZ y then(-1:Int)else 1)=_;by_cases o:x=y
   .subst o;have d:i≠c:=λe=>a0 (by rw[e]);have l:i.toNat≠c.toNat:=λe=>d (kb e);rw[pz rfl,py d];exact dK (by omega)
   .have z:x.toNat≠y.toNat:=λe=>o (kb e);rw[py o];exact dK (by omega)
  | three y c h g1 n=>
   have k:=bS y;simp only[bM]at j;show(if x=y then _ else if aZ x<aZ y then(-1:Int)else 1)=_;rw[py (λe=>by rw[e]at w;omega)];exact dK (by omega)
  | four y c h s g1 n=>
   have k:=bS y;simp only[bM]at j;show(if x=y then _ else if aZ x<aZ y then(-1:Int)else 1)=_;rw[py (λe=>by rw[e]at w;omega)];exact dK (by omega)
 | three x i r m w W h4 h5 h6 h7 h8=>
  have H:=bS x;have s1:=bS i;have t1:=bS r;simp only[bM]at G;cases F with
  | one y g1=>
   have k:=bS y;simp only[bM]at j;show(if x=y then _ else if aZ x<aZ y then(-1:Int)else 1)=_;rw[py (λe=>by rw[e]at m;omega)];exact dK (by omega)
  | two y c g1 n u v=>
   have k:=bS y;simp only[bM]at j;show(if x=y then _ else if aZ x<aZ y then(-1:Int)else 1)=_;rw[py (λe=>by rw[e]at m;omega)];exact dK (by omega)
  | three y c h g1 n u v K N P R=>
   have k:=bS y;have s2:=bS c;have t2:=bS h;simp only[bM]at j;show(if x=y then(if i=c then(if r=h then _ else if aZ r<aZ h then(-1:Int)else 1)else if aZ i<aZ c then(-1:Int)else 1)else if aZ x<aZ y then(-1:Int)else 1)=_;by_cases o:x=y
   .subst o;rw[pz rfl];by_cases t:i=c
    .subst t;have d:r≠h:=λe=>a0 (by rw[e]);have l:r.toNat≠h.toNat:=λe=>d (kb e);rw[pz rfl,py d];exact dK (by omega)
    .have l:i.toNat≠c.toNat:=λe=>t (kb e);rw[py t];exact dK (by omega)
   .have z:x.toNat≠y.toNat:=λe=>o (kb e);rw[py o];exact dK (by omega)
  | four y c h s g1 n u v K N P R g9 T=>
   have k:=bS y;simp only[bM]at j;show(if x=y then _ else if aZ x<aZ y then(-1:Int)else 1)=_;rw[py (λe=>by rw[e]at w;omega)];exact dK (by omega)
 | four x i r B m w W h4 h5 h6 h7 h8 h9 i1=>
  have H:=bS x;have s1:=bS i;have t1:=bS r;have u1:=bS B;simp only[bM]at G;cases F with
  | one y g1=>
   have k:=bS y;simp only[bM]at j;show(if x=y then _ else if aZ x<aZ y then(-1:Int)else 1)=_;rw[py (λe=>by rw[e]at m;omega)];exact dK (by omega)
  | two y c g1 n u v=>
   have k:=bS y;simp only[bM]at j;show(if x=y then _ else if aZ x<aZ y then(-1:Int)else 1)=_;rw[py (λe=>by rw[e]at m;omega)];exact dK (by omega)
  | three y c h g1 n u v K N P R=>
   have k:=bS y;simp only[bM]at j;show(if x=y then _ else if aZ x<aZ y then(-1:Int)else 1)=_;rw[py (λe=>by rw[e]at m;omega)];exact dK (by omega)
  | four y c h s g1 n u v K N P R g9 T=>
   have k:=bS y;have s2:=bS c;have t2:=bS h;have u2:=bS s;simp only[bM]at j;show(if x=y then(if i=c then(if r=h then(if B=s then _ else if aZ B<aZ s then(-1:Int)else 1)else if aZ r<aZ h then(-1:Int)else 1)else if aZ i<aZ c then(-1:Int)else 1)else if aZ x<aZ y then(-1:Int)else 1)=_;by_cases o:x=y
   .subst o;rw[pz rfl];by_cases t:i=c
    .subst t;rw[pz rfl];by_cases V:r=h
     .subst V;have d:B≠s:=λe=>a0 (by rw[e]);have l:B.toNat≠s.toNat:=λe=>d (kb e);rw[pz rfl,py d];exact dK (by omega)
     .have l:r.toNat≠h.toNat:=λe=>V (kb e);rw[py V];exact dK (by omega)
    .have l:i.toNat≠c.toNat:=λe=>t (kb e);rw[py t];exact dK (by omega)
   .have z:x.toNat≠y.toNat:=λe=>o (kb e);rw[py o];exact dK (by omega)
def aMt{c d:Cut}(e:c.bits<=aM)(a:¬aM<b->d.bits<=aM):(if aM<b then c else d).bits<=aM:=by
 split
 .exact e
 .rename_i h;exact a h
def aMc(q r:Nat)(a:Int):(kD q r a).bits<=aM:=aMt (hU _) (λh=>Nat.not_lt.1 h)
def aKD(d:Dml):(bQ d).bits<=aM:=by
 unfold bQ;split
 .exact dr _
 .split
  .exact hU _
  .split
   .exact dr _
   .split<;>exact aMc _ _ _
def uV(h:b<9223372036854775808):cw fu aj (b:Int) 9223372036854775808=((b+9223372036854775808:Nat):Int):=by
 have e:=bits_or_u64_nat b 9223372036854775808 (by omega) (by decide)
 have a:b||| 9223372036854775808=b+9223372036854775808:=by
  have:=Nat.two_pow_add_eq_or_of_lt (i:=63) (b:=b) (by simpa using h) 1;rw[Nat.or_comm,lw];simpa using this.symm
 rw[a]at e;exact e
def and_one(h:b<18446744073709551616):cw dp aj (b:Int) 1=((b%2:Nat):Int):=by
 have e:=bits_and_u64_nat b 1 h (by decide);rw[Nat.and_one_is_mod]at e;exact e
def jC(neg:Bool)(b:Nat):Nat:=if neg=X/\0<b then b+9223372036854775808 else b
def gK(neg:Bool)(b:Nat):Option Nat:=if aM<b then S else J (jC neg b)
def zN(o:Option Nat)(e:bz):Prop:=match o with
 | some b=>e=Q (ai #[I aj b,bm])
 | none=>e=Q (ai #[I aj 0,cz 29 (I O 41)])
def aG4(o:Option Nat)(e:bz):Prop:=match o with
 | some b=>e=Q (ai #[I aj b,bm])
 | none=>∃T v,e=Q (ai #[I aj 0,cz T v])
def aD8(neg:Bool)(g:ByteArray)(e:Int)(w:Z)(d:rH g.data.toList)(y:g.size<=1073741824)(z: -4611686018427387904<=e)(p:e<=4611686018427387904)(a:g.size≠0->0<bO g.data.toList):
 ae C 195 #[av #[neg,g,e],I O 1] w λr w'=>zN (cF ⟨neg,g.data.toList,e⟩) r/\az w w w':=by
 have t:=λw=>aIC neg g e w d y z p a;have n:=aKD ⟨neg,g.data.toList,e⟩;have f:cF ⟨neg,g.data.toList,e⟩=gK neg (cC (bQ ⟨neg,g.data.toList,e⟩)):=rfl;rw[f];clear f d a;obtain⟨⟨b,l,x⟩,a⟩:∃c,bQ ⟨neg,g.data.toList,e⟩=c:=⟨_,rfl⟩;simp only[a]at*;clear a;unfold cutV at t;go_enter func195,ntmps195;go_wp2_with fail;refine(t _).mono ?_;rintro r w1 ⟨rfl,h⟩;obtain⟨d,a,B⟩:=after1 h;have b1:az w1.heap.size w1 (w1.alloc (ac #[I aj b,I O l,x] 359)):=(dk _ _).alloc (hU _) _;have F:=keep d b1;obtain⟨-,-,-,-⟩:=cells3 F;have u:=A (and_one (b:=b) (by unfold aM at n;omega));have f:=A (λo:Obj=>a.alloc (by omega) o);have G:∀o:Obj,(w1.alloc o).cell? ⟨w.heap.size,0,S⟩=J (af neg):=λo=>(cells3 (keep d ((dk _ _).alloc (hU _) o))).1;clear h d a b1
 have h:∃a:Nat,cC ⟨b,l,x⟩=a/\a<9223372036854775808/\((l=0/\cw dp aj (b:Int) 1=0/\a=b)\/(l=0/\cw dp aj (b:Int) 1=1/\x=U/\aj.wrap ((b:Int)+1)=(a:Int))\/(l=0/\cw dp aj (b:Int) 1=1/\x=X/\a=b)\/((l==0)=U/\0<=l/\x=U/\aj.wrap ((b:Int)+1)=(a:Int))\/((l==0)=U/\0<=l/\x=X/\a=b)\/((l==0)=U/\¬0<=l/\a=b)):=by
  have j:b+1<9223372036854775808:=by unfold aM at n;omega
  have k:aj.wrap ((b:Int)+1)=((b+1:Nat):Int):=by rw[ie];omega
  unfold cC;by_cases m:l=0
  .subst m;by_cases d:b%2=0
   .exact⟨b,pz ⟨rfl,d⟩,by omega,D ⟨rfl,by rw[u.o,d];rfl,rfl⟩⟩
   .have i:cw dp aj (b:Int) 1=1:=(by rw[u.o,show b%2=1 by omega];rfl);rw[py (λl=>d l.2)];cases x
    .exact⟨b+1,pz ⟨Int.le_refl 0,rfl⟩,j,Y (D ⟨rfl,i,rfl,k⟩)⟩
    .exact⟨b,py (by simp),by omega,Y (Y (D ⟨rfl,i,rfl,rfl⟩))⟩
  .have q:(l==0)=U:=(by simpa using m);rw[py (λs=>m s.1)];by_cases d:0<=l
   .cases x
    .exact⟨b+1,pz ⟨d,rfl⟩,j,Y (Y (Y (D ⟨q,d,rfl,k⟩)))⟩
    .exact⟨b,py (by simp),by omega,Y (Y (Y (Y (D ⟨q,d,rfl,rfl⟩))))⟩
   .exact⟨b,py (λs=>d s.1),by omega,Y (Y (Y (Y (Y ⟨q,d,rfl⟩))))⟩
 obtain⟨a,d,q,h⟩:=h;have j:=A d;clear d;rcases h with⟨rfl,a1,rfl⟩|⟨rfl,a1,rfl,a2⟩|⟨rfl,a1,rfl,rfl⟩|⟨a1,a2,rfl,a3⟩|⟨a1,a2,rfl,rfl⟩|⟨a1,a2,rfl⟩
 all_goals
  by_cases k:aM<a
  .have s:(9218868437227405311:Int)<(a:Int):=(by unfold aM at k;omega);have d:=A (show gK neg a=S from pz k);clear k;go_wp2_with fail;exact bb (v:=ai #[I aj 0,cz 29 (I O 41)]) (by simp[aw,ee,go_sem]) rfl ⟨by rw[j.o,d.o];rfl,f.o _⟩
  .have s:¬(9218868437227405311:Int)<(a:Int):=(by unfold aM at k;omega);have d:=A (show gK neg a=J (jC neg a)from py k);clear k;have H:=uV q;cases neg with
   | false=>
    go_wp2_with fail;exact bb (v:=ai #[I aj a,bm]) (by simp[aw,ee,go_sem]) rfl ⟨by rw[j.o,d.o];rfl,f.o _⟩
   | true=>
    by_cases k:0<a
    .have i:(0:Int)<(a:Int):=(by omega);have m:=A (show jC X a=a+9223372036854775808 from pz ⟨rfl,k⟩);clear k;go_wp2_with fail;exact bb (v:=ai #[I aj ((a+9223372036854775808:Nat):Int),bm]) (by simp[aw,ee,go_sem]) rfl ⟨by rw[j.o,d.o,m.o];rfl,f.o _⟩
    .have i:¬(0:Int)<(a:Int):=(by omega);have m:=A (show jC X a=a from py (λl=>k l.2));clear k;go_wp2_with fail;exact bb (v:=ai #[I aj a,bm]) (by simp[aw,ee,go_sem]) rfl ⟨by rw[j.o,d.o,m.o];rfl,f.o _⟩
def aCf(w:Z):ae C 193 #[I O 1] w λe w'=>e=Q (af X)/\w'=w:=by
 go_enter func193,ntmps193;go_wp2;go_ret;exact⟨rfl,rfl⟩
def aID{l r:Oo}(h:l.dropWhile (λx=>x==48)=c::r):c≠48:=by
 induction l with
 | nil=>cases h
 | cons x l b=>
  by_cases a:(x==48)=X
  .rw[List.dropWhile_cons_of_pos (by simpa using a)]at h;exact b h
  .rw[List.dropWhile_cons_of_neg (by simpa using a)]at h;injection h with d h2;subst d;intro e;subst e;exact a rfl
def aKE(neg:Bool)(a:Oo)(e:Int)(j:∀c∈a,isD c=X):rH (cB neg a e).c/\(cB neg a e).c.length<=a.length/\((cB neg a e).c≠ []->0<bO (cB neg a e).c)/\
 ((cB neg a e).b=0\/(e<=(cB neg a e).b/\(cB neg a e).b<=e+a.length)):=by
 unfold cB;split
 .exact⟨(λc b=>by cases b),dr _,λh=>absurd rfl h,D rfl⟩
 .rename_i i;have o:∀c∈bg a 48,c∈a:=λc b=>(np _).subset b;have n:(bg a 48).length<=a.length:=(np _).length_le
  obtain⟨V,g⟩:∃V,bg a 48=cj (bg a 48) 48++V:=by
   have p:=List.dropWhile_suffix (l:=(bg a 48).reverse) (λx:UInt8=>x==48);obtain⟨t,m⟩:=p;refine⟨t.reverse,?_⟩;have:=congrArg List.reverse m;rw[List.reverse_append,List.reverse_reverse]at this;exact this.symm
  have d:∀c∈cj (bg a 48) 48,c∈a:=λc b=>o c (by rw[g];exact List.mem_append_left _ b)
  have s:(cj (bg a 48) 48).length<=(bg a 48).length:=by
   have:=congrArg List.length g;rw[cn]at this;omega
  refine⟨λc b=>by have:=j c (d c b);simpa[isD]using this,by show(cj (bg a 48) 48).length<=_;omega,λ_=>?_,Y ⟨?_,?_⟩⟩
  .show 0<bO (cj (bg a 48) 48)
   cases k:cj (bg a 48) 48 with
   | nil=>exact absurd k i
   | cons c r=>
    rw[k]at g d;have b:=aID (l:=a) (r:=r++V) (c:=c) g;have f:=j c (d c (by simp));have w:48<=c.toNat:=(by simp[isD]at f;exact f.1);have v:c.toNat≠48:=λh=>b (UInt8.toNat_inj.1 h);have u:bO (c::r)=bO [c]*10^r.length+bO r:=jV [c] r;have q:bO [c]=c.toNat-48:=(by simp[bO]);rw[u,q];exact a7 (Nat.mul_pos (by omega) (Nat.pow_pos (by decide))) (Nat.le_add_right _ _)
  .show e<=e+((bg a 48).length:Int)-((cj (bg a 48) 48).length:Int);omega
  .show e+((bg a 48).length:Int)-((cj (bg a 48) 48).length:Int)<=_;omega
def aIE(s:ByteArray)(w:Z)(W:s.size<=1073741824):ae C 172 #[s,I O 1] w λe w'=>aG4 (bitsOf s.data.toList) e/\az w w w':=by
 have g:=λw=>aGd s w W;have R:s.data.toList.length=s.size:=jt;cases j:bI s.data.toList with
 | none=>
  have b:bitsOf s.data.toList=S:=by unfold bitsOf;rw[j];rfl
  rw[b];simp only[j]at g;have q:=A g;clear j b g;go_enter eu,ew;go_wp2_with fail;refine(aCf _).mono ?_;rintro e w1 ⟨rfl,rfl⟩;go_wp2_with fail;refine(q.o _).mono ?_;rintro e w1 ⟨⟨i,rfl⟩,b⟩;have f:=A (b.alloc b.size (ac #[af U,"",I O 0] 339));clear b;unfold fV;go_wp2_with fail;exact bb (v:=ai #[I aj 0,cz 151 (av #[I O 40,i])]) (by simp[aw,fa,go_sem]) rfl ⟨⟨_,_,rfl⟩,f.o⟩
 | some l=>
  obtain⟨o1,o2,N,V⟩:=aG3 j;have b:bitsOf s.data.toList=cF (dA l):=by unfold bitsOf;rw[j];rfl
  have t:=aA3 (a:=0) (l:=l.b) (by omega) (λc H=>by have:=N c H;simp[isD]at this;exact this.2);obtain⟨y,F,B,G⟩:=aKE l.a (l.whole++l.c) ((if l.d then -(fH l.b:Int)else fH l.b)-l.c.length) (λc H=>(List.mem_append.1 H).elim (o1 c) (o2 c))
  have T: -351843720888329<=(if l.d then -(fH l.b:Int)else fH l.b)/\(if l.d then -(fH l.b:Int)else fH l.b)<=351843720888329:=by
   have:fH l.b<=351843720888329:=t;split<;>omega
  rw[cn]at F G;change rH (dA l).c at y;change(dA l).c.length<=_ at F;change((dA l).c≠ []->0<bO (dA l).c)at B;change((dA l).b=0\/(_<=(dA l).b/\(dA l).b<=_))at G;simp only[j]at g;rw[b];obtain⟨⟨n,m,o⟩,K⟩:∃d,dA l=d:=⟨_,rfl⟩;have g:∀w,ae C 194 #[s] w λe w'=>e=Q (ai #[fV (dA l),bm])/\az w.heap.size w w':=g;simp only[K]at*;have u:=λw=>aD8 n ⟨m.toArray⟩ o w (by simpa using y) (by show m.toArray.size<=_;simp;omega) (by omega) (by omega) (λh=>by have:=B (λP=>h (by subst P;rfl));simpa using this);have u:∀w,ae C 195 #[av #[n,bh ⟨m.toArray⟩,o],I O 1] w λr w'=>zN (cF ⟨n,m,o⟩) r/\az w.heap.size w w':=by simpa using u
  have q:=A g;have x:=A u;clear j b g u K y F B G T t o1 o2 N V;unfold fV at q;cases p:cF ⟨n,m,o⟩with
  | none=>
   rw[p]at x;go_enter eu,ew;go_wp2_with fail;refine(aCf _).mono ?_;rintro e w1 ⟨rfl,rfl⟩;go_wp2_with fail;refine(q.o _).mono ?_;rintro e w1 ⟨rfl,b⟩;have f:=A (b.alloc b.size (ac #[n,bh ⟨m.toArray⟩,o] 339));clear b;go_wp2_with fail;refine(x.o _).mono ?_;rintro e w2 ⟨rfl,b⟩;have k:=A (chain f.o b);clear b;go_wp2_with fail;exact bb (v:=ai #[I aj 0,cz 29 (I O 41)]) (by simp[aw,fa,go_sem]) rfl ⟨⟨_,_,rfl⟩,k.o⟩
  | some z=>
   rw[p]at x;go_enter eu,ew;go_wp2_with fail;refine(aCf _).mono ?_;rintro e w1 ⟨rfl,rfl⟩;go_wp2_with fail;refine(q.o _).mono ?_;rintro e w1 ⟨rfl,b⟩;have f:=A (b.alloc b.size (ac #[n,bh ⟨m.toArray⟩,o] 339));clear b;go_wp2_with fail;refine(x.o _).mono ?_;rintro e w2 ⟨rfl,b⟩;have k:=A (chain f.o b);clear b;go_wp2_with fail;exact bb (v:=ai #[I aj z,bm]) (by simp[aw,fa,go_sem]) rfl ⟨rfl,k.o⟩
def aD9(s:ByteArray)(w:Z)(f:s.size<=1073741824):ae C 146 #[s] w λe w'=>aG4 (bitsOf s.data.toList) e/\az w w w':=by
 have c:=A (λw=>aIE s w f);cases d:bitsOf s.data.toList with
 | none=>
  rw[d]at c;go_enter func146,ntmps146;go_wp2_with fail;refine(c.o _).mono ?_;rintro e w1 ⟨⟨T,v,rfl⟩,a⟩;go_wp2_with fail;exact bb (v:=ai #[I aj 0,cz T v]) (by simp[aw,ga,go_sem]) rfl ⟨⟨_,_,rfl⟩,a⟩
 | some b=>
  rw[d]at c;go_enter func146,ntmps146;go_wp2_with fail;refine(c.o _).mono ?_;rintro e w1 ⟨rfl,a⟩;go_wp2_with fail;exact bb (v:=ai #[I aj b,bm]) (by simp[aw,ga,go_sem]) rfl ⟨rfl,a⟩
def vR(w:Z)(b:Nat)(z q t m u n r B o s p y x c:ag)(a:Oo)(h:w.heap[b]?=J (ac #[z,q,t,m,u,n,c,r,B,o,s,p,y,x] 228 (0,0)))
 (k:Win 5 bZ w c a)(j:a.length<=1073741824)(l:bitsOf a=S):
 ae C 110 #[au b] w λe w'=>e=Q (af U)/\az w w w':=by
 obtain⟨-,-,-,-,-,-,F,-,-,-,-,-,-,-,-⟩:=aN h;have d:=fK k;have i:=A (aD9 ⟨a.toArray⟩ w (by show a.toArray.size<=_;simpa using j));rw[show(⟨a.toArray⟩:ByteArray).data.toList=a by simp,l]at i;clear h k l j;go_enter func110,ntmps110;go_wp2_with fail;refine(i.o).mono ?_;rintro e w1 ⟨⟨T,v,rfl⟩,g⟩;have f:=A g;clear g;go_wp2;go_ret;exact⟨rfl,f.o⟩
def vS(w:Z)(b pl i:Nat)(x y W v4 z B F G K N d a:ag)(c:Oo)(toks:List ag)(f:Nat)(P:w.heap[b]?=J (ac #[pl,x,y,W,v4,i,d,z,B,F,G,K,N,a] 228 (0,0)))
 (m:Win 5 bZ w d c)(q:c.length<=1073741824)(r:bitsOf c=J f)(j:Win 232 id w a toks)(n:toks.length<=1000)(o:i<=pl)(p:pl<=1073741824):
 ae C 110 #[au b] w λe w'=>jQ w b a toks (bU (.num i (pl-i) f)) (λv=> #[pl,x,y,co (cr 104) #[] #[],af U,i,d,z,B,F,G,K,N,v]) (af X) e w':=by
 obtain⟨-,-,-,-,-,-,t,-,-,-,-,-,-,cd,-⟩:=aN P;have h:=fK m;have R:=A (aD9 ⟨c.toArray⟩ w (by show c.toArray.size<=_;simpa using q));rw[show(⟨c.toArray⟩:ByteArray).data.toList=c by simp,r]at R;have H:=A P;have HW:=A j
 have l:∀k,a.ownBlock=J k->k<w.heap.size:=by
  intro k s;rcases j with⟨rfl,_⟩|⟨g,off,cap,u,rfl,T,_⟩
  .cases s
  .cases s;exact fc T
 clear P m r q j l;go_enter func110,ntmps110;go_wp2_with fail;refine(R.o).mono ?_;rintro e w1 ⟨rfl,l⟩;have m:=keep H.o l;have j:Win 232 id w1 a toks:=HW.o.A0 (bs (λ_=>False) l) (λ_ _=>id);obtain⟨s,-,-,-,-,-,-,-,-,-,-,-,-,-,-⟩:=aN m;have T:=A m;have q:=A j;have r:=A l;clear m j l t cd h;go_wp2_with fail;refine(rX w1 b _ i pl T.o rfl o p).mono ?_;rintro e w2 ⟨rfl,h⟩;have m:=keep T.o h;have j:Win 232 id w2 a toks:=q.o.A0 (bs (λ_=>False) h) (λ_ _=>id);have l:=A (chain r.o h);clear s h;have HT:=A (rY w2 b _ _ _ _ _ _ _ _ _ _ _ _ _ a 271 (av #[i,I O ((pl-i:Nat):Int),I aj f]) toks m j n);clear m j;go_wp2_with fail;refine(HT.o).mono ?_;rintro e w3 ⟨rfl,g,off,cap,V,h,j,m⟩;have H3:=A V;have s:=A h;have t:=A j;have u:=A m;clear V h j m;go_wp2;go_ret;exact⟨rfl,g,off,cap,H3.o,s.o,t.o.elim D (λP=>Y (bo l.o.size P)),(bs _ l.o).same u.o⟩
def aAA(w:Z)(b s:Nat)(n o p q r t u v x y z B a:ag)(d:UInt8)(l:Oo)(F:w.heap[b]?=J (ac #[n,o,p,q,r,t,a,s,u,v,x,y,z,B] 228 (0,0)))(c:s<=8)
 (f:aR s d=S)(g:bL s=X)(h:Win 5 bZ w a l)(i:l.length<=1073741824)(j:bitsOf l=S):
 ae C 139 #[au b,I L d.toNat] w λe w'=>e=Q (I O 41)/\az w w w':=by
 have G:=A (vR w b _ _ _ _ _ _ _ _ _ _ _ _ _ a l F h i j);obtain⟨H,c1,c2,K,N,P,R,T,V,W,ca,cb,cc,cd,cf⟩:=aN F;have k:=A (tG s c d);have m:=A (lM s c);rw[f]at k;rw[g]at m;clear F f g c h i j;go_enter func139,ntmps139;go_wp2_with fail;refine(k.o _).mono ?_;rintro e w1 ⟨rfl,rfl⟩;go_wp2_with fail;refine(m.o _).mono ?_;rintro e w1 ⟨rfl,rfl⟩;go_wp2_with fail;refine(G.o).mono ?_;rintro e w2 ⟨rfl,c⟩;have f:=A c;clear c;go_wp2;go_ret;exact⟨rfl,f.o⟩
def aCg(w:Z)(b s pl g:Nat)(o p P R q r t u x a c:ag)(k:UInt8)(l:Oo)(toks:List ag)(d:Nat)(a0:bz->Z->Prop)(T:w.heap[b]?=J (ac #[pl,o,p,P,R,g,a,s,q,r,t,u,x,c] 228 (0,0)))(m:s<=8)
 (y:aR s k=S)(z:bL s=X)(B:Win 5 bZ w a l)(F:l.length<=1073741824)(G:bitsOf l=J d)(H:Win 232 id w c toks)(h:toks.length<=1000)(i:g<=pl)(j:pl<=1073741824)
 (f:∀w',jQ w b c toks (bU (.num g (pl-g) d)) (λv=> #[pl,o,p,co (cr 104) #[] #[],af U,g,a,s,q,r,t,u,x,v]) (af X) (Q (af X)) w'->
  ae C 104 #[au b,I L k.toNat] w' λe w2=>(∃n,e=Q (I O n))/\a0 e w2):
 ae C 139 #[au b,I L k.toNat] w a0:=by
 have V:=A (vS w b pl g _ _ _ _ _ _ _ _ _ _ a c l toks d T B F G H h i j);obtain⟨c0,c1,c2,c3,c4,c5,c6,c7,c8,c9,ca,cb,cc,cd,cf⟩:=aN T;have K:=A (tG s m k);have N:=A (lM s m);rw[y]at K;rw[z]at N;have W:=A f;clear T y z m B F G H h i j f;go_enter func139,ntmps139;go_wp2_with fail;refine(K.o _).mono ?_;rintro e w1 ⟨rfl,rfl⟩;go_wp2_with fail;refine(N.o _).mono ?_;rintro e w1 ⟨rfl,rfl⟩;go_wp2_with fail;refine(V.o).mono ?_;intro e w2 f;obtain rfl:=f.1;have h:=A (W.o w2 f);clear f;go_wp2_with fail;refine(h.o).mono ?_;rintro e j ⟨⟨n,rfl⟩,f⟩;have i:=A f;clear f;go_wp2_with fail
 first
  | exact i.o
  | (go_ret;exact i.o)
section
inductive Small:Tr->Prop
 | null:Small .null
 | flag (b:Bool):Small (.flag b)
 | num (x:Nat):Small (.num x)
 | text (s:List UInt8):Small (.text s)
 | list (l:List Tr) (hl:l.length<=65536) (h:∀t∈l,Small t):Small (.list l)
 | object (keys:List (List UInt8)) (l:List Tr) (hk:keys.length=l.length) (hl:l.length<=65536) (h:∀t∈l,Small t):Small (gc keys l)
section
variable {F G:Nat->Prop} {w w':Z} {v:ag} {t:Tr}
end
section
variable {F G:Nat->Prop} {w w':Z} {vals:List ag} {l:List Tr}
end
end
structure Stp where
 a:Nat
 c:Bool
 b:Nat
 d:List UInt8
 e:Nat
 f:List (List UInt8)
def Tr.F3:Tr->List Stp
 | .null=> [⟨1,U,0,[],0,[]⟩]
 | .flag b=> [⟨2,b,0,[],0,[]⟩]
 | .num x=> [⟨3,U,x,[],0,[]⟩]
 | .text s=> [⟨4,U,0,s,0,[]⟩]
 | .list l=>(l.attach.map λx=>Tr.F3 x.1).flatten++ [⟨5,U,0,[],l.length,[]⟩]
 | .object keys l=>(l.attach.map λx=>Tr.F3 x.1).flatten++ [⟨6,U,0,[],0,keys⟩]
termination_by t=>t
decreasing_by all_goals(simp_wf;have:=List.sizeOf_lt_of_mem x.2;omega)
def dX(l:List Tr):List Stp:=(l.map Tr.F3).flatten
def tD(l:List Tr):(Tr.list l).F3=dX l++ [⟨5,U,0,[],l.length,[]⟩]:=by
 rw[Tr.F3];unfold dX;rw[om]
def nE(keys:List Oo)(l:List Tr):(gc keys l).F3=dX l++ [⟨6,U,0,[],0,keys⟩]:=by
 rw[Tr.F3];unfold dX;rw[om]
def uN{l:List Tr}{t:Tr}(h:l[i]?=J t):dX (l.take (i+1))=dX (l.take i)++t.F3:=by
 unfold dX;rw[List.take_succ,h];simp
def aIc{l:List Tr}(i:Nat):(dX (l.take i)).length<=(dX l).length:=by
 have e:dX l=dX (l.take i)++dX (l.drop i):=by
  unfold dX;rw[<-List.flatten_append,<-kr,lm]
 rw[e,cn];omega
def aBV(t:Tr):1<=t.F3.length:=by
 cases t with
 | null=>simp[Tr.F3]
 | flag b=>simp[Tr.F3]
 | num b=>simp[Tr.F3]
 | text s=>simp[Tr.F3]
 | list l=>rw[tD];simp
 | object k l=>rw[nE];simp
def tE:∀l:List Tr,l.length<=(dX l).length
 | []=>hU _
 | x::l=>by
  have a:dX (x::l)=x.F3++dX l:=by unfold dX;simp
  have:=aBV x;have:=tE l;rw[a,cn,cv];omega
def aA7{l:List Tr}{t:Tr}(h:l[i]?=J t):(dX (l.take i)).length+t.F3.length<=(dX l).length:=by
 have e:=uN h;have a:=aIc (l:=l) (i+1);rw[e,cn]at a;exact a
def aJ(c d:UInt8):Bool:=if d.toNat<128\/191<d.toNat then U else if c.toNat=224 then decide (160<=d.toNat)else if c.toNat=237 then decide (d.toNat<=159)else if c.toNat=240 then decide (144<=d.toNat)else if c.toNat=244 then decide (d.toNat<=143)else X
def xQ(w:Z)(c:UInt8):ae C 74 #[I L c.toNat] w λe w'=>e=Q (af (aI c))/\w'=w:=by
 by_cases h:c∈ [32,9,10,13]
 .simp only[ma,gh,or_false]at h;rcases h with rfl|rfl|rfl|rfl
  all_goals
   go_enter func74,ntmps74;go_wp2;go_ret;exact⟨rfl,rfl⟩
 .simp only[ma,gh,or_false,not_or]at h;rw[show aI c=U by unfold aI;simp[h]];obtain⟨d,f,b,a⟩:=h;obtain⟨_,_,_⟩:=aD (n:=32) d rfl;obtain⟨_,_,_⟩:=aD (n:=9) f rfl;obtain⟨_,_,_⟩:=aD (n:=10) b rfl;obtain⟨_,_,_⟩:=aD (n:=13) a rfl;go_enter func74,ntmps74;go_wp2;go_ret;exact⟨rfl,rfl⟩
def aJz(w:Z)(c:UInt8):ae C 197 #[I L c.toNat] w λe w'=>e=Q (I O (match hexOf c with|some v=>(v:Int)|none=> -1))/\w'=w:=by
 have g:=c.toNat_lt
 have f:(match hexOf c with|some v=>(v:Int)|none=> -1)=if 48<=c.toNat/\c.toNat<=57 then(c.toNat:Int)-48 else if 97<=c.toNat/\c.toNat<=102 then(c.toNat:Int)-87 else if 65<=c.toNat/\c.toNat<=70 then(c.toNat:Int)-55 else -1:=by
  unfold hexOf;by_cases b:48<=c.toNat/\c.toNat<=57<;>by_cases a:97<=c.toNat/\c.toNat<=102<;>by_cases d:65<=c.toNat/\c.toNat<=70<;>simp[b,a,d]<;>rw[Int.ofNat_sub (by omega)]<;>rfl
 generalize (match hexOf c with|some v=>(v:Int)|none=> -1)=v at*;generalize c.toNat=n at*;rcases(show((48:Int)<=n/\(n:Int)<=57)\/(¬(n:Int)<=57/\(97:Int)<=n/\(n:Int)<=102)\/(¬(n:Int)<=57/\¬(97:Int)<=n/\(65:Int)<=n/\(n:Int)<=70)\/¬(48:Int)<=n\/((48:Int)<=n/\¬(n:Int)<=57/\¬(65:Int)<=n)\/(¬(n:Int)<=57/\(65:Int)<=n/\¬(n:Int)<=70/\¬(97:Int)<=n)\/(¬(n:Int)<=57/\(97:Int)<=n/\¬(n:Int)<=102/\(65:Int)<=n/\¬(n:Int)<=70) by omega)with⟨_,_⟩|⟨_,_,_⟩|⟨_,_,_,_⟩|_|⟨_,_,_⟩|⟨_,_,_,_⟩|⟨_,_,_,_,_⟩
 all_goals
  go_enter func197,ntmps197;go_wp2;go_ret;exact⟨by simp<;>omega,rfl⟩
def aHs(w:Z)(c:UInt8):ae C 179 #[I L c.toNat] w λe w'=>e=Q (I O ((aC c).wide:Int))/\w'=w:=by
 generalize a:(aC c).wide=v
 replace a:(if c.toNat<128 then 1 else if c.toNat<194 then 0 else if c.toNat<224 then 2 else if c.toNat<240 then 3 else if c.toNat<245 then 4 else 0)=v:=by
  rw[<-a];unfold aC;(repeat' split)<;>first|rfl|omega
 generalize c.toNat=n at*;rcases(show(n:Int)<128\/(¬(n:Int)<128/\¬(194:Int)<=n/\¬(224:Int)<=n/\¬(240:Int)<=n)\/(¬(n:Int)<128/\(194:Int)<=n/\(n:Int)<=223)\/(¬(n:Int)<128/\(194:Int)<=n/\¬(n:Int)<=223/\(224:Int)<=n/\(n:Int)<=239)\/(¬(n:Int)<128/\(194:Int)<=n/\¬(n:Int)<=223/\(224:Int)<=n/\¬(n:Int)<=239/\(240:Int)<=n/\(n:Int)<=244)\/(¬(n:Int)<128/\(194:Int)<=n/\¬(n:Int)<=223/\(224:Int)<=n/\¬(n:Int)<=239/\(240:Int)<=n/\¬(n:Int)<=244) by omega)with _|⟨_,_,_,_⟩|⟨_,_,_⟩|⟨_,_,_,_,_⟩|⟨_,_,_,_,_,_,_⟩|⟨_,_,_,_,_,_,_⟩
 all_goals
  go_enter func179,ntmps179;go_wp2;go_ret;refine⟨?_,rfl⟩;rw[<-a]
  (repeat' split)<;>first|rfl|omega
def kE(b:Nat):Pc Nat->ag
 | .cut=>ai #[I O 0,av #["",I O 0,I O 0,I O 0,af X]]
 | .bad no a=>ai #[I O 0,av #["",I O 0,no,I O ((b+a:Nat):Int),af U]]
 | .ok n=>ai #[n,av #["",I O 0,I O 0,I O 0,af U]]
def aAQ{v:Nat}(h:hexOf c=J v):v<16:=by
 unfold hexOf at h;split at h
 .injection h;omega
 .split at h
  .injection h;omega
  .split at h
   .injection h;omega
   .cases h
def pJ(w:Z)(s:ByteArray)(f:Nat)(i:Bool)(ha:f<=s.size+16)(hs:s.size<=2147483648):ae C 177 #[s,f,i] w λe w'=>
 e=Q (kE f (cX i 4 0 (s.data.toList.drop f)))/\az w w w':=by
 obtain⟨R,b⟩:∃R,cX i 4 0 (s.data.toList.drop f)=R:=⟨_,rfl⟩;rw[b];have HR:=A b;have HH:=A (λ(W:Z)(c:UInt8)=>aJz W c);have h3:=A (λ(W:Z)(no a:Nat)=>mA W no a);clear b;have r:(w.alloc (ac #["",I O 0,I O 0,I O 0,af U] 200)).heap[w.heap.size]?=J (ac #["",I O 0,I O 0,I O 0,af U] 200 (0,0)):=aL w _;have hb:=(dk w w).alloc (hU _) (ac #["",I O 0,I O 0,I O 0,af U] 200);have h7:f<=2147483664:=by omega
 go_enter func177,ntmps177;go_wp2_with fail;generalize w.alloc (ac #["",I O 0,I O 0,I O 0,af U] 200)=w1 at*;go_loopw [9,8] (λv x wr=>∃k n:Nat,v=I O k/\x=I O n/\k<=4/\n<16^k/\M (cX i (4-k) n (s.data.toList.drop (f+k))=R)/\w1=wr) (λv _ _=>4-(intOf v).toNat)
 case atStart=>exact⟨0,0,rfl,rfl,by decide,by decide,HR,rfl⟩
 case round=>
  obtain⟨k,n,rfl,rfl,h8,b,HK,rfl⟩:=hrel;obtain⟨p,hp⟩:∃p,f+k=p:=⟨_,rfl⟩;have HN:=A b;clear b;by_cases hk:k<4
  .have q1:(k:Int)<4:=(by omega);have q2:O.wrap ((f:Int)+(k:Int))=(p:Int):=(by rw[b9];omega);have b:=HK.o;obtain⟨m,hm⟩:∃m,4-k=m+1:=⟨3-k,by omega⟩;have g8:3-m=k:=(by omega);rw[hm,hp]at b;by_cases g9:p<s.size
   .have e1:¬(s.size:Int)<=(p:Int):=(by omega);have e2:(p:Int)<(s.size:Int):=(by omega);rw[bA g9,cX,g8]at b;have o:=A (λW=>HH.o W s[p]);cases l:hexOf s[p]with
    | none=>
     rw[l]at b o;have b:Pc.bad (if i then 93 else 92) k=R:=b;subst b;have t:=A hp;clear HK HR hm g8 hp l HN;have T:(((k:Int)==0)=X/\((k:Int)==1)=U)\/(((k:Int)==0)=U/\((k:Int)==1)=X)\/(((k:Int)==0)=U/\((k:Int)==1)=U):=(by simp;omega);have V:n=13\/((n:Int)==13)=U:=by simp;omega
     cases i with
     | true=>
      have q:M (∀W:Z,ae C 156 #[I O 93,I O p] W λe w'=>e=Q (av #["",I O 0,I O 93,I O (p:Int),af U])/\az W.heap.size W w'):=λW=>h3.o W 93 p;rcases T with⟨u,g⟩|⟨u,g⟩|⟨u,g⟩
      all_goals
       clear V;go_wp2_with fail;refine(o.o _).mono ?_;rintro e w2 ⟨rfl,rfl⟩;go_wp2_with fail;refine(q.o _).mono ?_;rintro e w3 ⟨rfl,d⟩;have y:=A (keep r d);have z:=A (chain hb d);obtain⟨c0,c1,c2,c3,c4,cf⟩:=cells5 (keep r d);clear d u g;(try clear V);go_wp2;obtain⟨P,B⟩:=aS (bh ⟨#[]⟩) (I O 0) (I O 93) (I O (p:Int)) (af U) y.o z.o (hU _);have h:=A B;obtain⟨F,G,H,K,N,_⟩:=cells5 P;exact bb (v:=ai #[I O 0,av #["",I O 0,I O 93,I O (p:Int),af U]]) (by simp[aw,dl,go_sem,F,G,H,K,N]) rfl ⟨by rw[<-t.o];simp[kE],h.o⟩
     | false=>
      have q:M (∀W:Z,ae C 156 #[I O 92,I O p] W λe w'=>e=Q (av #["",I O 0,I O 92,I O (p:Int),af U])/\az W.heap.size W w'):=λW=>h3.o W 92 p;rcases T with⟨-,g⟩|⟨-,g⟩|⟨-,g⟩<;>rcases V with rfl|V
      all_goals
       go_wp2_with fail;refine(o.o _).mono ?_;rintro e w2 ⟨rfl,rfl⟩;go_wp2_with fail;refine(q.o _).mono ?_;rintro e w3 ⟨rfl,d⟩;have y:=A (keep r d);have z:=A (chain hb d);obtain⟨c0,c1,c2,c3,c4,cf⟩:=cells5 (keep r d);clear d g;(try clear V);go_wp2;obtain⟨P,B⟩:=aS (bh ⟨#[]⟩) (I O 0) (I O 92) (I O (p:Int)) (af U) y.o z.o (hU _);have h:=A B;obtain⟨F,G,H,K,N,_⟩:=cells5 P;exact bb (v:=ai #[I O 0,av #["",I O 0,I O 92,I O (p:Int),af U]]) (by simp[aw,dl,go_sem,F,G,H,K,N]) rfl ⟨by rw[<-t.o];simp[kE],h.o⟩
    | some v=>
     rw[l]at b o;have hv:=aAQ l;have b:(if gV i k n v then Pc.bad 93 k else cX i m (16*n+v) (s.data.toList.drop (p+1)))=R:=b;have h9:n<4096:=a7 HN.o (bo (Nat.pow_le_pow_right (by decide) (show k<=3 by omega)) (by decide));have h5:=A (show 16*n+v<16^(k+1) by have:=HN.o;rw[Nat.pow_succ];omega);have HM:=A (show 4-(k+1)=m/\f+(k+1)=p+1 from⟨by omega,by omega⟩);have t:=A hp;have q:M (∀W:Z,ae C 156 #[I O 93,I O p] W λe w'=>e=Q (av #["",I O 0,I O 93,I O (p:Int),af U])/\az W.heap.size W w'):=λW=>h3.o W 93 p;have h6:decide ((v:Int)<0)=U:=decide_eq_false (by omega);clear HK HR hp l hm g8 HN;cases i with
     | true=>
      have hw:((((k:Int)==0)=X/\((v:Int)!=13)=X\/((k:Int)==0)=U/\((k:Int)==1)=X/\decide ((v:Int)<12)=X)/\gV X k n v=X)\/
       ((((k:Int)==0)=X/\((k:Int)==1)=U/\((v:Int)!=13)=U\/((k:Int)==0)=U/\((k:Int)==1)=X/\decide ((v:Int)<12)=U\/((k:Int)==0)=U/\((k:Int)==1)=U)/\gV X k n v=U):=by
       by_cases u:k=0
       .by_cases l:v=13
        .exact Y ⟨D ⟨by simp[u],by simp[u],by simp[l]⟩,by simp[gV,u,l]⟩
        .exact D ⟨D ⟨by simp[u],by simp;omega⟩,by simp[gV,u,l]⟩
       .by_cases g:k=1
        .by_cases T:v<12
         .exact D ⟨Y ⟨by simp[g],by simp[g],by simp;omega⟩,by simp[gV,g,T]⟩
         .exact Y ⟨Y (D ⟨by simp[g],by simp[g],by simp;omega⟩),by simp[gV,g,T]⟩
        .exact Y ⟨Y (Y ⟨by simp[u],by simp;omega⟩),by simp[gV,u,g]⟩
      rcases hw with⟨j,u⟩|⟨j,u⟩
      .rcases j with⟨V,x2⟩|⟨V,x2,x3⟩
       all_goals
        rw[u,pz rfl]at b;subst b;clear u;(try clear j);go_wp2_with fail;refine(o.o _).mono ?_;rintro e w2 ⟨rfl,rfl⟩;go_wp2_with fail;refine(q.o _).mono ?_;rintro e w3 ⟨rfl,d⟩;have y:=A (keep r d);have z:=A (chain hb d);obtain⟨c0,c1,c2,c3,c4,cf⟩:=cells5 (keep r d);clear d h6
        (try clear V);try clear x2
        (try clear x3);go_wp2;obtain⟨P,B⟩:=aS (bh ⟨#[]⟩) (I O 0) (I O 93) (I O (p:Int)) (af U) y.o z.o (hU _);have h:=A B;obtain⟨F,G,H,K,N,_⟩:=cells5 P;exact bb (v:=ai #[I O 0,av #["",I O 0,I O 93,I O (p:Int),af U]]) (by simp[aw,dl,go_sem,F,G,H,K,N]) rfl ⟨by rw[<-t.o];simp[kE],h.o⟩
      .rcases j with⟨V,x2,x3⟩|⟨V,x2,x3⟩|⟨V,x2⟩
       all_goals
        rw[u,py (by decide)]at b;have h4:=A b;clear u b;go_wp2_with fail;refine(o.o _).mono ?_;rintro e w2 ⟨rfl,rfl⟩;go_wp2_with fail;exact⟨⟨k+1,16*n+v,by go_num,by go_num,by omega,h5.o,by rw[HM.o.1,HM.o.2];exact h4,trivial⟩,by simp[intOf];omega⟩
     | false=>
      have hw:((((k:Int)==1)=X/\((n:Int)==13)=X/\decide ((12:Int)<=(v:Int))=X)/\gV U k n v=X)\/
       ((((k:Int)==1)=X/\((n:Int)==13)=X/\decide ((12:Int)<=(v:Int))=U\/((k:Int)==1)=X/\((n:Int)==13)=U\/((k:Int)==1)=U)/\gV U k n v=U):=by
       by_cases g:k=1
       .by_cases l:n=13
        .by_cases T:12<=v
         .exact D ⟨⟨by simp[g],by simp[l],by simp;omega⟩,by simp[gV,g,l,T]⟩
         .exact Y ⟨D ⟨by simp[g],by simp[l],by simp;omega⟩,by simp[gV,g,l,T]⟩
        .exact Y ⟨Y (D ⟨by simp[g],by simp;omega⟩),by simp[gV,g,l]⟩
       .exact Y ⟨Y (Y (by simp;omega)),by simp[gV,g]⟩
      rcases hw with⟨⟨V,x2,x3⟩,u⟩|⟨j,u⟩
      .skip
       all_goals
        rw[u,pz rfl]at b;subst b;clear u;(try clear j);go_wp2_with fail;refine(o.o _).mono ?_;rintro e w2 ⟨rfl,rfl⟩;go_wp2_with fail;refine(q.o _).mono ?_;rintro e w3 ⟨rfl,d⟩;have y:=A (keep r d);have z:=A (chain hb d);obtain⟨c0,c1,c2,c3,c4,cf⟩:=cells5 (keep r d);clear d h6
        (try clear V);try clear x2
        (try clear x3);go_wp2;obtain⟨P,B⟩:=aS (bh ⟨#[]⟩) (I O 0) (I O 93) (I O (p:Int)) (af U) y.o z.o (hU _);have h:=A B;obtain⟨F,G,H,K,N,_⟩:=cells5 P;exact bb (v:=ai #[I O 0,av #["",I O 0,I O 93,I O (p:Int),af U]]) (by simp[aw,dl,go_sem,F,G,H,K,N]) rfl ⟨by rw[<-t.o];simp[kE],h.o⟩
      .rcases j with⟨V,x2,x3⟩|⟨V,x2⟩|V
       all_goals
        rw[u,py (by decide)]at b;have h4:=A b;clear u b;go_wp2_with fail;refine(o.o _).mono ?_;rintro e w2 ⟨rfl,rfl⟩;go_wp2_with fail;exact⟨⟨k+1,16*n+v,by go_num,by go_num,by omega,h5.o,by rw[HM.o.1,HM.o.2];exact h4,trivial⟩,by simp[intOf];omega⟩
   .have e1:(s.size:Int)<=(p:Int):=(by omega);rw[cY g9]at b;have b:Pc.cut=R:=b;subst b;clear hm g8 HK HR;obtain⟨c0,c1,c2,c3,c4,cf⟩:=cells5 r;have y:=A r;have z:=A hb;go_wp2;obtain⟨P,B⟩:=aS (bh ⟨#[]⟩) (I O 0) (I O 0) (I O 0) (af X) y.o z.o (hU _);have h:=A B;obtain⟨F,G,H,K,N,_⟩:=cells5 P;exact bb (v:=kE f .cut) (by simp[aw,dl,go_sem,kE,F,G,H,K,N]) rfl ⟨rfl,h.o⟩
  .obtain rfl:k=4:=(by omega);have b:=HK.o;rw[Nat.sub_self,cX]at b;have q1:¬((4:Nat):Int)<4:=(by omega);subst b;clear HK HR hp;obtain⟨c0,c1,c2,c3,c4,cf⟩:=cells5 r;have y:=A r;have z:=A hb;go_wp2;obtain⟨P,B⟩:=aS (bh ⟨#[]⟩) (I O 0) (I O 0) (I O 0) (af U) y.o z.o (hU _);have h:=A B;obtain⟨F,G,H,K,N,_⟩:=cells5 P;exact bb (v:=kE f (.ok n)) (by simp[aw,dl,go_sem,kE,F,G,H,K,N]) rfl ⟨rfl,h.o⟩
def uR(o:Option Nat)(e:bz):Prop:=match o with
 | some v=>e=Q (I E v)
 | none=>e=Q (I E (-1))
def pV(c:UInt8)(w:Z):ae C 202 #[I L c.toNat] w λe w'=>uR (hexOf c) e/\w'=w:=by
 obtain⟨n,k⟩:∃n,c.toNat=n:=⟨_,rfl⟩;have p:hexOf c=if 48<=n/\n<=57 then J (n-48)else if 97<=n/\n<=102 then J (n-87)else if 65<=n/\n<=70 then J (n-55)else S:=by unfold hexOf;rw[k]
 have q:n<256:=by rw[<-k];exact c.toNat_lt
 rw[k,p];clear k p;have r:(n<48)\/(48<=n/\n<=57)\/(57<n/\n<65)\/(65<=n/\n<=70)\/(70<n/\n<97)\/(97<=n/\n<=102)\/(102<n):=by omega
 rcases r with h|h|h|h|h|h|h
 .rw[py,py,py];have b:¬(48:Int)<=(n:Int):=by omega
  have a:¬(97:Int)<=(n:Int):=by omega
  have f:¬(65:Int)<=(n:Int):=by omega
  clear h;go_enter dh,di;go_wp2;go_ret;exact⟨rfl,rfl⟩
 .rw[pz];have b:(48:Int)<=(n:Int):=by omega
  have d:(n:Int)<=57:=by omega
  have a:¬(97:Int)<=(n:Int):=by omega
  have f:¬(65:Int)<=(n:Int):=by omega
  have o:L.wrap ((n:Int)-48)=(n:Int)-48:=by rw[ms];omega
  have i:E.wrap ((n:Int)-48)=(n:Int)-48:=by rw[og];omega
  have j:M (((n-48:Nat):Int)=(n:Int)-48):=A (by omega);clear h;go_enter dh,di;go_wp2;go_ret;exact⟨by show Q _=Q _;rw[j.o];rfl,rfl⟩
 .rw[py,py,py];have b:(48:Int)<=(n:Int):=by omega
  have d:¬(n:Int)<=57:=by omega
  have a:¬(97:Int)<=(n:Int):=by omega
  have f:¬(65:Int)<=(n:Int):=by omega
  clear h;go_enter dh,di;go_wp2;go_ret;exact⟨rfl,rfl⟩
 .rw[py,py,pz];have b:(48:Int)<=(n:Int):=by omega
  have d:¬(n:Int)<=57:=by omega
  have a:¬(97:Int)<=(n:Int):=by omega
  have f:(65:Int)<=(n:Int):=by omega
  have g:(n:Int)<=70:=by omega
  have o:L.wrap ((n:Int)-65)=(n:Int)-65:=by rw[ms];omega
  have i:E.wrap ((n:Int)-65)=(n:Int)-65:=by rw[og];omega
  have l:E.wrap ((n:Int)-65+10)=(n:Int)-65+10:=by rw[og];omega
  have j:M (((n-55:Nat):Int)=(n:Int)-65+10):=A (by omega);clear h;go_enter dh,di;go_wp2;go_ret;exact⟨by show Q _=Q _;rw[j.o];rfl,rfl⟩
 .rw[py,py,py];have b:(48:Int)<=(n:Int):=by omega
  have d:¬(n:Int)<=57:=by omega
  have a:¬(97:Int)<=(n:Int):=by omega
  have f:(65:Int)<=(n:Int):=by omega
  have g:¬(n:Int)<=70:=by omega
  clear h;go_enter dh,di;go_wp2;go_ret;exact⟨rfl,rfl⟩
 .rw[py,pz];have b:(48:Int)<=(n:Int):=by omega
  have d:¬(n:Int)<=57:=by omega
  have a:(97:Int)<=(n:Int):=by omega
  have m:(n:Int)<=102:=by omega
  have g:¬(n:Int)<=70:=by omega
  have o:L.wrap ((n:Int)-97)=(n:Int)-97:=by rw[ms];omega
  have i:E.wrap ((n:Int)-97)=(n:Int)-97:=by rw[og];omega
  have l:E.wrap ((n:Int)-97+10)=(n:Int)-97+10:=by rw[og];omega
  have j:M (((n-87:Nat):Int)=(n:Int)-97+10):=A (by omega);clear h;go_enter dh,di;go_wp2;go_ret;exact⟨by show Q _=Q _;rw[j.o];rfl,rfl⟩
 .rw[py,py,py];have b:(48:Int)<=(n:Int):=by omega
  have d:¬(n:Int)<=57:=by omega
  have a:(97:Int)<=(n:Int):=by omega
  have m:¬(n:Int)<=102:=by omega
  have f:(65:Int)<=(n:Int):=by omega
  have g:¬(n:Int)<=70:=by omega
  clear h;go_enter dh,di;go_wp2;go_ret;exact⟨rfl,rfl⟩
def lW{k:Int}(h:¬(n:Int)=k):¬((n:Int)=k)/\((n:Int)==k)=U/\((n:Int)!=k)=X:=⟨h,by simpa using h,by simpa using h⟩
def eH(b a c v:Nat):Bool:=
 if b≠0/\a=0 then v≠13 else if b≠0/\a=1 then v<12 else b=0&&a=1&&c=13&&12<=v
def aIt{w:Z}{l k i g m n j o c f e d a p:ag}{T:TypeId}(h:w.heap[b]?=J (ac #[l,k,i,g,m,n,j,o,c,f,e,d,a,p] T (0,0))):
 w.cell? ⟨b,8,S⟩=J c/\w.cell? ⟨b,9,S⟩=J f/\w.cell? ⟨b,10,S⟩=J e/\w.cell? ⟨b,11,S⟩=J d/\w.cell? ⟨b,12,S⟩=J a:=⟨aA h,aA h,aA h,aA h,aA h⟩
def zK(w:Z)(b dg a hi v:Nat)(y r t m u p o s z q x:ag)(h:w.heap[b]?=J (ac #[y,r,t,m,u,p,o,s,z,q,dg,I E a,I E hi,x] 228 (0,0))):
 ae C 203 #[au (J ⟨b,8,S⟩),I E v] w λe w'=>e=Q (af (eH hi dg a v))/\w'=w:=by
 obtain⟨-,-,P,R,G⟩:=aIt h;clear h;by_cases c:hi=0
 .subst c;by_cases f:dg=1
  .subst f;by_cases d:a=13
   .subst d;by_cases g:12<=v
    .have j:(12:Int)<=(v:Int):=(by omega);rw[show eH 0 1 13 v=X by simp[eH,g]];go_enter bw,bx;go_wp2;go_ret;exact⟨rfl,rfl⟩
    .have j:¬(12:Int)<=(v:Int):=(by omega);rw[show eH 0 1 13 v=U by simp[eH,g]];go_enter bw,bx;go_wp2;go_ret;exact⟨rfl,rfl⟩
   .obtain⟨-,l,-⟩:=lW (n:=a) (k:=13) (by omega);rw[show eH 0 1 a v=U by simp[eH,d]];clear d;go_enter bw,bx;go_wp2;go_ret;exact⟨rfl,rfl⟩
  .obtain⟨-,l,-⟩:=lW (n:=dg) (k:=1) (by omega);rw[show eH 0 dg a v=U by simp[eH,f]];clear f;go_enter bw,bx;go_wp2;go_ret;exact⟨rfl,rfl⟩
 .obtain⟨-,F,H⟩:=lW (n:=hi) (k:=0) (by omega);by_cases f:dg=0
  .subst f;by_cases d:v=13
   .subst d;rw[show eH hi 0 a 13=U by simp[eH,c]];clear c;go_enter bw,bx;go_wp2;go_ret;exact⟨rfl,rfl⟩
   .obtain⟨-,-,K⟩:=lW (n:=v) (k:=13) (by omega);rw[show eH hi 0 a v=X by simp[eH,c,d]];clear c d;go_enter bw,bx;go_wp2;go_ret;exact⟨rfl,rfl⟩
  .obtain⟨B,T,N⟩:=lW (n:=dg) (k:=0) (by omega);by_cases i:dg=1
   .subst i;by_cases g:v<12
    .have j:(v:Int)<12:=(by omega);rw[show eH hi 1 a v=X by simp[eH,c,g]];clear c;go_enter bw,bx;go_wp2;go_ret;exact⟨rfl,rfl⟩
    .have j:¬(v:Int)<12:=(by omega);rw[show eH hi 1 a v=U by simp[eH,c,g]];clear c;go_enter bw,bx;go_wp2;go_ret;exact⟨rfl,rfl⟩
   .obtain⟨-,l,-⟩:=lW (n:=dg) (k:=1) (by omega);rw[show eH hi dg a v=U by simp[eH,c,f,i]];clear c f i;go_enter bw,bx;go_wp2;go_ret;exact⟨rfl,rfl⟩
def aAz(r:Nat)(b:fM r)(w:Z):ae C 242 #[I E r] w λe w'=>e=Q (af X)/\w'=w:=by
 have c:(0:Int)<=(r:Int):=by omega
 rcases b with h|⟨g,d⟩
 .have a:(r:Int)<55296:=by omega
  go_enter func242,ntmps242;go_wp2;go_ret;exact⟨rfl,rfl⟩
 .have a:¬(r:Int)<55296:=by omega
  have i:(57343:Int)<(r:Int):=by omega
  have f:(r:Int)<=1114111:=by omega
  go_enter func242,ntmps242;go_wp2;go_ret;exact⟨rfl,rfl⟩
def aD2{r:Nat}(d:fM r):(gk (r:Int))=⟨(aT r).toArray⟩:=by
 have b:gl (r:Int)=X:=by
  unfold gl;rcases d with h|⟨f,e⟩
  .have a:(r:Int)<0xD800:=(by omega);simp[a]
  .have a:(0xE000:Int)<=(r:Int):=(by omega);have c:(r:Int)<=0x10FFFF:=(by omega);simp[a,c]
 unfold gk aT;simp only[b,if_true,Int.toNat_natCast];split
 .rfl
 .split
  .rfl
  .split
   .rfl
   .rfl
def aMb(w:Z)(l:List UInt8)(e:bz)(w':Z):Prop:=
 ∃g cap,e=Q (ai #[ah (J ⟨g,0,S⟩) l.length cap,bm])/\(∀i x,l[i]?=J x->w'.cell? ⟨g,i,S⟩=J (bZ x))/\az w w w'
def zL(r:Nat)(d:fM r)(w:Z):ae C 224 #[I E r] w λe w'=>aMb w (aT r) e w':=by
 have l:=A (aAz r d)
 have j:∀w,(convert 21 9 (I E r)).run C w=.ok (bh ⟨(aT r).toArray⟩) w:=λw=>by
  rw[run_convert_int_string w 21 9 E r (by kernel_rfl) lc,aD2 d]
 obtain⟨s,g⟩:∃s:ByteArray,(⟨(aT r).toArray⟩:ByteArray)=s:=⟨_,rfl⟩;rw[g]at j;have b:=λw=>run_bytes_of_string (P:=C) w 9 22 5 s lc underlying22 underlying5;have k:(aT r)=s.data.toList:=by rw[<-g]
 rw[k];have c:s.data.toList.length=s.size:=jt;clear g k d;go_enter func224,ntmps224;go_wp2_with fail;refine(l.o _).mono ?_;rintro e w1 ⟨rfl,rfl⟩;go_wp2_with fail;refine bb (v:=ai #[ah w1 s.size (dt w1 s.size 0 5),bm]) (by simp[aw,results224,go_sem]) rfl ?_;refine⟨w1.heap.size,dt w1 s.size 0 5,by rw[c],λi x h=>?_,?_⟩
 .have a:i<s.data.size:=by have:=(bt.1 h).1;simpa using this
  have f:s.data[i]=x:=by
   rw[List.getElem?_eq_getElem (by simpa using a)]at h;simpa using h
  have m:=aL w1 (ac (fh s (dt w1 s.size 0 5)) 5 ((fh s (dt w1 s.size 0 5)).size,(fh s (dt w1 s.size 0 5)).size+1));show(w1.alloc _).cell? ⟨w1.heap.size,i,S⟩=_;rw[cell_any m,bytesRow_at s _ i a,f]
 .exact((dk _ _).alloc (hU _) _).drew
def aG0(w:Z)(b:Nat)(a:ag)(l:List UInt8)(c:ag->Array ag)(e:bz)(w':Z):Prop:=e=Q (ai #[])/\∃g off cap,w'.heap[b]?=J (ac (c (ah (J ⟨g,off,S⟩) l.length cap)) 228 (0,0))/\
 Win 5 bZ w' (ah (J ⟨g,off,S⟩) l.length cap) l/\(a.ownBlock=J g\/w.heap.size<=g)/\Keeps (λk=>k=b\/a.ownBlock=J k) w w'
def aF3(w:Z)(b dg a:Nat)(n g j q l d c i o f m:ag)(h:w.heap[b]?=J (ac #[n,g,j,q,l,d,c,i,o,f,dg,I E a,I E 0,m] 228 (0,0)))(t:55296<=a)(r:a<=56319):
 ae C 204 #[au b] w λe w'=>e=Q (ai #[])/\w'.heap[b]?=J (ac #[n,g,j,co (cr 223) #[] #[],l,d,c,i,o,f,dg,I E a,I E a,m] 228 (0,0))/\Keeps (λk=>k=b) w w':=by
 obtain⟨-,-,-,x,-,-,-,-,-,-,-,v,s,-,y⟩:=aN h;have H:=A h;have z:(55296:Int)<=(a:Int):=by omega
 have u:(a:Int)<=56319:=by omega
 clear h;go_enter fj,fk;go_wp2_with fail;exact bb (results_none rfl _ _ _) rfl ⟨rfl,aB (aB H.o _) _,((bj (λk=>k=b) w).A3 (p:=⟨b,12,S⟩) (D rfl) _).A3 (p:=⟨b,3,S⟩) (D rfl) _⟩
def aIu(w:Z)(b dg a:Nat)(v0 v1 v2 v3 v4 v5 v6 v7 v8 c vd:ag)(l:Oo)(x:w.heap[b]?=J (ac #[v0,v1,v2,v3,v4,v5,v6,v7,v8,c,dg,I E a,I E 0,vd] 228 (0,0)))(r:¬(55296<=a/\a<=56319))(i:fM a)
 (f:Win 5 bZ w c l)(n:l.length<=1073741824):
 ae C 204 #[au b] w λe w'=>aG0 w b c (l++aT a) (λv=> #[v0,v1,v2,co (cr 138) #[] #[],v4,v5,v6,v7,v8,v,dg,I E a,I E 0,vd]) e w':=by
 obtain⟨-,-,-,-,-,-,-,-,-,t,-,W,cc,-,-⟩:=aN x;obtain⟨ta,tc,B⟩:=f.A8;have G:=A (f.ne x (by decide));have H:=A x;have HW:=A f.Q3;have HE:=A (zL a i);have K:=A (hU w.heap.size);have N:=A (bj (λk=>k=b\/c.ownBlock=J k) w);have d:=fS a;obtain⟨R,o⟩:∃R,aT a=R:=⟨_,rfl⟩;rw[o]at HE d⊢;obtain⟨m,q⟩:∃m,R.length=m+1:=⟨R.length-1,by omega⟩;have g7:m<=3:=by omega
 have P:=A q;have HL:=A n;have h:(a:Int)<55296\/((55296:Int)<=(a:Int)/\¬(a:Int)<=56319):=by unfold fM at i;omega
 clear x f i o d q n r;subst B;rcases h with h|⟨h,z⟩
 focus
  have f:¬(55296:Int)<=(a:Int):=by omega
 all_goals
  go_enter fj,fk;go_wp2_with fail;refine(HE.o _).mono ?_;rintro e w1 ⟨g1,r,rfl,f,i⟩;have n:=keep H.o i;obtain⟨-,-,-,-,-,-,-,-,-,d9,-,-,-,-,-⟩:=aN n;have T:=A n;have s:=A i;have V:=A (HW.o.A0 (F:=λ_=>False) (bs _ i) (λ_ _=>id));have o:=A f;rw[P.o];clear n i f t W cc;go_wp2_with (at_builtin;refine bC zJ rfl _ _ rfl rfl V.o g1 (m+1) r (R.map bZ) rfl ?_ ?_ ?_ ?_ ?_ ?_ ?_)
  .rw[kt,P.o];omega
  .intro j u i;rw[ed]at i;cases f:R[j]? with
   | none=>rw[f]at i;cases i
   | some y=>
    rw[f]at i;simp at i;subst i;have n:(⟨g1,0,S⟩:Addr).add j=⟨g1,j,S⟩:=(by unfold gq;split<;>simp_all);rw[n];exact o.o j y f
  .intro u f;rw[ni]at f;obtain⟨y,_,rfl⟩:=f;rfl
  .omega
  .have:=HL.o;omega
  .have:=HL.o;unfold ct;omega
  intro g off cap w2 n t q;have f:=n;rw[<-kr]at f;have f:=f.I4;have i:=q.B4 T.o (λe=>G.o e);have W:=A f;have g3:=A (n.ne i (by decide));have g4:=A t;have g5:=A q;have g6:=A i;obtain⟨-,-,-,q3,-,-,-,-,-,q9,-,-,-,-,qf⟩:=aN i;clear n f i t q d9;go_wp2;go_end0;have f:Keeps (λk=>k=b) w2 ((w2.setCell ⟨b,9,S⟩ (ah (g,off) (l.length+(m+1)) cap)).setCell ⟨b,3,S⟩ (co (cr 138) #[] #[])):=((bj (λk=>k=b) w2).A3 (p:=⟨b,9,S⟩) (D rfl) _).A3 (p:=⟨b,3,S⟩) (D rfl) _;have d:(l++R).length=l.length+(m+1):=by rw[cn,P.o]
  refine⟨rfl,g,off,cap,?_,?_,g4.o.imp id (λx=>bo K.o (bo s.o.size x.1)),?_⟩
  .rw[d];exact aB (aB g6.o _) _
  .rw[d];exact W.o.A0 f (λk e i=>g3.o (e.trans (congrArg J i)))
  .exact((N.o.same (bs _ s.o)).same (g5.o.mono (λk x=>Y x))).same (f.mono (λk x=>D x))
def aF4(w:Z)(b dg a hi:Nat)(v0 v1 v2 v3 v4 v5 v6 v7 v8 c vd:ag)(l:Oo)(K:w.heap[b]?=J (ac #[v0,v1,v2,v3,v4,v5,v6,v7,v8,c,dg,I E a,I E hi,vd] 228 (0,0)))(h1:55296<=hi)(h2:hi<=56319)(h3:56320<=a)(h4:a<=57343)
 (i:Win 5 bZ w c l)(r:l.length<=1073741824):
 ae C 204 #[au b] w λe w'=>aG0 w b c (l++aT (65536+(hi-55296)*1024+a-56320)) (λv=> #[v0,v1,v2,co (cr 138) #[] #[],v4,v5,v6,v7,v8,v,dg,I E a,I E 0,vd]) e w':=by
 obtain⟨-,-,-,-,-,-,-,-,-,c9,-,cb,cc,-,cf⟩:=aN K;obtain⟨ta,tc,N⟩:=i.A8;have x:fM (65536+(hi-55296)*1024+a-56320):=Y (by omega);have q:=aB K (o:=12) (I E 0);simp only[jy,kL,la]at q;have s:=A (i.ne K (by decide));have H:=A (show((w.setCell ⟨b,12,S⟩ (I E 0)).drew).heap[b]?=_ from q);have f:Keeps (λk=>k=b) w (w.setCell ⟨b,12,S⟩ (I E 0)).drew:=((bj (λk=>k=b) w).A3 (p:=⟨b,12,S⟩) (D rfl) _).B0;have HW:=A (i.A0 f (λk e P=>s.o (e.trans (congrArg J P)))).Q3;have T:=A (zL _ x);have V:=A f.size;have W:=A (f.mono (G:=λk=>k=b\/c.ownBlock=J k) (λk e=>D e));have d:=fS (65536+(hi-55296)*1024+a-56320);obtain⟨R,z⟩:∃R,aT (65536+(hi-55296)*1024+a-56320)=R:=⟨_,rfl⟩;rw[z]at T d⊢;obtain⟨m,B⟩:∃m,R.length=m+1:=⟨R.length-1,by omega⟩;have h0:m<=3:=by omega
 have HM:=A B;have HL:=A r;obtain⟨-,-,n3⟩:=lW (n:=hi) (k:=0) (by omega)
 have t:=A (show dm (dm (dm (65536+dm (dm ((hi:Int)-55296)*1024))+(a:Int))-56320)=((65536+(hi-55296)*1024+a-56320:Nat):Int) by
  unfold dm;omega)
 obtain⟨rr,h⟩:∃rr,65536+(hi-55296)*1024+a-56320=rr:=⟨_,rfl⟩;rw[h]at T t;clear K q f i x z d B r h1 h2 h3 h4 h;subst N;go_enter fj,fk;go_wp2;go_region;rw[t.o];go_wp2_with fail;refine(T.o _).mono ?_;rintro e w1 ⟨g1,x,rfl,f,h⟩;have i:=keep H.o h;obtain⟨-,-,-,-,-,-,-,-,-,d9,-,-,-,-,-⟩:=aN i;have g3:=A i;have z:=A h;have g4:=A (HW.o.A0 (F:=λ_=>False) (bs _ h) (λ_ _=>id));have q:=A f;rw[HM.o];clear i h f c9 cb cc cf;go_wp2_with (at_builtin;refine bC zJ rfl _ _ rfl rfl g4.o g1 (m+1) x (R.map bZ) rfl ?_ ?_ ?_ ?_ ?_ ?_ ?_)
 .rw[kt,HM.o];omega
 .intro j u h;rw[ed]at h;cases f:R[j]? with
  | none=>rw[f]at h;cases h
  | some y=>
   rw[f]at h;simp at h;subst h;have i:(⟨g1,0,S⟩:Addr).add j=⟨g1,j,S⟩:=(by unfold gq;split<;>simp_all);rw[i];exact q.o j y f
 .intro u f;rw[ni]at f;obtain⟨y,_,rfl⟩:=f;rfl
 .omega
 .have:=HL.o;omega
 .have:=HL.o;unfold ct;omega
 intro g off cap w2 i B r;have f:=i;rw[<-kr]at f;have f:=f.I4;have h:=r.B4 g3.o (λe=>s.o e);have g5:=A f;have g6:=A (i.ne h (by decide));have g7:=A B;have g8:=A r;have g9:=A h;obtain⟨-,-,-,q3,-,-,-,-,-,q9,-,-,-,-,qf⟩:=aN h;clear i f h B r d9;go_wp2;go_end0;have f:Keeps (λk=>k=b) w2 ((w2.setCell ⟨b,9,S⟩ (ah (g,off) (l.length+(m+1)) cap)).setCell ⟨b,3,S⟩ (co (cr 138) #[] #[])):=((bj (λk=>k=b) w2).A3 (p:=⟨b,9,S⟩) (D rfl) _).A3 (p:=⟨b,3,S⟩) (D rfl) _;have d:(l++R).length=l.length+(m+1):=by rw[cn,HM.o]
 refine⟨rfl,g,off,cap,?_,?_,g7.o.imp id (λK=>bo V.o (bo z.o.size K.1)),?_⟩
 .rw[d];exact aB (aB g9.o _) _
 .rw[d];exact g5.o.A0 f (λk e P=>g6.o (e.trans (congrArg J P)))
 .exact((W.o.same (bs _ z.o)).same (g8.o.mono (λk K=>Y K))).same (f.mono (λk K=>D K))
def yM(h:UInt8):∀(m:Nat)(b l:Oo),(aC h).wide=(h::b).length+(m+1)->aX (h::b) l=J []->
 cJ (aC h) (m+1) (h::b).length l=.ok ((h::b).length+(m+1))/\aX [] (l.drop (m+1))=J []/\m+1<=l.length
 | m,b,[],_,d=>by cases d
 | m,b,c::t,g,d=>by
  rw[cD]at d;have a:aO (h::b) c=if(aC h).D4 (h::b).length c then(if(h::b).length+1=(aC h).wide then J []else J ((h::b)++ [c]))else S:=rfl;rw[cJ];by_cases f:(aC h).D4 (h::b).length c=X
  .rw[pz f]at a⊢;cases m with
   | zero=>
    rw[pz]at a;rw[a]at d;rw[cJ];exact⟨rfl,d,by simp⟩
   | succ m=>
    rw[py]at a;rw[a]at d;have e:=yM h m (b++ [c]) t (by simp at g⊢;omega) d;have i:(h::(b++ [c])).length=(h::b).length+1:=(by simp);rw[i]at e;refine⟨?_,e.2.1,by rw[cv];omega⟩;rw[e.1];congr 1;omega
  .rw[py f]at a;rw[a]at d;cases d
def iN{t:Oo}(d:aV (c::t)=X):∃n,eC (c::t)=.ok (n+1)/\aV (t.drop n)=X/\n<=t.length:=by
 have b:aX [] (c::t)=J []:=by
  unfold aV at d;exact eq_of_beq d
 rw[cD]at b;unfold eC;simp only;have a:aO [] c=if(aC c).wide=0 then S else if 1<(aC c).wide then J [c]else J []:=rfl;by_cases f:(aC c).wide=0
 .rw[pz f]at a;rw[a]at b;cases b
 .rw[py f]at a⊢;by_cases e:1<(aC c).wide
  .rw[pz e]at a;rw[a]at b;obtain⟨m,g⟩:∃m,(aC c).wide=1+(m+1):=⟨(aC c).wide-2,by omega⟩;obtain⟨g1,h,i⟩:=yM c m [] t g b;refine⟨m+1,?_,?_,i⟩
   .rw[show(aC c).wide-1=m+1 by omega];have g1:cJ (aC c) (m+1) 1 t=.ok (1+(m+1)):=g1;rw[g1,lw 1]
   .unfold aV;rw[h];rfl
  .rw[py e]at a;rw[a]at b;refine⟨0,?_,?_,dr _⟩
   .rw[show(aC c).wide-1=0 by omega,cJ]
   .unfold aV;have b:aX [] t=J []:=b;rw[kz,b];rfl
def gI(l:List UInt8):List Nat:=match l with
 | []=> []
 | c::t=>match eC (c::t)with
  | .ok n=>dG (bM ((c::t).take n))++gI (t.drop (n-1))
  | _=> []
termination_by l.length
decreasing_by simp_wf;omega
def lS:gI []= []:=by rw[gI]
def iX{t:Oo}(h:eC (c::t)=.ok (n+1)):gI (c::t)=dG (bM ((c::t).take (n+1)))++gI (t.drop n):=by
 rw[gI,h];rfl
def aDp(n:Nat):∃x u,dG n=x::u:=by unfold dG;split<;>exact⟨_,_,rfl⟩
def aA0:∀(N:Nat)(a b:Oo),a.length<=N->aV a=X->aV b=X->cmpL (gI a) (gI b)=eE a b
 | _,[],[],_,_,_=>by rw[lS];rfl
 | _,[],y::b,_,_,k=>by
  obtain⟨m,d,_,_⟩:=iN k;obtain⟨x,u,l⟩:=aDp (bM ((y::b).take (m+1)));rw[lS,iX d,l];rfl
 | _,x::a,[],_,o,_=>by
  obtain⟨m,d,_,_⟩:=iN o;obtain⟨z,u,l⟩:=aDp (bM ((x::a).take (m+1)));rw[lS,iX d,l];rfl
 | 0,_::_,_::_,h,_,_=>by simp at h
 | N+1,x::a,y::b,v,o,k=>by
  obtain⟨n,d,q,w⟩:=iN o;obtain⟨m,g1,r,-⟩:=iN k;have j:=(mZ d).1;have i:=(mZ g1).1;rw[iX d,iX g1];have t:x::a=(x::a).take (n+1)++a.drop n:=(lm (n+1) (x::a)).symm;have s:y::b=(y::b).take (m+1)++b.drop m:=(lm (m+1) (y::b)).symm;rw[show eE (x::a) (y::b)=eE ((x::a).take (n+1)++a.drop n) ((y::b).take (m+1)++b.drop m) by rw[<-t,<-s]];generalize (x::a).take (n+1)=f at*;generalize (y::b).take (m+1)=g at*;by_cases c:f=g
  .subst c;rw[aAP,aAO];exact aA0 N _ _ (by simp only[cv]at v;rw[List.length_drop];omega) q r
  .rw[aEY j i c];by_cases p:bM f=bM g
   .exfalso;have c1:=aEY j i c [] [];have c2:=aEY i j (λe=>c e.symm) [] [];rw[p,py (Nat.lt_irrefl _)]at c1 c2;have:=kR (f++ []) (g++ []);omega
   .exact aHu (aBD j) (aBD i) p _ _
def aC1(w:Z)(n:Nat)(b:n<=1114111)(a:n<55296\/57343<n):ae C 198 #[I E n] w λe w'=>e=Q (af X)/\w'=w:=by
 have a1:(0:Int)<=(n:Int):=by omega
 have a2:(n:Int)<=1114111:=by omega
 rcases a with a|a
 .have a3:(n:Int)<55296:=by omega
  go_enter func198,ntmps198;go_wp2;go_ret;exact⟨rfl,rfl⟩
 .have a3:¬(n:Int)<55296:=by omega
  have a4:(57343:Int)<(n:Int):=by omega
  go_enter func198,ntmps198;go_wp2;go_ret;exact⟨rfl,rfl⟩
def vA(w:Z)(n:Nat)(R:n<=1114111)(P:n<55296\/57343<n):ae C 178 #[I E n] w λe w'=>e=Q (bh ⟨(aT n).toArray⟩)/\az w w w':=by
 have m:=A (λW:Z=>aC1 W n R P);have c1:O.wrap (n:Int)=(n:Int):=by rw[b9];omega
 have h:∀x:Nat,x<256->L.wrap (x:Int)=(((ak x).toNat:Nat):Int):=λx V=>by rw[ms];simp
 unfold aT;by_cases K:n<128
 .rw[pz K];have a1:(n:Int)<128:=by omega
  have s:L.wrap ((n:Int))=(((ak (n)).toNat:Nat):Int):=by rw[show((n:Int):Int)=((n:Nat):Int) by omega];exact h _ (by omega)
  obtain⟨i,d⟩:∃x,ak (n)=x:=⟨_,rfl⟩;rw[d]at s;rw[d];clear h d;go_enter ei,ej;go_wp2_with fail;refine(m.o _).mono ?_;rintro e w1 ⟨rfl,rfl⟩;go_wp2_with (at_builtin;refine jH (B:=w1.heap.size) (enc:=bZ) nY rfl _ _ rfl rfl (ek _ _ _ _) ⟨w1.heap.size,0,S⟩ 1 1 [i] rfl rfl ?_ ?_ ?_ ?_ ?_ ?_ ?_)
  .decide
  .intro j y l;rw[mi,aA (aL w1 _)];rcases j with _|j<;>simp at l<;>subst l<;>rfl
  .intro y;rfl
  .decide
  .simp;unfold ct;omega
  .simp
  intro b cap z c a;have q:=((dk w1 w1).alloc (hU _) (ac #[I L i.toNat] 5)).grown a (by simp) (λk r=>by cases r);have t:=fK (eo c);clear c a;go_wp2;go_ret;exact⟨rfl,q⟩
 rw[py K];have b1:decide ((n:Int)<128)=U:=decide_eq_false (by omega);by_cases N:n<2048
 .rw[pz N];have a2:(n:Int)<2048:=by omega
  have s:L.wrap (192+(n:Int)/64)=(((ak (192+n/64)).toNat:Nat):Int):=by rw[show(192+(n:Int)/64:Int)=((192+n/64:Nat):Int) by omega];exact h _ (by omega)
  have u:L.wrap (128+(n:Int)%64)=(((ak (128+n%64)).toNat:Nat):Int):=by rw[show(128+(n:Int)%64:Int)=((128+n%64:Nat):Int) by omega];exact h _ (by omega)
  obtain⟨i,d⟩:∃x,ak (192+n/64)=x:=⟨_,rfl⟩;rw[d]at s;obtain⟨o,f⟩:∃x,ak (128+n%64)=x:=⟨_,rfl⟩;rw[f]at u;rw[d,f];clear h d f;go_enter ei,ej;go_wp2_with fail;refine(m.o _).mono ?_;rintro e w1 ⟨rfl,rfl⟩;go_wp2_with (at_builtin;refine jH (B:=w1.heap.size) (enc:=bZ) nY rfl _ _ rfl rfl (ek _ _ _ _) ⟨w1.heap.size,0,S⟩ 2 2 [i,o] rfl rfl ?_ ?_ ?_ ?_ ?_ ?_ ?_)
  .decide
  .intro j y l;rw[mi,aA (aL w1 _)];rcases j with _|_|j<;>simp at l<;>subst l<;>rfl
  .intro y;rfl
  .decide
  .simp;unfold ct;omega
  .simp
  intro b cap z c a;have q:=((dk w1 w1).alloc (hU _) (ac #[I L i.toNat,I L o.toNat] 5)).grown a (by simp) (λk r=>by cases r);have t:=fK (eo c);clear c a;go_wp2;go_ret;exact⟨rfl,q⟩
 rw[py N];have b2:decide ((n:Int)<2048)=U:=decide_eq_false (by omega);by_cases G:n<65536
 .rw[pz G];have a3:(n:Int)<65536:=by omega
  have s:L.wrap (224+(n:Int)/4096)=(((ak (224+n/4096)).toNat:Nat):Int):=by rw[show(224+(n:Int)/4096:Int)=((224+n/4096:Nat):Int) by omega];exact h _ (by omega)
  have u:L.wrap (128+(n:Int)/64%64)=(((ak (128+n/64%64)).toNat:Nat):Int):=by rw[show(128+(n:Int)/64%64:Int)=((128+n/64%64:Nat):Int) by omega];exact h _ (by omega)
  have F:L.wrap (128+(n:Int)%64)=(((ak (128+n%64)).toNat:Nat):Int):=by rw[show(128+(n:Int)%64:Int)=((128+n%64:Nat):Int) by omega];exact h _ (by omega)
  obtain⟨i,d⟩:∃x,ak (224+n/4096)=x:=⟨_,rfl⟩;rw[d]at s;obtain⟨o,f⟩:∃x,ak (128+n/64%64)=x:=⟨_,rfl⟩;rw[f]at u;obtain⟨v,g⟩:∃x,ak (128+n%64)=x:=⟨_,rfl⟩;rw[g]at F;rw[d,f,g];clear h d f g;go_enter ei,ej;go_wp2_with fail;refine(m.o _).mono ?_;rintro e w1 ⟨rfl,rfl⟩;go_wp2_with (at_builtin;refine jH (B:=w1.heap.size) (enc:=bZ) nY rfl _ _ rfl rfl (ek _ _ _ _) ⟨w1.heap.size,0,S⟩ 3 3 [i,o,v] rfl rfl ?_ ?_ ?_ ?_ ?_ ?_ ?_)
  .decide
  .intro j y l;rw[mi,aA (aL w1 _)];rcases j with _|_|_|j<;>simp at l<;>subst l<;>rfl
  .intro y;rfl
  .decide
  .simp;unfold ct;omega
  .simp
  intro b cap z c a;have q:=((dk w1 w1).alloc (hU _) (ac #[I L i.toNat,I L o.toNat,I L v.toNat] 5)).grown a (by simp) (λk r=>by cases r);have t:=fK (eo c);clear c a;go_wp2;go_ret;exact⟨rfl,q⟩
 rw[py G];have b3:decide ((n:Int)<65536)=U:=decide_eq_false (by omega);have s:L.wrap (240+(n:Int)/262144)=(((ak (240+n/262144)).toNat:Nat):Int):=by rw[show(240+(n:Int)/262144:Int)=((240+n/262144:Nat):Int) by omega];exact h _ (by omega)
 have u:L.wrap (128+(n:Int)/4096%64)=(((ak (128+n/4096%64)).toNat:Nat):Int):=by rw[show(128+(n:Int)/4096%64:Int)=((128+n/4096%64:Nat):Int) by omega];exact h _ (by omega)
 have F:L.wrap (128+(n:Int)/64%64)=(((ak (128+n/64%64)).toNat:Nat):Int):=by rw[show(128+(n:Int)/64%64:Int)=((128+n/64%64:Nat):Int) by omega];exact h _ (by omega)
 have T:L.wrap (128+(n:Int)%64)=(((ak (128+n%64)).toNat:Nat):Int):=by rw[show(128+(n:Int)%64:Int)=((128+n%64:Nat):Int) by omega];exact h _ (by omega)
 obtain⟨i,d⟩:∃x,ak (240+n/262144)=x:=⟨_,rfl⟩;rw[d]at s;obtain⟨o,f⟩:∃x,ak (128+n/4096%64)=x:=⟨_,rfl⟩;rw[f]at u;obtain⟨v,g⟩:∃x,ak (128+n/64%64)=x:=⟨_,rfl⟩;rw[g]at F;obtain⟨H,p⟩:∃x,ak (128+n%64)=x:=⟨_,rfl⟩;rw[p]at T;rw[d,f,g,p];clear h d f g p;go_enter ei,ej;go_wp2_with fail;refine(m.o _).mono ?_;rintro e w1 ⟨rfl,rfl⟩;go_wp2_with (at_builtin;refine jH (B:=w1.heap.size) (enc:=bZ) nY rfl _ _ rfl rfl (ek _ _ _ _) ⟨w1.heap.size,0,S⟩ 4 4 [i,o,v,H] rfl rfl ?_ ?_ ?_ ?_ ?_ ?_ ?_)
 .decide
 .intro j y l;rw[mi,aA (aL w1 _)];rcases j with _|_|_|_|j<;>simp at l<;>subst l<;>rfl
 .intro y;rfl
 .decide
 .simp;unfold ct;omega
 .simp
 intro b cap z c a;have q:=((dk w1 w1).alloc (hU _) (ac #[I L i.toNat,I L o.toNat,I L v.toNat,I L H.toNat] 5)).grown a (by simp) (λk r=>by cases r);have t:=fK (eo c);clear c a;go_wp2;go_ret;exact⟨rfl,q⟩
def rG(c:UInt8)(w:Z)(l:Oo)(h:aH c=l):ae C 140 #[I L c.toNat] w λe w'=>e=Q (bh ⟨l.toArray⟩)/\w'=w:=by
 have:=lN c w;rw[h]at this;exact this
def aG1(w:Z)(b:Nat)(d a:ag)(toks:List ag)(t:ag)(c:ag->ag->Array ag)(e:bz)(w':Z):Prop:=
 e=Q (I O 0)/\∃rawV' g off cap,w'.heap[b]?=J (ac (c rawV' (ah (J ⟨g,off,S⟩) (toks.length+1) cap)) 228 (0,0))/\
  Win 232 id w' (ah (J ⟨g,off,S⟩) (toks.length+1) cap) (toks++ [t])/\(a.ownBlock=J g\/w.heap.size<=g)/\Keeps (λk=>k=b\/d.ownBlock=J k\/a.ownBlock=J k) w w'
def uS{d y:UInt8}{s:ByteArray}{K:Nat}(e:(⟨(aH d).toArray⟩:ByteArray)=s)(a:(aH d)[K]?=J y):∃h:K<s.size,s[K]=y:=by
 subst e;obtain⟨c,b⟩:=bt.1 a;exact⟨by simpa[ig]using c,by simpa[ii]using b⟩
def aF5(w:Z)(b g off cap K:Nat)(l m n o p q r t u v x z B:ag)(d y f:UInt8)(H:w.heap[b]?=J (ac #[l,m,n,o,p,q,ah (g,off) K cap,r,t,u,v,x,z,B] 228 (0,0)))
 (F:w.cell? ⟨g,off,S⟩=J (bZ d))(N:0<K)(k:(aH d)[K]?=J y)(h:f≠y):
 ae C 141 #[au b,I L f.toNat] w λe w'=>e=Q (I O 94)/\w'=w:=by
 obtain⟨P,c1,c2,R,T,V,W,c7,c8,c9,ca,cb,cc,cd,cf⟩:=aN H;obtain⟨s,i⟩:∃s:ByteArray,(⟨(aH d).toArray⟩:ByteArray)=s:=⟨_,rfl⟩;obtain⟨G,j⟩:=uS i k;subst j;obtain⟨-,-,-⟩:=aD (c:=f) (d:=s[K]) h rfl;obtain⟨-,-,n6⟩:=aD (c:=s[K]) (d:=f) h.symm rfl;have a:=A (rG d w _ rfl);rw[i]at a;unfold bZ at F;clear H h i k;go_enter fm,fq;go_wp2_with fail;refine(a.o).mono ?_;rintro e w1 ⟨rfl,rfl⟩;go_wp2;go_ret;exact⟨rfl,rfl⟩
def aIv(w:Z)(b g off cap:Nat)(B G K N P R T V W va vb vc vd:ag)(d y:UInt8)(l:Oo)(o:w.heap[b]?=J (ac #[B,G,K,N,P,R,ah (g,off) l.length cap,T,V,W,va,vb,vc,vd] 228 (0,0)))
 (h0:w.cell? ⟨g,off,S⟩=J (bZ d))(f:Win 5 bZ w (ah (g,off) l.length cap) l)(hK:0<l.length)(m:(aH d)[l.length]?=J y)(h:l.length+1≠(aH d).length):
 ae C 141 #[au b,I L y.toNat] w λe w'=>oX w b (ah (g,off) l.length cap) (l++ [y]) (λv=> #[B,G,K,N,P,R,v,T,V,W,va,vb,vc,vd]) e w':=by
 obtain⟨c0,c1,c2,c3,c4,c5,c6,c7,c8,c9,ca,cb,cc,cd,cf⟩:=aN o;obtain⟨s,a⟩:∃s:ByteArray,(⟨(aH d).toArray⟩:ByteArray)=s:=⟨_,rfl⟩;obtain⟨h3,h4⟩:=uS a m
 have h5:l.length<5:=by
  have:s.size<=5:=by rw[<-a];show(aH d).toArray.size<=5;rw[oy];unfold aH;repeat' (first|exact by decide|split)
  omega
 have i:=A (rG d w _ rfl);rw[a]at i;have q:=A (f.ne o (by decide));have H:=A o;have r:=fc o;have c:Win 5 bZ (w.alloc (ac #[bZ y] 5)) (ah (g,off) l.length cap) l:=f.A0 (F:=λ_=>False) ((bj _ w).A5 _) (λ_ _=>id);have HR:=A c;have j:s.size=(aH d).length:=by rw[<-a];exact oy
 unfold bZ at h0;have t:¬(l.length:Int)+1=(s.size:Int):=by omega
 have h6:((l.length:Int)+1==(s.size:Int))=U:=by simpa using t
 clear o a f c m h j;go_enter fm,fq;go_wp2_with fail;refine(i.o).mono ?_;rintro e w1 ⟨rfl,rfl⟩;go_wp2_with (at_builtin;refine dE nY rfl _ _ rfl rfl HR.o w1 1 y rfl ?_ rfl ?_ ?_ ?_)
 .exact fQ rfl
 .omega
 .unfold ct;omega
 intro u j m w' a f h;have c:=(h.block b (by simp;omega) (λe=>q.o e.symm)).trans ((de _ _ _ r).trans H.o);have x:=A (a.ne c (by decide));have z:=A (show(ah (g,off) l.length cap).ownBlock=J u\/w1.heap.size<=u from f.elim D (λo=>Y (bo (by simp) o.1)));have HK:=A (((bj (λk=>k=b\/(ah (g,off) l.length cap).ownBlock=J k) w1).A5 (ac #[bZ y] 5)).G0 h (λk e=>D (Y e)));have n:=A a;obtain⟨-,-,-,-,-,-,d6,-,-,-,-,-,-,-,df⟩:=aN c;have HB:=A c;clear c a f h c0 c1 c2 c3 c4 c5 c6 c7 c8 c9 ca cb cc cd cf;go_wp2;go_ret;refine⟨rfl,u,j,m,?_,?_,z.o,HK.o.A3 (p:=⟨b,6,S⟩) (D (D rfl)) _⟩
 .rw[cn];exact aB HB.o _
 rw[cn];exact n.o.A0 ((bj (λk=>k=b) w').A3 (p:=⟨b,6,S⟩) (D rfl) _) (λk e a=>x.o (e.trans (congrArg J a)))
def aF6(w:Z)(b g off cap pl h:Nat)(v1 v2 v3 v4 v7 v8 v9 va vb vc a:ag)(d y:UInt8)(l:Oo)(toks:List ag)(t:w.heap[b]?=J (ac #[pl,v1,v2,v3,v4,h,ah (g,off) l.length cap,v7,v8,v9,va,vb,vc,a] 228 (0,0)))
 (h0:w.cell? ⟨g,off,S⟩=J (bZ d))(q:Win 5 bZ w (ah (g,off) l.length cap) l)(hK:0<l.length)(G:(aH d)[l.length]?=J y)(x:l.length+1=(aH d).length)(z:Win 232 id w a toks)(j:toks.length<=1000)(m:h<=pl+1)(f:pl<=1073741823):
 ae C 141 #[au b,I L y.toNat] w λe w'=>aG1 w b (ah (g,off) l.length cap) a toks (bU (.term h (pl+1-h) (aH d))) (λr v=> #[pl,v1,v2,co (cr 104) #[] #[],af U,h,r,v7,v8,v9,va,vb,vc,v]) e w':=by
 obtain⟨c0,c1,c2,c3,c4,c5,c6,c7,c8,c9,ca,cb,cc,cd,cf⟩:=aN t;obtain⟨s,i⟩:∃s:ByteArray,(⟨(aH d).toArray⟩:ByteArray)=s:=⟨_,rfl⟩;obtain⟨i1,i2⟩:=uS i G
 have i3:l.length<5:=by
  have:s.size<=5:=by rw[<-i];show(aH d).toArray.size<=5;rw[oy];unfold aH;repeat' (first|exact by decide|split)
  omega
 have u:=A (rG d w _ rfl);rw[i]at u;have R:=A (q.ne t (by decide));have H:=A t;have T:=fc t;have n:Win 5 bZ (w.alloc (ac #[bZ y] 5)) (ah (g,off) l.length cap) l:=q.A0 (F:=λ_=>False) ((bj _ w).A5 _) (λ_ _=>id);have HR:=A n;have B:s.size=(aH d).length:=by rw[<-i];exact oy
 unfold bZ at h0;have i4:(l.length:Int)+1=(s.size:Int):=by omega
 have HW:=A z;have V:=A j;have W:=A (λ(k:Nat)(e:(ah (g,off) l.length cap).ownBlock=J k)=>tK q z (by decide) e);have h7:=A (And.intro m f);obtain⟨sz,c⟩:∃sz,pl+1-h=sz:=⟨_,rfl⟩;have h8:=A c;have i5:pl<=1073741823:=f;rw[show bU (.term h (pl+1-h) (aH d))=cz 309 (av #[h,I O (pl+1-h:Nat),bh ⟨(aH d).toArray⟩])from rfl,i,c];clear t i q n z j m f c G x B;go_enter fm,fq;go_wp2_with fail;refine(u.o).mono ?_;rintro e w1 ⟨rfl,rfl⟩;go_wp2_with (at_builtin;refine dE nY rfl _ _ rfl rfl HR.o w1 1 y rfl ?_ rfl ?_ ?_ ?_)
 .exact fQ rfl
 .omega
 .unfold ct;omega
 intro x c f w' z B j;have m:=(j.block b (by simp;omega) (λe=>R.o e.symm)).trans ((de _ _ _ T).trans H.o);have HK:=A (((bj (λk=>k=b\/(ah (g,off) l.length cap).ownBlock=J k) w1).A5 (ac #[bZ y] 5)).G0 j (λk e=>D (Y e)));obtain⟨d0,-,-,-,-,-,d6,-,-,-,-,-,-,-,df⟩:=aN m;have i:=aB m (o:=6) (ah (x,c) (l.length+1) f);simp only[jy,kL,la]at i;have G:=A (rX _ b _ h (pl+1) i rfl (by have:=h7.o;omega) (by omega));rw[show((pl+1:Nat):Int)=(pl:Int)+1 by omega,h8.o]at G;have n:Keeps (λk=>k=b\/(ah (g,off) l.length cap).ownBlock=J k) w1 (w'.setCell ⟨b,6,S⟩ (ah (x,c) (l.length+1) f)):=HK.o.A3 (p:=⟨b,6,S⟩) (D (D rfl)) _;have K:Win 232 id (w'.setCell ⟨b,6,S⟩ (ah (x,c) (l.length+1) f)) a toks:=HW.o.A0 n (λk e hk=>hk.elim (λe2=>HW.o.ne H.o (by decide) (e.trans (congrArg J e2))) (λe2=>W.o k e2 e));have q:=A (λP(hb:az (w'.setCell ⟨b,6,S⟩ (ah (x,c) (l.length+1) f)).heap.size (w'.setCell ⟨b,6,S⟩ (ah (x,c) (l.length+1) f)) P)=>rY P b _ _ _ _ _ _ _ _ _ _ _ _ _ a 309 (av #[h,I O sz,s]) toks (keep i hb) (K.A0 (bs (λ_=>False) hb) (λ_ _=>id)) V.o);have N:=A n;clear m z B j i K n c0 c1 c2 c3 c4 c5 c6 c7 c8 c9 ca cb cc cd cf;go_wp2_with fail;refine(G.o).mono ?_;rintro e P ⟨rfl,i⟩;have HT:=A (q.o P i);have j:=A i;clear i;go_wp2_with fail;refine(HT.o).mono ?_;rintro e w3 ⟨rfl,g3,i,m,h3,n,z,B⟩;have H3:=A h3;have K:=A n;have h9:=A z;have i0:=A B;clear h3 n z B;go_wp2;go_ret;refine⟨rfl,_,g3,i,m,H3.o,K.o,h9.o.elim D (λt=>Y (bo N.o.size (bo j.o.size t))),?_⟩;exact((N.o.mono (λk t=>t.imp id D)).same (bs _ j.o)).same (i0.o.mono (λk t=>t.imp id Y))
def aD3{a v:Nat}(e:a<4096)(d:v<16):cw fu E ((a:Int)*16) (v:Int)=((a*16+v:Nat):Int):=by
 have c:a*16||| v=a*16+v:=nat_join 4 _ _ (by omega) (by omega)
 have b:(gy 32 ((a:Int)*16)).toNat=a*16:=by
  rw[show((a:Int)*16)=((a*16:Nat):Int) by omega];exact ofInt_u32 _ (by omega)
 show E.wrap ((gy 32 ((a:Int)*16)||| BitVec.ofInt 32 (v:Int)).toNat:Int)=_;rw[BitVec.toNat_or,b,ofInt_u32 v (by omega),c];simp only[ij,ik,il];simp;omega
def aIw(w:Z)(b hi:Nat)(v p s i t l j q x m r o u:ag)(d:UInt8)(h:w.heap[b]?=J (ac #[v,p,s,i,t,l,j,q,x,m,r,o,I E hi,u] 228 (0,0)))(g:hexOf d=S):
 ae C 188 #[au b,I L d.toNat] w λe w'=>e=Q (I O (if hi=0 then 92 else 93))/\w'=w:=by
 obtain⟨K,c1,c2,R,N,T,W,G,z,B,H,P,y,cd,V⟩:=aN h;have f:=A (pV d);rw[g]at f;clear h g;by_cases c:hi=0
 .rw[pz c];subst c;go_enter dv,dw;go_wp2_with fail;refine(f.o _).mono ?_;rintro e w1 ⟨a,rfl⟩;unfold uR at a;simp only[]at a;subst a;go_wp2;go_ret;exact⟨rfl,rfl⟩
 .rw[py c];obtain⟨-,F,-⟩:=lW (n:=hi) (k:=0) (by omega);clear c;go_enter dv,dw;go_wp2_with fail;refine(f.o _).mono ?_;rintro e w1 ⟨a,rfl⟩;unfold uR at a;simp only[]at a;subst a;go_wp2;go_ret;exact⟨rfl,rfl⟩
def aF7(w:Z)(b dg a hi v:Nat)(t o q k r m l p u n s:ag)(d:UInt8)(h:w.heap[b]?=J (ac #[t,o,q,k,r,m,l,p,u,n,dg,I E a,I E hi,s] 228 (0,0)))(i:hexOf d=J v)(c:eH hi dg a v=X):
 ae C 188 #[au b,I L d.toNat] w λe w'=>e=Q (I O 93)/\w'=w:=by
 obtain⟨G,c1,c2,N,H,R,V,B,y,z,F,K,x,cd,P⟩:=aN h;have j:=A (pV d);rw[i]at j;have g:=A (zK w b dg a hi v _ _ _ _ _ _ _ _ _ _ _ h);rw[c]at g;have T:¬(v:Int)<0:=by omega
 clear h i c;go_enter dv,dw;go_wp2_with fail;refine(j.o _).mono ?_;rintro e w1 ⟨f,rfl⟩;unfold uR at f;simp only[]at f;subst f;go_wp2_with fail;refine(g.o).mono ?_;rintro e w1 ⟨rfl,rfl⟩;go_wp2;go_ret;exact⟨rfl,rfl⟩
def aF8(w:Z)(b dg a hi v:Nat)(h i j l m n o q r s t:ag)(d:UInt8)(y:w.heap[b]?=J (ac #[h,i,j,l,m,n,o,q,r,s,dg,I E a,I E hi,t] 228 (0,0)))(f:hexOf d=J v)(c:eH hi dg a v=U)(g:a<4096)(z:dg<3):
 ae C 188 #[au b,I L d.toNat] w λe w'=>rZ w b 0 #[h,i,j,l,m,n,o,q,r,s,I O (dg+1:Nat),I E (a*16+v:Nat),I E hi,t] e w':=by
 obtain⟨F,c1,c2,G,K,N,P,R,T,V,W,cb,cc,cd,cf⟩:=aN y;have u:=A (pV d);rw[f]at u;have x:=A (zK w b dg a hi v _ _ _ _ _ _ _ _ _ _ _ y);rw[c]at x;have e1:¬(v:Int)<0:=by omega
 have B:=A (aD3 g (sL f));have H:=A y;clear y f c;go_enter dv,dw;go_wp2_with fail;refine(u.o _).mono ?_;rintro e w1 ⟨c,rfl⟩;unfold uR at c;simp only[]at c;subst c;go_wp2_with fail;refine(x.o).mono ?_;rintro e w1 ⟨rfl,rfl⟩;go_wp2;go_ret;rw[B.o];exact⟨rfl,aB (aB H.o _) _,((bj (λk=>k=b) w1).A3 (p:=⟨b,11,S⟩) (D rfl) _).A3 (p:=⟨b,10,S⟩) (D rfl) _⟩
def aBg(w:Z)(b a:Nat):Z:=(w.setCell ⟨b,11,S⟩ (I E a)).setCell ⟨b,10,S⟩ (I O 4)
def aD4(w:Z)(b a:Nat):Keeps (λk=>k=b) w (aBg w b a):=((bj (λk=>k=b) w).A3 (p:=⟨b,11,S⟩) (D rfl) _).A3 (p:=⟨b,10,S⟩) (D rfl) _
def aF9(w:Z)(b a hi v:Nat)(l m n o p q r s t u x:ag)(d:UInt8)(B:bz->Z->Prop)(k:w.heap[b]?=J (ac #[l,m,n,o,p,q,r,s,t,u,I O 3,I E a,I E hi,x] 228 (0,0)))(f:hexOf d=J v)(c:eH hi 3 a v=U)(g:a<4096)
 (h:ae C 204 #[au b] (aBg w b (a*16+v)) λe w'=>e=Q (ai #[])/\B (Q (I O 0)) w'):
 ae C 188 #[au b,I L d.toNat] w B:=by
 obtain⟨F,c1,c2,G,K,N,P,R,T,V,W,cb,cc,cd,cf⟩:=aN k;have i:=A (pV d);rw[f]at i;have j:=A (zK w b 3 a hi v _ _ _ _ _ _ _ _ _ _ _ k);rw[c]at j;have e1:¬(v:Int)<0:=by omega
 have y:=A (aD3 g (sL f));have H:=A k;have z:=A h;clear k f c h;go_enter dv,dw;go_wp2_with fail;refine(i.o _).mono ?_;rintro e w1 ⟨c,rfl⟩;unfold uR at c;simp only[]at c;subst c;go_wp2_with fail;refine(j.o).mono ?_;rintro e w1 ⟨rfl,rfl⟩;go_wp2_with fail;rw[y.o];refine(z.o).mono ?_;rintro e w2 ⟨rfl,h⟩;have f:=A h;clear h;go_wp2_with fail;exact f.o
def aKA{w:Z}{c hi dg:Nat}{j i f e k l g n d m o:ag}(a:Nat)(h:w.heap[b]?=J (ac #[j,i,f,e,k,l,g,n,d,m,dg,I E c,I E hi,o] 228 (0,0))):
 (aBg w b a).heap[b]?=J (ac #[j,i,f,e,k,l,g,n,d,m,I O (4:Nat),I E a,I E hi,o] 228 (0,0)):=aB (aB h _) _
def bV(s:Nat):List UInt8->Nat×Nat
 | []=>(0,s)
 | c::t=>match aR s c with
  | none=>(0,s)
  | some a=>((bV a t).1+1,(bV a t).2)
def m7(s:Nat):bV s []=(0,s):=rfl
def eS{t:Oo}(h:aR s c=S):bV s (c::t)=(0,s):=by unfold bV;rw[h]
def cQ{a:Nat}{t:Oo}(h:aR s c=J a):bV s (c::t)=((bV a t).1+1,(bV a t).2):=by
 rw[bV];rw[h]
def lC(c:UInt8)(t:Oo):bR (c::t)=isD c:=rfl
def jI(c:UInt8)(t:Oo):over (c::t)=if isD c then over t+1 else 0:=by
 unfold over;rw[List.takeWhile_cons];split<;>rfl
def fR:∀l:Oo,bR (l.drop (over l))=U
 | []=>rfl
 | c::t=>by
  rw[jI];by_cases h:isD c
  .rw[pz h,kw];exact fR t
  .rw[py h,kz];unfold bR;simpa using h
def aC6{l:Oo}(h:bR l=U):over l=0:=by
 cases l with
 | nil=>rfl
 | cons c t=>rw[jI,py (by rw[lC]at h;rw[h];simp)]
def lP(a:∀c,isD c=X->aR s c=J s):∀l:Oo,bV s l=(over l+(bV s (l.drop (over l))).1,(bV s (l.drop (over l))).2)
 | []=>rfl
 | c::t=>by
  rw[jI];by_cases h:isD c
  .rw[pz h,kw,cQ (a c h),lP a t];simp only[ov,and_true];omega
  .rw[py h,kz,jw]
def aLR(c:UInt8):aR 8 c=if isD c then J 8 else S:=by unfold aR;simp
def aMk(c:UInt8):aR 7 c=if isD c then J 8 else S:=by unfold aR;simp
def aJP(c:UInt8):aR 6 c=if c=43\/c=45 then J 7 else if isD c then J 8 else S:=by unfold aR;simp
def aLS(c:UInt8):aR 5 c=if isD c then J 5 else if c=101\/c=69 then J 6 else S:=by unfold aR;simp
def aLT(c:UInt8):aR 4 c=if isD c then J 5 else S:=by unfold aR;simp
def aLU(c:UInt8):aR 3 c=if isD c then J 3 else if c=46 then J 4 else if c=101\/c=69 then J 6 else S:=by unfold aR;simp
def aMl(c:UInt8):aR 2 c=if c=46 then J 4 else if c=101\/c=69 then J 6 else S:=by unfold aR;simp
def aMm(c:UInt8):aR 1 c=if c=48 then J 2 else if isD c then J 3 else S:=by unfold aR;simp
def aJQ(c:UInt8):aR 0 c=if c=45 then J 1 else if c=48 then J 2 else if isD c then J 3 else S:=by unfold aR;simp
def aMn(l:Oo):bV 8 l=(over l,8):=by
 rw[lP (λc h=>by rw[aLR,pz h])];have h:=fR l;cases a:l.drop (over l)with
 | nil=>rfl
 | cons c t=>
  rw[a]at h;rw[eS (by rw[aLR,py (by rw[lC]at h;rw[h];simp)])];rfl
def aE2(a:∀c,aR s c=if isD c then J 8 else S)(l:Oo):bV s l=if bR l then(over l,8)else(0,s):=by
 cases l with
 | nil=>rfl
 | cons c t=>
  show _=if isD c then _ else _;by_cases h:isD c
  .rw[pz h,cQ (by rw[a,pz h]),aMn,jI,pz h]
  .rw[py h,eS (by rw[a,py h])]
def aMw(l:Oo):bV 6 l=if bR (l.drop (iC l))then(iC l+over (l.drop (iC l)),8)else(iC l,if iC l=0 then 6 else 7):=by
 cases l with
 | nil=>rfl
 | cons c t=>
  show bV 6 (c::t)=if bR ((c::t).drop (if c=43\/c=45 then 1 else 0))then((if c=43\/c=45 then 1 else 0)+over ((c::t).drop (if c=43\/c=45 then 1 else 0)),8)else((if c=43\/c=45 then 1 else 0),if(if c=43\/c=45 then 1 else 0)=0 then 6 else 7);by_cases h:c=43\/c=45
  .simp only[pz h,kw,kz];rw[cQ (by rw[aJP,pz h]),aE2 aMk];split<;>simp[lw]
  .simp only[py h,kz];show _=if isD c then _ else _;by_cases a:isD c
   .rw[pz a,cQ (by rw[aJP,py h,pz a]),aMn,jI,pz a];simp
   .rw[py a,eS (by rw[aJP,py h,py a])];rfl
def aGM(b:bL s=X)(n:Nat)(l:Oo)(d:∀c t,l=c::t->aR s c=if c=101\/c=69 then J 6 else S):jA n l=(n+(bV s l).1,bL (bV s l).2):=by
 cases l with
 | nil=>unfold jA;rw[m7,b];rfl
 | cons c t=>
  unfold jA;simp only;by_cases h:c=101\/c=69
  .rw[pz h,cQ (by rw[d c t rfl,pz h]),aMw];by_cases a:bR (t.drop (iC t))=X
   .rw[pz a,pz a];simp only[ov];exact⟨by omega,rfl⟩
   .rw[py a,py a];simp only[ov];refine⟨by omega,?_⟩;split<;>rfl
  .rw[py h,eS (by rw[d c t rfl,py h]),b];rfl
def aMx(n:Nat)(l:Oo)(h:bR l=X):jA (n+over l) (l.drop (over l))=(n+(bV 4 l).1,bL (bV 4 l).2):=by
 cases l with
 | nil=>cases h
 | cons c t=>
  have a:isD c=X:=h;rw[cQ (by rw[aLT,pz a]),lP (s:=5) (λc h=>by rw[aLS,pz h]),jI,pz a,kw]
  rw[aGM (s:=5) rfl _ _ (λd u e=>by
   rw[aLS];have h:=fR t;rw[e]at h;rw[py (by rw[lC]at h;rw[h];simp)])]
  simp only[ov,and_true];omega
def aAS(b:bL s=X)(n:Nat)(l:Oo)(f:∀c t,l=c::t->aR s c=if c=46 then J 4 else if c=101\/c=69 then J 6 else S):dP n l=(n+(bV s l).1,bL (bV s l).2):=by
 cases l with
 | nil=>unfold dP;rw[m7,b];rfl
 | cons c t=>
  unfold dP;simp only;by_cases h:c=46
  .rw[pz h,cQ (by rw[f c t rfl,pz h])];by_cases a:bR t=X
   .rw[pz a,aMx (n+1) t a];simp only[ov,and_true];omega
   .rw[py a]
    have:bV 4 t=(0,4):=by
     cases t with
     | nil=>rfl
     | cons d u=>exact eS (by rw[aLT,py (by rw[lC]at a;exact a)])
    rw[this];rfl
  .rw[py h];exact aGM b n (c::t) (λd u e=>by injection e with g e2;subst g;rw[f c t rfl,py h])
def aAT(f:bL s=U)(n:Nat)(l:Oo)(b:∀c t,l=c::t->aR s c=if c=48 then J 2 else if isD c then J 3 else S):dQ n l=(n+(bV s l).1,bL (bV s l).2):=by
 cases l with
 | nil=>unfold dQ;rw[m7,f];rfl
 | cons c t=>
  unfold dQ;simp only;by_cases a:isD c=X
  .rw[pz a];by_cases h:c=48
   .rw[pz h,cQ (by rw[b c t rfl,pz h]),aAS (s:=2) rfl _ _ (λd u _=>aMl d)];simp only[ov,and_true];omega
   .rw[py h,cQ (by rw[b c t rfl,py h,pz a]),lP (s:=3) (λc h=>by rw[aLU,pz h]),jI,pz a,kw]
    rw[aAS (s:=3) rfl _ _ (λd u e=>by
     rw[aLU];have h:=fR t;rw[e]at h;rw[py (by rw[lC]at h;rw[h];simp)])]
    simp only[ov,and_true];omega
  .rw[py a,eS (by rw[b c t rfl,py (by rintro rfl;exact a rfl),py a]),f];rfl
def xX(l:Oo):dB l=((bV 0 l).1,bL (bV 0 l).2):=by
 cases l with
 | nil=>rfl
 | cons c t=>
  unfold dB;simp only;by_cases h:c=45
  .rw[pz h,cQ (by rw[aJQ,pz h]),aAT (s:=1) rfl _ _ (λd u _=>aMm d)];simp only[ov,and_true];omega
  .rw[py h,aAT (s:=0) rfl 0 (c::t) (λd u e=>by injection e with a e2;subst a;rw[aJQ,py h]),jw]
