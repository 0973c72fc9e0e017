/-
  The program, one part of its walk. Conditions: none.
-/
import Derived.Test.YtakkmiomhackiaaGreatDoorBf06
import Derived.Test.YtakkmiomhackiaaGreatDoorBf07
set_option linter.all false
set_option maxRecDepth 100000
set_option maxHeartbeats 16000000
open Go.Proofs.Tryz
open Bool renaming true->X
open Go renaming Addr->ak,Calls->ag,Value->K,World->U,bodyPost_ret->bc,heap_alloc_new->bx,maxLen->ai,results->bh
open Go.Addr renaming add->cw
open Go.Ending renaming returned->ah
open Go.IntKind renaming i64->G
open Go.Lib renaming run_eql_slice_nil->cu
open Go.Obj renaming cells->W
open Go.Proofs renaming intOf->ar
open Go.Proofs.Tryz renaming func164->bp,ntmps164->bu,prog->Y,results164->bw,underlying32->bm
open Go.Proofs.YtakkmiomhackiaaGreatDoor.Form renaming B9->ct
open Go.Proofs.YtakkmiomhackiaaGreatDoor.Keeps renaming A0->V,A8->bk
open Go.Proofs.YtakkmiomhackiaaGreatDoor.Tr renaming A5->dm,object->dj
open Go.Proofs.YtakkmiomhackiaaGreatDoor.aQ renaming E8->bz
open Go.RowKit renaming Below->af
open Go.RowKit.Below renaming refl->bj
open Go.Value renaming iface->E,int->H,nilIface->di,pointer->co,slice->O,tuple->ao
open Go.Value.slice renaming injEq->du
open Go.World.ownsMap renaming drew->dt
open List renaming getElem?_eq_getElem->aw,getElem?_eq_some_iff->dp,getElem?_map->cz,length_cons->dh,length_drop->av,length_map->cg,map_id->dq,mem_map->cv,mem_of_getElem?->ba,mem_of_mem_drop->cr,take_add_one->dl,take_append_drop->ck
open Nat renaming le_refl->Z,le_trans->aj,lt_of_lt_of_le->cj,zero_le->au
open Option renaming none->J,some->I
open Or renaming inl->ae,inr->S
open UInt8.toNat renaming inj->ac
namespace Go.Proofs.YtakkmiomhackiaaGreatDoor
open Go.RowKit
variable {c:UInt8}{t:Oo}{n:Nat}
inductive Fm:List UInt8->Prop
 | one (a:UInt8) (h:a.toNat<128):Fm [a]
 | two (a b:UInt8) (h1:194<=a.toNat) (h2:a.toNat<=223) (h3:128<=b.toNat) (h4:b.toNat<=191):Fm [a,b]
 | three (a b c:UInt8) (h1:224<=a.toNat) (h2:a.toNat<=239) (h3:128<=b.toNat) (h4:b.toNat<=191) (h5:128<=c.toNat) (h6:c.toNat<=191) (h7:a.toNat=224->160<=b.toNat) (h8:a.toNat=237->b.toNat<=159):Fm [a,b,c]
 | four (a b c d:UInt8) (h1:240<=a.toNat) (h2:a.toNat<=244) (h3:128<=b.toNat) (h4:b.toNat<=191) (h5:128<=c.toNat) (h6:c.toNat<=191) (h7:128<=d.toNat) (h8:d.toNat<=191) (h9:a.toNat=240->144<=b.toNat) (h10:a.toNat=244->b.toNat<=143):Fm [a,b,c,d]
def bM:List UInt8->Nat
 | [a]=>a.toNat
 | [a,b]=>64*(a.toNat-192)+(b.toNat-128)
 | [a,b,c]=>64*(64*(a.toNat-224)+(b.toNat-128))+(c.toNat-128)
 | [a,b,c,d]=>64*(64*(64*(a.toNat-240)+(b.toNat-128))+(c.toNat-128))+(d.toNat-128)
 | _=>0
def uA(c:UInt8)(h:(aC c).a≠0):(c.toNat<128/\(aC c).a=1)\/(194<=c.toNat/\c.toNat<=223/\aC c=⟨2,128,191⟩)\/
 (224<=c.toNat/\c.toNat<=239/\aC c=⟨3,if c.toNat=224 then 160 else 128,if c.toNat=237 then 159 else 191⟩)\/(240<=c.toNat/\c.toNat<=244/\aC c=⟨4,if c.toNat=240 then 144 else 128,if c.toNat=244 then 143 else 191⟩):=by
 revert h;unfold aC
 by_cases f:c.toNat<128
 .rw[if_pos f];intro _;exact ae ⟨f,rfl⟩
 .rw[if_neg f]
  by_cases j:c.toNat<194
  .rw[if_pos j];intro h;exact absurd rfl h
  .rw[if_neg j]
   by_cases k:c.toNat<224
   .rw[if_pos k];intro _;exact S (ae ⟨by omega,by omega,rfl⟩)
   .rw[if_neg k]
    by_cases a:c.toNat=224
    .rw[if_pos a];intro _;exact S (S (ae ⟨by omega,by omega,by rw[if_pos a,if_neg (by omega)]⟩))
    .rw[if_neg a]
     by_cases d:c.toNat=237
     .rw[if_pos d];intro _;exact S (S (ae ⟨by omega,by omega,by rw[if_neg a,if_pos d]⟩))
     .rw[if_neg d]
      by_cases g:c.toNat<240
      .rw[if_pos g];intro _;exact S (S (ae ⟨by omega,by omega,by rw[if_neg a,if_neg d]⟩))
      .rw[if_neg g]
       by_cases b:c.toNat=240
       .rw[if_pos b];intro _;exact S (S (S ⟨by omega,by omega,by rw[if_pos b,if_neg (by omega)]⟩))
       .rw[if_neg b]
        by_cases i:c.toNat<244
        .rw[if_pos i];intro _;exact S (S (S ⟨by omega,by omega,by rw[if_neg b,if_neg (by omega)]⟩))
        .rw[if_neg i]
         by_cases e:c.toNat=244
         .rw[if_pos e];intro _;exact S (S (S ⟨by omega,by omega,by rw[if_neg b,if_pos e]⟩))
         .rw[if_neg e];intro h;exact absurd rfl h
def wL{f:Form}:f.B9 1 c=X<->f.low<=c.toNat/\c.toNat<=f.h:=by unfold ct;rw[if_pos rfl];simp
def aCW{f:Form}{i:Nat}(hi:i≠1):f.B9 i c=X<->128<=c.toNat/\c.toNat<=191:=by unfold ct;rw[if_neg hi];simp
def mZ(h:eC (c::t)=.ok n):Fm ((c::t).take n)/\n=((c::t).take n).length:=by
 unfold eC at h;simp only at h
 by_cases o:(aC c).a=0
 .rw[if_pos o]at h;cases h
 .rw[if_neg o]at h;rcases uA c o with⟨j,i⟩|⟨j,i,k⟩|⟨j,i,k⟩|⟨j,i,k⟩
  .rw[i]at h;unfold cJ at h;cases h;exact⟨.one c j,rfl⟩
  .rw[k]at h;cases t with
   | nil=>simp[cJ]at h
   | cons b t=>
    simp only[cJ]at h;split at h
    .rename_i a;cases h;rw[wL]at a;exact⟨.two c b j i a.1 a.2,rfl⟩
    .cases h
  .obtain⟨l,f⟩:∃l,(if c.toNat=224 then 160 else 128)=l:=⟨_,rfl⟩;obtain⟨hi,d⟩:∃hi,(if c.toNat=237 then 159 else 191)=hi:=⟨_,rfl⟩;rw[f,d]at k;rw[k]at h;cases t with
   | nil=>simp[cJ]at h
   | cons b t=>
    simp only[cJ]at h;split at h
    .rename_i a;cases t with
     | nil=>cases h
     | cons b2 t=>
      simp only[cJ]at h;split at h
      .rename_i g;cases h;rw[wL]at a;rw[aCW (by decide)]at g;simp only at a;refine⟨.three c b b2 j i ?_ ?_ g.1 g.2 ?_ ?_,rfl⟩
       .have:=a.1;split at f<;>omega
       .have:=a.2;split at d<;>omega
       .intro e;have:=a.1;rw[if_pos e]at f;omega
       .intro e;have:=a.2;rw[if_pos e]at d;omega
      .cases h
    .cases h
  .obtain⟨l,f⟩:∃l,(if c.toNat=240 then 144 else 128)=l:=⟨_,rfl⟩;obtain⟨hi,d⟩:∃hi,(if c.toNat=244 then 143 else 191)=hi:=⟨_,rfl⟩;rw[f,d]at k;rw[k]at h;cases t with
   | nil=>simp[cJ]at h
   | cons b t=>
    simp only[cJ]at h;split at h
    .rename_i a;cases t with
     | nil=>cases h
     | cons b2 t=>
      simp only[cJ]at h;split at h
      .rename_i g;cases t with
       | nil=>cases h
       | cons b3 t=>
        simp only[cJ]at h;split at h
        .rename_i m;cases h;rw[wL]at a;rw[aCW (by decide)]at g m;simp only at a;refine⟨.four c b b2 b3 j i ?_ ?_ g.1 g.2 m.1 m.2 ?_ ?_,rfl⟩
         .have:=a.1;split at f<;>omega
         .have:=a.2;split at d<;>omega
         .intro e;have:=a.1;rw[if_pos e]at f;omega
         .intro e;have:=a.2;rw[if_pos e]at d;omega
        .cases h
      .cases h
    .cases h
def dG(n:Nat):List Nat:=if n<65536 then [n]else [55296+(n-65536)/1024,56320+(n-65536)%1024]
def cmpL:List Nat->List Nat->Int
 | [],[]=>0
 | [],_::_=> -1
 | _::_,[]=>1
 | x::a,y::b=>if x=y then cmpL a b else if x<y then -1 else 1
def aAO:∀(u a b:List Nat),cmpL (u++a) (u++b)=cmpL a b
 | [],_,_=>rfl
 | x::u,a,b=>by show(if x=x then _ else _)=_;rw[if_pos rfl];exact aAO u a b
def aAP:∀(u a b:Oo),eE (u++a) (u++b)=eE a b
 | [],_,_=>rfl
 | x::u,a,b=>by show(if x=x then _ else _)=_;rw[if_pos rfl];exact aAP u a b
def keyOf(n:Nat):Nat:=if n<57344 then n else if n<65536 then n+2000000 else n
def aHu{m:Nat}(f:fM n)(e:fM m)(h:n≠m)(a b:List Nat):cmpL (dG n++a) (dG m++b)=if keyOf n<keyOf m then -1 else 1:=by
 unfold fM at f e;unfold dG keyOf
 by_cases d:n<65536
 .rw[if_pos d]
  by_cases c:m<65536
  .rw[if_pos c]
   show(if n=m then _ else if n<m then(-1:Int)else 1)=_
   rw[if_neg h]
   repeat' split
   all_goals first|rfl|omega
  .rw[if_neg c]
   show(if n=55296+(m-65536)/1024 then _ else if n<55296+(m-65536)/1024 then(-1:Int)else 1)=_
   rw[if_neg (by omega)]
   repeat' split
   all_goals first|rfl|omega
 .rw[if_neg d]
  by_cases c:m<65536
  .rw[if_pos c]
   show(if 55296+(n-65536)/1024=m then _ else if 55296+(n-65536)/1024<m then(-1:Int)else 1)=_
   rw[if_neg (by omega)]
   repeat' split
   all_goals first|rfl|omega
  .rw[if_neg c]
   show(if 55296+(n-65536)/1024=55296+(m-65536)/1024 then(if 56320+(n-65536)%1024=56320+(m-65536)%1024 then _ else if 56320+(n-65536)%1024<56320+(m-65536)%1024 then(-1:Int)else 1)else if 55296+(n-65536)/1024<55296+(m-65536)/1024 then -1 else 1)=_
   by_cases g:(n-65536)/1024=(m-65536)/1024
   .rw[if_pos (by omega),if_neg (by omega)]
    repeat' split
    all_goals first|rfl|omega
   .rw[if_neg (by omega)]
    repeat' split
    all_goals first|rfl|omega
def aBD{f:Oo}(h:Fm f):fM (bM f):=by
 unfold fM;cases h<;>simp only[bM]<;>omega
def bS(x:UInt8):(x.toNat<238->aZ x=x.toNat)/\(238<=x.toNat->x.toNat<240->aZ x=x.toNat+16)/\(240<=x.toNat->aZ x=x.toNat-2):=by
 unfold aZ;refine⟨λh=>if_pos h,λb a=>?_,λh=>?_⟩
 .rw[if_neg (by omega),if_pos a]
 .rw[if_neg (by omega),if_neg (by omega)]
def aJB(n:Nat):(n<57344->keyOf n=n)/\(57344<=n->n<65536->keyOf n=n+2000000)/\(65536<=n->keyOf n=n):=by
 unfold keyOf;refine⟨λh=>if_pos h,λb a=>?_,λh=>?_⟩
 .rw[if_neg (by omega),if_pos a]
 .rw[if_neg (by omega),if_neg (by omega)]
def dK{p q:Prop} [Decidable p] [Decidable q](h:p<->q):(if p then(-1:Int)else 1)=if q then -1 else 1:=by
 by_cases a:p
 .rw[if_pos a,if_pos (h.1 a)]
 .rw[if_neg a,if_neg (λb=>a (h.2 b))]
def aEY{f g:Oo}(hf:Fm f)(C:Fm g)(a0:f≠g)(a b:Oo):eE (f++a) (g++b)=if keyOf (bM f)<keyOf (bM g)then -1 else 1:=by
 have D:=aJB (bM f);have j:=aJB (bM g);generalize keyOf (bM f)=p at*;generalize keyOf (bM g)=q at*;cases hf with
 | one x m=>
  have F:=bS x;simp only[bM]at D;cases C with
  | one y g1=>
   have k:=bS y;simp only[bM]at j
   show(if x=y then _ else if aZ x<aZ y then(-1:Int)else 1)=_
   have d:x≠y:=λe=>a0 (by rw[e])
   have l:x.toNat≠y.toNat:=λe=>d (ac e)
   rw[if_neg d];exact dK (by omega)
  | two y c g1 n=>
   have k:=bS y;simp only[bM]at j
   show(if x=y then _ else if aZ x<aZ y then(-1:Int)else 1)=_
   rw[if_neg (λe=>by rw[e]at m;omega)];exact dK (by omega)
  | three y c h g1 n=>
   have k:=bS y;simp only[bM]at j
   show(if x=y then _ else if aZ x<aZ y then(-1:Int)else 1)=_
   rw[if_neg (λe=>by rw[e]at m;omega)];exact dK (by omega)
  | four y c h s g1 n=>
   have k:=bS y;simp only[bM]at j
   show(if x=y then _ else if aZ x<aZ y then(-1:Int)else 1)=_
   rw[if_neg (λe=>by rw[e]at m;omega)];exact dK (by omega)
 | two x i m w h3 h4=>
  have F:=bS x;have s1:=bS i;simp only[bM]at D;cases C with
  | one y g1=>
   have k:=bS y;simp only[bM]at j
   show(if x=y then _ else if aZ x<aZ y then(-1:Int)else 1)=_
   rw[if_neg (λe=>by rw[e]at m;omega)];exact dK (by omega)
  | two y c g1 n u v=>
   have k:=bS y;have s2:=bS c;simp only[bM]at j
   show(if x=y then(if i=c then _ else if aZ i<aZ c then(-1:Int)else 1)else if aZ x<aZ y then(-1:Int)else 1)=_
   by_cases o:x=y
   .subst o;have d:i≠c:=λe=>a0 (by rw[e])
    have l:i.toNat≠c.toNat:=λe=>d (ac e)
    rw[if_pos rfl,if_neg d];exact dK (by omega)
   .have z:x.toNat≠y.toNat:=λe=>o (ac e)
    rw[if_neg o];exact dK (by omega)
  | three y c h g1 n=>
   have k:=bS y;simp only[bM]at j
   show(if x=y then _ else if aZ x<aZ y then(-1:Int)else 1)=_
   rw[if_neg (λe=>by rw[e]at w;omega)];exact dK (by omega)
  | four y c h s g1 n=>
   have k:=bS y;simp only[bM]at j
   show(if x=y then _ else if aZ x<aZ y then(-1:Int)else 1)=_
   rw[if_neg (λe=>by rw[e]at w;omega)];exact dK (by omega)
 | three x i r m w h3 h4 h5 h6 h7 h8=>
  have F:=bS x;have s1:=bS i;have t1:=bS r;simp only[bM]at D;cases C with
  | one y g1=>
   have k:=bS y;simp only[bM]at j
   show(if x=y then _ else if aZ x<aZ y then(-1:Int)else 1)=_
   rw[if_neg (λe=>by rw[e]at m;omega)];exact dK (by omega)
  | two y c g1 n u v=>
   have k:=bS y;simp only[bM]at j
   show(if x=y then _ else if aZ x<aZ y then(-1:Int)else 1)=_
   rw[if_neg (λe=>by rw[e]at m;omega)];exact dK (by omega)
  | three y c h g1 n u v L N P Q=>
   have k:=bS y;have s2:=bS c;have t2:=bS h;simp only[bM]at j
   show(if x=y then(if i=c then(if r=h then _ else if aZ r<aZ h then(-1:Int)else 1)else if aZ i<aZ c then(-1:Int)else 1)else if aZ x<aZ y then(-1:Int)else 1)=_
   by_cases o:x=y
   .subst o;rw[if_pos rfl]
    by_cases t:i=c
    .subst t;have d:r≠h:=λe=>a0 (by rw[e])
     have l:r.toNat≠h.toNat:=λe=>d (ac e)
     rw[if_pos rfl,if_neg d];exact dK (by omega)
    .have l:i.toNat≠c.toNat:=λe=>t (ac e)
     rw[if_neg t];exact dK (by omega)
   .have z:x.toNat≠y.toNat:=λe=>o (ac e)
    rw[if_neg o];exact dK (by omega)
  | four y c h s g1 n u v L N P Q g9 R=>
   have k:=bS y;simp only[bM]at j
   show(if x=y then _ else if aZ x<aZ y then(-1:Int)else 1)=_
   rw[if_neg (λe=>by rw[e]at w;omega)];exact dK (by omega)
 | four x i r B m w h3 h4 h5 h6 h7 h8 h9 i1=>
  have F:=bS x;have s1:=bS i;have t1:=bS r;have u1:=bS B;simp only[bM]at D;cases C with
  | one y g1=>
   have k:=bS y;simp only[bM]at j
   show(if x=y then _ else if aZ x<aZ y then(-1:Int)else 1)=_
   rw[if_neg (λe=>by rw[e]at m;omega)];exact dK (by omega)
  | two y c g1 n u v=>
   have k:=bS y;simp only[bM]at j
   show(if x=y then _ else if aZ x<aZ y then(-1:Int)else 1)=_
   rw[if_neg (λe=>by rw[e]at m;omega)];exact dK (by omega)
  | three y c h g1 n u v L N P Q=>
   have k:=bS y;simp only[bM]at j
   show(if x=y then _ else if aZ x<aZ y then(-1:Int)else 1)=_
   rw[if_neg (λe=>by rw[e]at m;omega)];exact dK (by omega)
  | four y c h s g1 n u v L N P Q g9 R=>
   have k:=bS y;have s2:=bS c;have t2:=bS h;have u2:=bS s;simp only[bM]at j
   show(if x=y then(if i=c then(if r=h then(if B=s then _ else if aZ B<aZ s then(-1:Int)else 1)else if aZ r<aZ h then(-1:Int)else 1)else if aZ i<aZ c then(-1:Int)else 1)else if aZ x<aZ y then(-1:Int)else 1)=_
   by_cases o:x=y
   .subst o;rw[if_pos rfl]
    by_cases t:i=c
    .subst t;rw[if_pos rfl]
     by_cases T:r=h
     .subst T;have d:B≠s:=λe=>a0 (by rw[e])
      have l:B.toNat≠s.toNat:=λe=>d (ac e)
      rw[if_pos rfl,if_neg d];exact dK (by omega)
     .have l:r.toNat≠h.toNat:=λe=>T (ac e)
      rw[if_neg T];exact dK (by omega)
    .have l:i.toNat≠c.toNat:=λe=>t (ac e)
     rw[if_neg t];exact dK (by omega)
   .have z:x.toNat≠y.toNat:=λe=>o (ac e)
    rw[if_neg o];exact dK (by omega)
def sX:lB 32 9 1 16:=⟨bm,by decide,by
 have h:(Y.info? 9).map (λi=>(i.zero,i.size,i.bytes))=I (I (.string ⟨#[]⟩),1,16):=by kernel_rfl
 obtain⟨i,c,a,d,b⟩:=info_parts h;exact⟨i,_,c,a,d,b,rfl⟩⟩
def aBP(w:U)(keys:List (List UInt8))(e:Ending)(w':U):Prop:=
 ∃v,e=ah v/\Win 9 encS w' v keys/\(∀k,v.ownBlock=I k->w.heap.size<=k/\k<w'.heap.size)/\af w w w'
def aAi(w:U):ag Y 164 #[()] w λe w'=>aBP w [] e w':=by
 have f:∀(w:U)(a:Option ak)(n c b d:Nat),(binOp .eql 32 (O a n c) (O J b d)).run Y w=.ok (.bool a.isNone) w:=λw a n c b d=>cu w _ _ a n c b d bm
 go_enter bp,bu;go_wp2_with fail;exact bc (v:=O J 0 0) (by simp[bh,bw,go_sem]) rfl ⟨_,rfl,.nil _ _ _,λk h=>(by cases h),bj _ _⟩
def yL(w:U)(g off cap:Nat)(keys:List Oo)(q:keys.length<=1048576)(f:∀i x,(keys.map encS)[i]?=I x->w.cell? ⟨g,off+i,J⟩=I x):
 ag Y 164 #[O (g,off) keys.length cap] w λe w'=>aBP w keys e w':=by
 have h:af w w (w.alloc (W #[] 9)):=(bj _ _).alloc (Z _) _;have d:=bx w (W #[] 9);have l:aQ 1 9 (w.alloc (W #[] 9)) (O w 0 0) 0 []:=⟨by simp,S ⟨w.heap.size,0,0,#[],rfl,d,Z _,by simp,au _,λj u o=>by simp at o⟩⟩;have s:=A h;have p:=A l;have t:=A q;have m:=A (λv(C:v∈keys.map encS)=>show v.oneCell'=X by obtain⟨k,_,rfl⟩:=cv.1 C;rfl)
 have b:∀j u,(keys.map encS)[j]?=I u->(w.alloc (W #[] 9)).cell? ((⟨g,off,J⟩:ak).add j)=I u:=by
  intro j u o;have y:(⟨g,off,J⟩:ak).add j=⟨g,off+j,J⟩:=by unfold cw;split<;>simp_all
  rw[y];have r:=f j u o;exact(World.cell?_of_block (Below.heap_alloc _ _ _ (World.block_lt_of_cell? w _ r))).trans r
 have D:=A b;clear h d l q f b;have F:∀(w:U)(a:Option ak)(n c l q:Nat),(binOp .eql 32 (O a n c) (O J l q)).run Y w=.ok (.bool a.isNone) w:=λw a n c l q=>cu w _ _ a n c l q bm
 by_cases d:keys= []
 .subst d;go_enter bp,bu
  go_wp2_with (at_builtin;refine sD sX rfl _ _ rfl rfl p.o (I ⟨g,off,J⟩) cap rfl ?_)
  go_wp2_with fail;exact bc (v:=O w 0 0) (by simp[bh,bw,go_sem]) rfl ⟨_,rfl,bz (by simpa using p.o),λk f=>(by cases f;exact⟨Z _,by simp⟩),s.o⟩
 .obtain⟨n,h⟩:∃n,keys.length=n+1:=⟨keys.length-1,by have:=List.length_pos_iff.2 d;omega⟩;rw[h];have b:=A h;clear d h;go_enter bp,bu
  go_wp2_with (at_builtin;refine bC sX rfl _ _ rfl rfl p.o ⟨g,off,J⟩ (n+1) cap (keys.map encS) rfl ?_ D.o ?_ ?_ ?_ ?_ ?_)
  .rw[cg,b.o];omega
  .exact m.o
  .omega
  .have:=t.o;rw[b.o]at this;omega
  .have:=t.o;rw[b.o]at this;unfold ai;omega
  intro L d c w' y z h;have r:=A y;have N:=A z;have B:=A h;clear y z h;go_wp2_with fail;refine bc (v:=O (L,d) (n+1) c) (by simp[bh,bw,go_sem]) rfl ?_;refine⟨_,rfl,?_,?_,?_⟩
  .exact bz (n:=n+1) (by simpa using r.o)
  .intro k h;cases h;rcases N.o with f|f
   .cases f;exact⟨Z _,cj (by simp) B.o.size⟩
   .exact⟨aj (by simp) f.1,f.2⟩
  .exact((V (λ_=>False) s.o).trans B.o (λk f=>S (by cases f;exact Z _))).C6 (Z _) (λ_ f=>f.elim)
def qG(w:U)(j:K)(keys:List Oo)(f:keys.length<=1048576)(d:Win 9 encS w j keys):ag Y 164 #[j] w λe w'=>aBP w keys e w':=by
 rcases d with⟨rfl,rfl⟩|⟨g,off,cap,c,rfl,h,-,-,-,hi⟩
 .exact aAi w
 .refine yL w g off cap keys f (λi x a=>?_);rw[cz]at a;cases b:keys[i]? with
  | none=>rw[b]at a;cases a
  | some y=>
   rw[b]at a;cases a;rw[aA h];exact hi i y b
def aFf(w:U):ag Y 280 #[(),H G 0,H G 0,.func (.func 240) #[] #[]] w λe w'=>e=ah (ao #[])/\w'=w:=by
 go_enter func280,ntmps280;go_wp2_with fail
 go_loop [8] (λv=>v=H G 1) (λv=>0)
 case atStart=>rfl
 case round=>
  subst hrel;go_wp2
  go_end0
  exact⟨rfl,rfl⟩
def aLl(w:U)(l:Nat):ag Y 259 #[(),H G 0,H G 0,l,.func (.func 240) #[] #[]] w λe w'=>e=ah (ao #[])/\w'=w:=by
 go_enter func259,ntmps259;go_wp2_with fail
 go_loop [1,2] (λa b=>a=H G 0/\b=H G 0) (λ_ _=>0)
 case atStart=>exact⟨rfl,rfl⟩
 case round=>
  obtain⟨rfl,rfl⟩:=hrel;go_wp2_with fail;refine(aFf w).mono ?_;rintro e w1 ⟨rfl,rfl⟩;go_wp2_with fail;exact bc (v:=ao #[]) (by simp[bh,results259,go_sem]) rfl ⟨rfl,rfl⟩
def aJZ(w:U):ag Y 239 #[(),.func (.func 240) #[] #[]] w λe w'=>e=ah (ao #[])/\w'=w:=by
 have a:=A (Tryz.L7 0 w (by decide) (by decide));go_enter func239,ntmps239;go_wp2_with fail;refine(a.o).mono ?_;rintro e w1 ⟨rfl,rfl⟩;go_wp2_with fail;refine(aLl _ _).mono ?_;rintro e w2 ⟨rfl,rfl⟩;go_wp2
 go_end0
 exact⟨rfl,rfl⟩
def yM(h:UInt8):∀(m:Nat)(b l:Oo),(aC h).a=(h::b).length+(m+1)->aX (h::b) l=I []->
 cJ (aC h) (m+1) (h::b).length l=.ok ((h::b).length+(m+1))/\aX [] (l.drop (m+1))=I []/\m+1<=l.length
 | m,b,[],_,d=>by cases d
 | m,b,c::t,g,d=>by
  rw[cD]at d;have a:aO (h::b) c=if(aC h).B9 (h::b).length c then(if(h::b).length+1=(aC h).a then I []else I ((h::b)++ [c]))else J:=rfl
  rw[cJ]
  by_cases f:(aC h).B9 (h::b).length c=X
  .rw[if_pos f]at a⊢;cases m with
   | zero=>
    rw[if_pos (by omega)]at a;rw[a]at d;rw[cJ];exact⟨rfl,d,by simp⟩
   | succ m=>
    rw[if_neg (by omega)]at a;rw[a]at d;have e:=yM h m (b++ [c]) t (by simp at g⊢;omega) d;have i:(h::(b++ [c])).length=(h::b).length+1:=by simp
    rw[i]at e;refine⟨?_,e.2.1,by rw[dh];omega⟩;rw[e.1];congr 1;omega
  .rw[if_neg f]at a;rw[a]at d;cases d
def iN(d:aV (c::t)=X):∃n,eC (c::t)=.ok (n+1)/\aV (t.drop n)=X/\n<=t.length:=by
 have b:aX [] (c::t)=I []:=by
  unfold aV at d;exact eq_of_beq d
 rw[cD]at b;unfold eC;simp only;have a:aO [] c=if(aC c).a=0 then J else if 1<(aC c).a then I [c]else I []:=rfl
 by_cases f:(aC c).a=0
 .rw[if_pos f]at a;rw[a]at b;cases b
 .rw[if_neg f]at a⊢
  by_cases e:1<(aC c).a
  .rw[if_pos e]at a;rw[a]at b;obtain⟨m,g⟩:∃m,(aC c).a=1+(m+1):=⟨(aC c).a-2,by omega⟩;obtain⟨g1,h,i⟩:=yM c m [] t g b;refine⟨m+1,?_,?_,i⟩
   .rw[show(aC c).a-1=m+1 by omega];have g1:cJ (aC c) (m+1) 1 t=.ok (1+(m+1)):=g1;rw[g1,Nat.add_comm 1]
   .unfold aV;rw[h];rfl
  .rw[if_neg e]at a;rw[a]at b;refine⟨0,?_,?_,au _⟩
   .rw[show(aC c).a-1=0 by omega,cJ]
   .unfold aV;have b:aX [] t=I []:=b;rw[List.drop_zero,b];rfl
def gI(l:List UInt8):List Nat:=match l with
 | []=> []
 | c::t=>match eC (c::t)with
  | .ok n=>dG (bM ((c::t).take n))++gI (t.drop (n-1))
  | _=> []
termination_by l.length
decreasing_by simp_wf;omega
def lS:gI []= []:=by rw[gI]
def iX(h:eC (c::t)=.ok (n+1)):gI (c::t)=dG (bM ((c::t).take (n+1)))++gI (t.drop n):=by
 rw[gI,h];rfl
def aDp(n:Nat):∃x u,dG n=x::u:=by unfold dG;split<;>exact⟨_,_,rfl⟩
def aA0:∀(N:Nat)(a b:Oo),a.length<=N->aV a=X->aV b=X->cmpL (gI a) (gI b)=eE a b
 | _,[],[],_,_,_=>by rw[lS];rfl
 | _,[],y::b,_,_,k=>by
  obtain⟨m,d,_,_⟩:=iN k;obtain⟨x,u,l⟩:=aDp (bM ((y::b).take (m+1)));rw[lS,iX d,l];rfl
 | _,x::a,[],_,o,_=>by
  obtain⟨m,d,_,_⟩:=iN o;obtain⟨z,u,l⟩:=aDp (bM ((x::a).take (m+1)));rw[lS,iX d,l];rfl
 | 0,_::_,_::_,h,_,_=>by simp at h
 | N+1,x::a,y::b,v,o,k=>by
  obtain⟨n,d,q,w⟩:=iN o;obtain⟨m,g1,r,-⟩:=iN k;have j:=(mZ d).1;have i:=(mZ g1).1;rw[iX d,iX g1];have t:x::a=(x::a).take (n+1)++a.drop n:=(ck (n+1) (x::a)).symm;have s:y::b=(y::b).take (m+1)++b.drop m:=(ck (m+1) (y::b)).symm;rw[show eE (x::a) (y::b)=eE ((x::a).take (n+1)++a.drop n) ((y::b).take (m+1)++b.drop m) by rw[<-t,<-s]];generalize (x::a).take (n+1)=f at*;generalize (y::b).take (m+1)=g at*
  by_cases c:f=g
  .subst c;rw[aAP,aAO];exact aA0 N _ _ (by simp only[dh]at v;rw[av];omega) q r
  .rw[aEY j i c]
   by_cases p:bM f=bM g
   .exfalso;have c1:=aEY j i c [] [];have c2:=aEY i j (λe=>c e.symm) [] [];rw[p,if_neg (Nat.lt_irrefl _)]at c1 c2;have:=kR (f++ []) (g++ []);omega
   .exact aHu (aBD j) (aBD i) p _ _
def aCa(w:U)(m:Nat)(keys:List (List UInt8))(i:Nat)(wr:U):Prop:=
 af w w wr/\w.heap.size<=m/\iD wr m (keys.take i).reverse
def aGX:∀(l:List Oo)(a:Nat),a<=l.foldl (λa k=>a+k.length) a
 | [],_=>Z _
 | x::l,a=>aj (Nat.le_add_right a x.length) (aGX l (a+x.length))
def aBb{l:List Oo}(h:l.Nodup):l.reverse.Nodup:=List.pairwise_reverse.2 (h.imp λh e=>h e.symm)
def aFN(k:Oo)(w:U)(a:k.length<=1073741824):ag Y 218 #[.string ⟨k.toArray⟩] w λe w'=>e=ah (.bool (aV k))/\af w w w':=by
 have h:=right_any ⟨k.toArray⟩ w (by show k.toArray.size<=_;simpa using a)
 simpa using h
def aFO{l:List Oo}{i:Nat}:bD (l.take i)<=bD l:=by
 conv=>rhs;rw[<-ck i l]
 unfold bD;rw[List.foldl_append];exact aGX _ _
def aGY(c:U)(p d a b n:Nat)(z:Sz)(e:List K)(j:Nat)(wr:U):Prop:=
 Keeps (λk=>k=p) c wr/\∃f,wr.heap[p]?=I (W #[z.g,z.bytes,z.h,O (d,a) n b,f] 189 (0,0))/\Win 97 id wr f (e.take j)/\∀q,f.ownBlock=I q->c.heap.size<=q
def aLE(w:U)(b:Nat)(f:K)(a:List K)(keys:List (List UInt8))(z:Sz)(w':U):Prop:=
 ∃(c:U)(p:Nat)(d e:K),af w w c/\w.heap.size<=p/\c.heap[p]?=I (W #[z.g,z.bytes,z.h,d,e] 189 (0,0))/\
  Win 9 encS c d (dC keys)/\(∀q,d.ownBlock=I q->w.heap.size<=q)/\
  Win 97 id c e ((dC keys).map λk=>(a.drop (a.length-keys.length)).getD (keys.idxOf k) di)/\(∀q,e.ownBlock=I q->w.heap.size<=q)/\
  jX c b f a (a.length-keys.length) 187 (co p) w'
def tI(w:U)(b:Nat)(d:K)(c:List K)(a:List Tr)(keys:List (List UInt8))(e:Ending)(w':U):Prop:=
 (∃no:Nat,e=.panicked [{v:=E 29 (H G no),recovered:=false}]/\po a keys=a/\af w w w')\/
  (e=ah (ao #[])/\keys.length<=c.length/\po a keys=a.take (c.length-keys.length)++ [dj (dC keys) (besides keys (a.drop (c.length-keys.length)))]/\
   aLE w b d c keys (dj (dC keys) (besides keys (a.drop (c.length-keys.length)))).A5 w')
def Win.L5{q:Type}{e:Nat}{enc:q->K}{w:U}{g off cap:Nat}{l:List q}(h:Win e enc w (O (g,off) n cap) l){i:Nat}{x:q}(j:l[i]?=I x):w.cell? ⟨g,off+i,J⟩=I (enc x):=by
 rcases h with⟨a,_⟩|⟨k,b,c,f,a,d,p,m,o,hi⟩
 .cases a
 .cases a;rw[aA d];exact hi i x j
def vO(b j:Nat):(⟨b,0,J⟩:ak).add j=⟨b,j,J⟩:=by unfold cw;split<;>simp_all
def vP(w:U):(Instr.makeMap 263 J).run Y w=.ok (.map (I w.heap.size)) (w.alloc (.map #[] 0)):=by kernel_rfl
def aDP(w:U)(F:Nat->Prop)(b g off cap:Nat)(a2:K)(a:List K)(d:List Tr)(keys:List Oo)(a0:w.heap[b]?=I (W #[a2] 195 (0,0)))(L:Win 97 id w a2 a)(ht:eF F w a d)(o:∀t∈d,t.A5.A9=X)(hl:d.length<=65536)
 (h:Win 9 encS w (O (g,off) keys.length cap) keys)(f:bK keys)(B:keys.Nodup)(m7:bD keys<=2097152)(o8:keys.length<=4194304)(m8:keys≠ []):
 ag Y 222 #[co b,O (g,off) keys.length cap] w λe w'=>tI w b a2 a d keys e w':=by
 have g5:∀i k,keys[i]?=I k->w.cell? ⟨g,off+i,J⟩=I (encS k):=by
  rcases h with⟨D,_⟩|⟨g',h7,h8,N,D,P,Q,R,C,hi⟩
  .cases D
  .cases D;exact λi k r=>by rw[aA P];exact hi i k r
 have h9:g<w.heap.size:=h.lt rfl;have k0:=A g5;have m9:=A h;have HR:=A (λk(r:k∈keys)(w:U)=>aFN k w (by have:=(f k r).2;omega));have g6:=A f;have h0:=A B;have a3:=A a0;have HW:=A L;have HT:=A ht;have k1:=A o;clear g5 a0 L ht o f B h;go_enter func222,ntmps222;go_wp2
 go_loopw [18] (λv wr=>∃i:Nat,v=H G i/\i<=keys.length/\M (af w w wr)) (λv _=>keys.length-(ar v).toNat)
 case atStart=>exact⟨0,rfl,au _,A (bj _ _)⟩
 case round=>
  obtain⟨i,rfl,g1,HB⟩:=hrel
  by_cases hi:i<keys.length
  .obtain⟨k,r⟩:∃k,keys[i]?=I k:=⟨_,aw hi⟩;have h:=(HB.o.cell (p:=⟨g,off+i,J⟩) h9).trans (k0.o i k r);have o:=A (HR.o k (ba r));have f:aV k=X:=(g6.o k (ba r)).1;simp only[f]at o;unfold encS at h;obtain⟨s,hs⟩:∃s:ByteArray,(⟨k.toArray⟩:ByteArray)=s:=⟨_,rfl⟩;rw[hs]at o h;clear r f hs;go_wp2_with fail;refine(o.o _).mono ?_;rintro e w1 ⟨rfl,f⟩;have B:=A (chain HB.o f);clear f;go_wp2_with fail;refine(dT _ 100).mono ?_;rintro e w2 ⟨rfl,rfl⟩;go_wp2_with fail;exact⟨⟨i+1,by go_num,by omega,B⟩,by simp[ar];omega⟩
  .have i5:i=keys.length:=by omega
   subst i5;obtain⟨m,C⟩:∃m,wr.heap.size=m:=⟨_,rfl⟩;have k2:M (aCa w m keys 0 (wr.alloc (.map #[] 0))):=A ⟨HB.o.alloc HB.o.size _,by rw[<-C];exact HB.o.size,by rw[<-C];exact iD.N0 wr⟩;have k3:=vP wr;rw[C]at k3;obtain⟨w0,f⟩:∃w0,wr.alloc (.map #[] 0)=w0:=⟨_,rfl⟩;rw[f]at k3 k2;clear f C;go_wp2
   go_loopw [7,29] (λy v wr=>∃i:Nat,v=H G i/\y=H G (bD (keys.take i))/\i<=keys.length/\M (aCa w m keys i wr)) (λ_ v _=>keys.length-(ar v).toNat)
   case atStart=>exact⟨0,rfl,rfl,au _,k2⟩
   case round=>
    obtain⟨i,rfl,rfl,g1,HM⟩:=hrel
    by_cases hi:i<keys.length
    .obtain⟨k,r⟩:∃k,keys[i]?=I k:=⟨_,aw hi⟩;have h:=(HM.o.1.cell (p:=⟨g,off+i,J⟩) h9).trans (k0.o i k r);have D:k.length<=ai:=by have:=(g6.o k (ba r)).2;unfold ai;omega
     have g3:(keys.take (i+1)).reverse=k::(keys.take i).reverse:=by rw[dl,r];simp
     have Q:decide (k∈(keys.take i).reverse)=false:=by
      have:=h0.o.sublist (List.take_sublist (i+1) keys);have f:=aBb this;rw[g3]at f;exact decide_eq_false (List.nodup_cons.1 f).1
     have o:(keys.take i).reverse.length=i:=by simp;omega
     obtain⟨c,N⟩:=HM.o.2.2.N8 D;obtain⟨w1,P,C,L⟩:=HM.o.2.2.C9 (by rw[o];omega) D;rw[Q]at N;rw[o]at P;rw[<-g3]at C;have T:M (aCa w m keys (i+1) w1):=A ⟨((V (λ_=>False) HM.o.1).trans (mW L) (λq e=>S (e▸HM.o.2.1))).C6 (Z _) (λ_ a0=>a0.elim),HM.o.2.1,C⟩;have f:=aBB r;have i6:bD (keys.take (i+1))<=2097152:=aj aFO m7;have B:(⟨k.toArray⟩:ByteArray).size=k.length:=by show k.toArray.size=_;simp
     unfold encS at h N P;obtain⟨s,hs⟩:∃s:ByteArray,(⟨k.toArray⟩:ByteArray)=s:=⟨_,rfl⟩;obtain⟨y,hy⟩:∃y,bD (keys.take i)=y:=⟨_,rfl⟩;rw[hs]at N h P B;rw[<-B,hy]at f;rw[f]at i6;have R:=A f;rw[hy];clear r hs Q o C L g3 hy D f B;go_wp2_with fail;refine(dT _ 101).mono ?_;rintro e w2 ⟨rfl,rfl⟩;go_wp2_with fail;exact⟨⟨i+1,by go_num,by rw[R.o];go_num,by omega,T⟩,by simp[ar];omega⟩
    .have i5:i=keys.length:=by omega
     subst i5;have f:=HM.o.2.2;rw[List.take_length]at f⊢;have n0:=A f;clear f;have h:=HW.o.A2 (V (λ_=>False) HM.o.1) (λ_ _=>id);have o:=(V (λ_=>False) HM.o.1).B7 a3.o id
     by_cases f:a.length<keys.length
     .have L:=A (aCO wr b keys.length a2 a o h f);have C:=A f;clear h o f;go_wp2_with fail;refine(L.o).mono ?_;rintro e w1 ⟨rfl,rfl⟩;go_wp2_with fail;exact⟨rfl,ae ⟨102,rfl,by unfold po;rw[if_pos (by have:=C.o;have:=HT.o.1;omega)],HM.o.1⟩⟩
     .have L:=HT.o.1;have n1:=A (wK wr b keys.length a2 a o h (by omega) HT.o.F5 (by omega));have C:(a.drop (a.length-keys.length)).length=keys.length:=by rw[av];omega
      have i7:=A C;have g7:=A (show keys.length<=a.length by omega);have o6:keys.length<=65536:=by omega
      clear h o C L f;go_wp2_with fail;refine(n1.o).mono ?_;rintro e w3 ⟨T,rfl,f,N,h⟩;obtain⟨ta,tc,k4⟩:=f.A7;rw[i7.o]at k4;have k5:=A (chain HM.o.1 h);have n2:=A f;have k6:=A (λq(e:T.ownBlock=I q)=>(⟨aj HM.o.1.size (N q e).1,(N q e).2⟩:w.heap.size<=q/\q<w3.heap.size));have n3:=A (n0.o.A2 (V (λ_=>False) h) id);have HS:=A (mT F w3 T (a.drop (a.length-keys.length)) (d.drop (a.length-keys.length)) (bD keys) f ((HT.o.A2 (V (λ_=>False) k5.o) (λ_ _=>id)).G0 _) (λt m=>k1.o t (cr m)) (by rw[av];omega) (by omega));subst k4;clear f N h;go_wp2_with fail;refine(HS.o).mono ?_;rintro e w4 ⟨rfl,f⟩;have h:∀z:Sz,szV z=.agg #[z.g,z.bytes,z.h]:=λ_=>rfl
      obtain⟨z,hz⟩:∃z:Sz,fY (bD keys) ((d.drop (a.length-keys.length)).map dm)=z:=⟨_,rfl⟩;have HZ:=A hz;rw[hz,h];have i8:=A (chain k5.o f);have n4:=A (n2.o.A2 (V (λ_=>False) f) (λ_ _=>id));have k7:=A (n3.o.A2 (V (λ_=>False) f) id);have n5:=A (qG w4 (O (g,off) keys.length cap) keys (by omega) (m9.o.A2 (V (λ_=>False) i8.o) (λ_ _=>id)));have g8:=A (λq e=>(⟨(k6.o q e).1,cj (k6.o q e).2 f.size⟩:w.heap.size<=q/\q<w4.heap.size));clear f hz h;go_wp2_with fail;refine(n5.o).mono ?_;rintro e w5 ⟨n6,rfl,C,P,o⟩;rcases C with⟨_,k8⟩|⟨Q,f,h,k9,rfl,R,L,g4,g9,N⟩
      .exact absurd k8 m8
      have C:Win 9 encS w5 (O (Q,f) keys.length h) keys:=S ⟨Q,f,h,k9,rfl,R,L,g4,g9,N⟩;have n7:=A C;have i9:=A (P Q rfl);have j0:=A (chain i8.o o);have l0:=A (n4.o.A2 (V (λ_=>False) o) (λ_ _=>id));have n8:=A (k7.o.A2 (V (λ_=>False) o) id);have l1:=A (λq e=>(⟨(g8.o q e).1,cj (g8.o q e).2 o.size⟩:w.heap.size<=q/\q<w5.heap.size));clear C P o R L g4 g9 N;obtain⟨p,hp⟩:∃p,w5.heap.size=p:=⟨_,rfl⟩;obtain⟨w6,j1⟩:∃w6,w5.alloc (W #[z.g,z.bytes,z.h,O (Q,f) keys.length h,()] 189)=w6:=⟨_,rfl⟩;have C:af w5 w5 w6:=by rw[<-j1];exact(bj _ _).alloc (Z _) _
      have L:w6.heap[p]?=I (W #[z.g,z.bytes,z.h,O (Q,f) keys.length h,()] 189 (0,0)):=by rw[<-j1,<-hp];exact bx w5 _
      have P:w6.heap.size=p+1:=by rw[<-j1,<-hp];simp
      have o:=aJn w6 Q f h (qA keys g6.o) (by rw[mU,aAM];exact n7.o.A2 (V (λ_=>False) C) (λ_ _=>id)) (by rw[mU];omega);rw[mU,<-oD g6.o]at o;have j2:=A o;have n9:=A L;have h3:=A C;have j3:=A hp;have h5:w6.cell? ⟨p,3,J⟩=I (O (Q,f) keys.length h):=by rw[aA L];rfl
      clear o L C P;go_wp2_with fail;refine(j2.o).mono ?_;rintro e w7 ⟨rfl,P,C⟩;have L:p≠Q:=λe=>by have:=P.lt rfl;have h1:=i9.o.2;omega
      have g9:=C.B7 n9.o L;have h6:w7.cell? ⟨p,3,J⟩=I (O (Q,f) keys.length h):=by rw[aA g9];rfl
      have j4:=A g9;have h4:=A P;have o:=A C;obtain⟨vs,R⟩:∃vs,(dC keys).map (λk=>(a.drop (a.length-keys.length)).getD (keys.idxOf k) di)=vs:=⟨_,rfl⟩;have j5:=A R;have g4:M (aGY w7 p Q f h keys.length z vs 0 w7):=A ⟨bk _ _,_,g9,.nil _ _ _,λq e=>by cases e⟩;clear L g9 P C R;go_wp2
      go_loopw [72] (λv wr=>∃j:Nat,v=H G j/\j<=keys.length/\M (aGY w7 p Q f h keys.length z vs j wr)) (λv _=>keys.length-(ar v).toNat)
      case atStart=>exact⟨0,rfl,au _,g4⟩
      case round=>
       obtain⟨j,rfl,o9,HJ⟩:=hrel;clear g4 h6 h5
       by_cases hj:j<keys.length
       .obtain⟨C,IV,L,P,R⟩:=HJ.o;have i6:(dC keys).length=keys.length:=(fL keys).length_eq;obtain⟨k,r⟩:∃k,(dC keys)[j]?=I k:=⟨_,aw (by omega)⟩;have D:k∈keys:=(fL keys).mem_iff.1 (ba r);obtain⟨i,g1⟩:=List.mem_iff_getElem?.1 D;have h5:i<keys.length:=(dp.1 g1).1;obtain⟨x,hx⟩:∃x,(a.drop (a.length-keys.length))[i]?=I x:=⟨_,aw (by rw[i7.o];exact h5)⟩
        obtain⟨a1,y,rfl⟩:∃a1 y,x=E a1 y:=by
         have hd:=HT.o.G0 (a.length-keys.length);have N:i<(d.drop (a.length-keys.length)).length:=by have:=hd.1;have:=i7.o;omega
         exact(hd.2 i x _ hx (aw N)).K5
        have j6:vs[j]?=I (E a1 y):=by
         rw[<-j5.o,cz,r];simp only[Option.map_some];rw[aEQ h0.o g1,List.getD_eq_getElem?_getD,hx];rfl
        have i0:=HT.o.F5 _ (cr (ba hx))
        have g4:Win 9 encS wr (O (Q,f) keys.length h) (dC keys):=h4.o.A2 C (λq e hq=>by
         cases e;exact h4.o.ne j4.o (by decide) (congrArg I hq))
        have g5:=g4.L5 r;have l2:=k7.o.lt;have j7:=i9.o;have l3:=(n8.o.A2 (V (λ_=>False) h3.o) id).A2 o.o (show ¬m=Q by omega);have l4:=l3.A2 C (show ¬m=p by have:=j3.o;omega);have i1:k.length<=ai:=by have:=(g6.o k D).2;unfold ai;omega
        have i2:=iD.P5 (w:=wr.drew) (dt l4) (aBb h0.o) i1 (i:=i) (by rw[List.reverse_reverse];exact g1);rcases l0.o with⟨p0,o0⟩|⟨gi,oi,ci,o7,l5,_⟩
        .rw[o0]at hx;cases hx
        simp only[du]at l5;obtain⟨rfl,-,rfl⟩:=l5;have l6:=((l0.o.A2 (V (λ_=>False) h3.o) (λ_ _=>id)).A2 o.o (λq e hq=>by have:=(g8.o q e).2;omega)).A2 C (λq e hq=>by have:=(l1.o q e).2;have:=j3.o;omega);have p1:=l6.L5 hx;obtain⟨ia,ic,l7⟩:=P.A7;have j8:(vs.take j).length=j:=by rw[List.length_take];have:=(dp.1 j6).1;omega
        rw[j8]at l7;have h6:Keeps (λ_=>False) wr (wr.drew.alloc (W #[E a1 y] 97)):=((bk _ wr).B0).A6 _;have j9:=(P.A2 h6 (λ_ _=>id)).M7;rw[dq,j8]at j9
        have i3:∀j u,([E a1 y]:List K)[j]?=I u->(wr.drew.alloc (W #[E a1 y] 97)).cell? ((⟨wr.heap.size,0,J⟩:ak).add j)=I u:=by
         intro j u hj;have hp:=vO wr.heap.size j;rw[hp]
         show(wr.drew.alloc _).cell? ⟨wr.drew.heap.size,j,J⟩=_
         rw[aA (bx wr.drew _)]
         simpa using hj
        have l8:∀u∈([E a1 y]:List K),u.oneCell'=X:=λu hu=>by simp at hu;subst hu;exact i0
        have m0:(j+1)*16<=140737488355328:=by omega
        have m1:j+1<=ai:=by unfold ai;omega
        subst l7;obtain⟨-,-,-,-,c4,-⟩:=cells5 L;have p2:(wr.alloc (W #[E a1 y] 97)).cell? ⟨p,4,J⟩=I (O ia j ic):=((bk (λ_=>False) wr).A6 _).B3 c4 id;have g3:vs.take (j+1)=vs.take j++ [E a1 y]:=by rw[dl,j6];rfl
        have g9:=lt_of_block j4.o;have m2:=A g3;have o1:=A j9;have m3:=A i3;have o2:=A l8;have o3:=A m0;have o4:=A m1;have m4:=A h6;have m5:=A C;have i4:=A R;have o5:=A (h6.B7 L id);have m6:=A (show(O ia j ic).ownBlock≠I p from λe=>by have:=R p e;omega);unfold encS at g5 i2;obtain⟨s,hs⟩:∃s:ByteArray,(⟨k.toArray⟩:ByteArray)=s:=⟨_,rfl⟩;rw[hs]at g5 i2;clear hs g3 j9 i3 l8 m0 m1 h6 C R L P l6 i1 l4 l3 l2 j7 g4 j6 r D hx j8 i0 i6 g1;go_wp2
        go_region_law (refine bP l9 rfl _ _ rfl rfl o1.o wr 1 1 [E a1 y] rfl rfl m3.o o2.o (by decide) o3.o o4.o ?_;intro g' h7 h8 w' g3 i0 D;have D:Keeps (λq=>(O ia j ic).ownBlock=I q) (wr.drew.alloc (W #[E a1 y] 97)) w':=D;have g1:=D.B7 o5.o m6.o;have j6:=(cells5 g1).2.2.2.2.1;have j7:=free_at g1)
        all_goals
         have i1:=A g1;have h6:=A g3;have i3:=A i0;have i6:=A D;clear g1 g3 i0 D;go_wp2_with fail;have g1:Keeps (λk=>k=p) w' (w'.setCell ⟨p,4,J⟩ (O (g',h7) (j+1) h8)):=(bk (λk=>k=p) w').A3 (p:=⟨p,4,J⟩) (ae rfl) _;have g3:=h6.o.ne i1.o (by decide);refine⟨⟨j+1,by go_num,by omega,A ⟨?_,_,aB i1.o _,?_,?_⟩⟩,by simp[ar];omega⟩
         .exact((m5.o.trans m4.o (λ_ a0=>a0.elim)).trans i6.o (λq e=>S (i4.o q e))).same g1
         .rw[m2.o];refine bz (n:=j+1) ?_;rw[dq];exact h6.o.A2 g1 (λk e r=>g3 (e.trans (congrArg I r)))
         .intro q e;cases e;rcases i3.o with a0|a0
          .exact i4.o _ a0
          .exact aj m5.o.size (aj m4.o.size a0.1)
       .have i2:j=keys.length:=by omega
        subst i2;obtain⟨C,IV,L,P,R⟩:=HJ.o;have i0:w.heap.size<=p:=by have:=j0.o.size;have:=j3.o;omega
        have i1:w.heap.size<=Q:=aj i8.o.size i9.o.1;have D:Keeps (λ_=>False) w wr:=(((V (λ_=>False) j0.o).trans (V (λ_=>False) h3.o) (λ_ a0=>ae a0)).trans o.o (λq e=>S (e▸i1))).trans C (λq e=>S (e▸i0));have h7:vs.take keys.length=vs:=List.take_of_length_le (by rw[<-j5.o,cg,(fL keys).length_eq];exact Z _);rw[h7]at P;have B:=mV (keys:=keys) (l:=d.drop (a.length-keys.length)) h0.o (by rw[av];have:=HT.o.1;have:=g7.o;omega);rw[HZ.o]at B;have h5:=HT.o.1
        have g4:Win 9 encS wr (O (Q,f) keys.length h) (dC keys):=h4.o.A2 C (λq e hq=>by
         cases e;exact h4.o.ne j4.o (by decide) (congrArg I hq))
        by_cases g3:z.A9=X
        .have HG:=A (lO wr b keys.length p z.g z.bytes z.h _ _ a2 a L rfl rfl rfl g3 (D.B7 a3.o id) (HW.o.A2 D (λ_ _=>id)) (by omega) g7.o)
         have g1:∀w',jX wr b a2 a (a.length-keys.length) 187 (co (I ⟨p,0,J⟩)) w'->tI w b a2 a d keys (ah (ao #[])) w':=λw' h6=>S ⟨rfl,g7.o,by
          unfold po fZ;rw[if_neg (by have:=g7.o;omega),<-h5,B,if_pos g3],by
          rw[B];exact⟨wr,p,_,IV,D.C6 (Z _) (λ_ a0=>a0.elim),i0,L,g4,λq e=>by cases e;exact i1,by rw[j5.o];exact P,λq e=>by have:=R q e;have:=o.o.size;have:=h3.o.size;have:=j0.o.size;omega,h6⟩⟩
         have h8:=A g1;clear g1 C L P R D h7 B g4;go_wp2_with fail;refine(HG.o).mono ?_;rintro e w8 ⟨rfl,h6⟩;have g1:=A h6;clear h6;go_wp2
         go_end0
         exact h8.o _ g1.o
        .have g1:=uY (bytes:=bD keys) (l:=(d.drop (a.length-keys.length)).map dm) (by intro z hz;obtain⟨t,ht,rfl⟩:=cv.1 hz;exact k1.o t (cr ht)) (by rw[cg,av];omega) (by omega);rw[HZ.o]at g1;have HG:=A (sE wr b keys.length p z.g z.bytes z.h _ _ L rfl rfl rfl (by simpa using g3) g1.1 g1.2.1 g1.2.2)
         have h6:po d keys=d:=by
          unfold po fZ;rw[if_neg (by have:=g7.o;omega),<-h5,B,if_neg g3]
         have i3:=A h6;have h8:=A (D.C6 (Z _) (λ_ a0=>a0.elim));clear C L P R D h7 B g4 h6 g1;go_wp2_with fail;refine(HG.o).mono ?_;rintro e w8 ⟨rfl,B⟩;have C:=A (chain h8.o B);clear B;go_wp2_with fail;exact⟨rfl,ae ⟨3,rfl,i3.o,C.o⟩⟩
