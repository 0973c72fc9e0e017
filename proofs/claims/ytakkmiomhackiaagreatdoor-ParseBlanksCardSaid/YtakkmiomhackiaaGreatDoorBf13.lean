/-
  The program, one part of its walk. Conditions: none.
-/
import Derived.Test.YtakkmiomhackiaaGreatDoorBf06
import Derived.Test.YtakkmiomhackiaaGreatDoorBf07
set_option linter.all false
set_option maxRecDepth 100000
set_option maxHeartbeats 16000000
open Go.Proofs.Tryz
open Bool renaming false->N,true->I
open Go renaming World->X,bodyPost_ret->ac,results->ae
open Go.Ending renaming returned->aj
open Go.IntKind renaming i64->S,wrap_i64->E
open Go.Proofs.Tryz renaming results90->af
open Go.Proofs.YtakkmiomhackiaaGreatDoor.Lx renaming B4->Y,C0->ak,E2->Z
open Go.Proofs.YtakkmiomhackiaaGreatDoor.St renaming outside->ah,within->ai
open Go.Value renaming bool->G,int->V,tuple->H
open List renaming drop_drop->ag,headD_cons->ao,length_append->au,length_cons->ar,length_drop->aw,takeWhile_sublist->av
open Nat renaming add_assoc->K
open Option renaming some->U
open Or renaming inl->O,inr->J
open UInt8.toNat renaming inj->ba
namespace Go.Proofs.YtakkmiomhackiaaGreatDoor
open Go.RowKit
variable {c:UInt8}
def vC{s a:Nat}(h:aR s c=U a):a<=8:=by
 unfold aR at h
 repeat' (first|(split at h)|(cases h;decide)|cases h)
def aJR(a n c:Nat):Prop:=
 c<16^n/\n<=3/\(a=0->(n=2->¬(220<=c/\c<=223))/\(n=3->¬(220<=c/16/\c/16<=223)))/\
  (a≠0->(n=1->c=13)/\(n=2->220<=c/\c<=223)/\(n=3->220<=c/16/\c/16<=223))
structure Lx.Fine(x:Lx):Prop where
 c:x.c<=16777216
 a:x.a<=x.c
 number:x.number<=8
 e:x.e=decide (x.j≠ah)
 letter:x.j=.letter->x.number=0/\x.g≠ []/\x.g.length<(aH (x.g.headD 0)).length
 numeral:x.j=.numeral->x.g.length<=x.c
 text:dJ x.j=I->x.number=0/\x.f.length<=x.c/\aX [] x.f=U x.d
 d:dJ x.j=I->x.j≠ai->x.d= []
 low:x.j=ai\/x.j=.escape->x.h=0
 slash:x.j=.slash\/x.j=.letterU->55296<=x.h/\x.h<=56319
 b:x.j=.digit->x.f.length+x.b<=x.c/\aJR x.h x.b x.code/\(x.h=0\/(55296<=x.h/\x.h<=56319))
def qE:Tok->Prop
 | .str _ _ t=>aV t=I/\t.length<=16777216
 | .num _ _ b=>gO b
 | .mark _ s=>aY s=I
 | .term _ _ n=>n= [110,117,108,108]\/n= [116,114,117,101]\/n= [102,97,108,115,101]
def gH{x:Lx}(a:x.j=ah)(b:x.e=N)(c:x.c<=16777216)(d:x.a<=x.c)(e:x.number<=8):x.Fine:=by
 refine⟨c,d,e,by rw[b,a];rfl,?_,?_,?_,?_,?_,?_,?_⟩<;>rw[a]
 .intro h;cases h
 .intro h;cases h
 .intro h;cases h
 .intro h;cases h
 .rintro(h|h)<;>cases h
 .rintro(h|h)<;>cases h
 .intro h;cases h
def aJS:Lx.G5.Fine:=gH rfl rfl (by decide) (by decide) (by decide)
def sO{x:Lx}(a:x.j=.numeral)(b:x.e=I)(c:x.c<=16777216)(e:x.a<=x.c)(f:x.number<=8)(d:x.g.length<=x.c):x.Fine:=by
 refine⟨c,e,f,by rw[b,a];rfl,?_,λ_=>d,?_,?_,?_,?_,?_⟩<;>rw[a]
 .intro h;cases h
 .intro h;cases h
 .intro h;cases h
 .rintro(h|h)<;>cases h
 .rintro(h|h)<;>cases h
 .intro h;cases h
def vD{x:Lx}(a:x.j=.letter)(b:x.e=I)(c:x.c<=16777216)(f:x.a<=x.c)(g:x.number=0)(e:x.g≠ [])(d:x.g.length<(aH (x.g.headD 0)).length):x.Fine:=by
 refine⟨c,f,by omega,by rw[b,a];rfl,λ_=>⟨g,e,d⟩,?_,?_,?_,?_,?_,?_⟩<;>rw[a]
 .intro h;cases h
 .intro h;cases h
 .intro h;cases h
 .rintro(h|h)<;>cases h
 .rintro(h|h)<;>cases h
 .intro h;cases h
def j5{x:Lx}(a:x.j=ai)(b:x.e=I)(c:x.c<=16777216)(f:x.a<=x.c)(i:x.number=0)(d:x.f.length<=x.c)(e:x.h=0)(g:aX [] x.f=U x.d):x.Fine:=by
 refine⟨c,f,by omega,by rw[b,a];rfl,?_,?_,λ_=>⟨i,d,g⟩,?_,λ_=>e,?_,?_⟩<;>rw[a]
 .intro h;cases h
 .intro h;cases h
 .intro _ h;exact absurd rfl h
 .rintro(h|h)<;>cases h
 .intro h;cases h
def aC7{x:Lx}(a:x.j=.escape)(b:x.e=I)(c:x.c<=16777216)(g:x.a<=x.c)(j:x.number=0)(e:x.f.length<=x.c)(f:x.h=0)(i:aX [] x.f=U x.d)(d:x.d= []):x.Fine:=by
 refine⟨c,g,by omega,by rw[b,a];rfl,?_,?_,λ_=>⟨j,e,i⟩,λ_ _=>d,λ_=>f,?_,?_⟩<;>rw[a]
 .intro h;cases h
 .intro h;cases h
 .rintro(h|h)<;>cases h
 .intro h;cases h
def xY{x:Lx}(a:x.j=.slash\/x.j=.letterU)(b:x.e=I)(c:x.c<=16777216)(g:x.a<=x.c)(j:x.number=0)(e:x.f.length<=x.c)(f:55296<=x.h/\x.h<=56319)(i:aX [] x.f=U x.d)(d:x.d= []):x.Fine:=by
 refine⟨c,g,by omega,by rcases a with h|h<;>rw[b,h]<;>rfl,?_,?_,λ_=>⟨j,e,i⟩,λ_ _=>d,?_,λ_=>f,?_⟩<;>rcases a with a|a<;>rw[a]
 .intro h;cases h
 .intro h;cases h
 .intro h;cases h
 .intro h;cases h
 .rintro(h|h)<;>cases h
 .rintro(h|h)<;>cases h
 .intro h;cases h
 .intro h;cases h
def qS{x:Lx}(a:x.j=.digit)(b:x.e=I)(c:x.c<=16777216)(i:x.a<=x.c)(k:x.number=0)(f:x.f.length+x.b<=x.c)(g:x.h=0\/(55296<=x.h/\x.h<=56319))(d:aJR x.h x.b x.code)(j:aX [] x.f=U x.d)(e:x.d= []):x.Fine:=by
 refine⟨c,i,by omega,by rw[b,a];rfl,?_,?_,λ_=>⟨k,by omega,j⟩,λ_ _=>e,?_,?_,λ_=>⟨f,d,g⟩⟩<;>rw[a]
 .intro h;cases h
 .intro h;cases h
 .rintro(h|h)<;>cases h
 .rintro(h|h)<;>cases h
def mB{x:Lx}(f:x.j=ah)(i:x.e=N)(l:x.c<16777216)(n:x.a<=x.c)(a:x.number<=8)(c:UInt8):
 ((aP x c).b=0->Lx.Fine {(aP x c).c with c:=x.c+1})/\∀t∈(aP x c).a,qE t:=by
 unfold aP
 by_cases e:aI c=I
 .rw[if_pos e];exact⟨λ_=>gH f i (by simp;omega) (by simp;omega) a,λt b=>by simp at b⟩
 rw[if_neg e];simp only[]
 by_cases g:aY c=I
 .rw[if_pos g];exact⟨λ_=>gH rfl rfl (by simp;omega) (by simp[Z]) (by simp[Z]),λt b=>by simp at b;subst b;exact g⟩
 rw[if_neg g]
 by_cases k:c=34
 .rw[if_pos k];exact⟨λ_=>j5 rfl rfl (by simp;omega) (by simp) rfl (by simp) rfl rfl,λt b=>by simp at b⟩
 rw[if_neg k]
 by_cases a:c=45\/isD c=I
 .rw[if_pos a];unfold kX;cases j:aR 0 c with
  | none=>exact⟨λh=>by simp at h,λt b=>by simp at b⟩
  | some m=>exact⟨λ_=>sO rfl rfl (by simp;omega) (by simp) (vC j) (by simp),λt b=>by simp at b⟩
 rw[if_neg a]
 by_cases d:aH c≠ []
 .rw[if_pos d];refine⟨λ_=>vD rfl rfl (by simp;omega) (by simp) rfl (by simp) ?_,λt b=>by simp at b⟩
  show 1<(aH c).length
  unfold aH at d⊢;split at d
  .rename_i h;rw[if_pos h];decide
  .rename_i h;rw[if_neg h];split at d
   .rename_i h;rw[if_pos h];decide
   .rename_i h;rw[if_neg h];split at d
    .rename_i h;rw[if_pos h];decide
    .exact absurd rfl d
 rw[if_neg d];exact⟨λh=>by simp at h,λt b=>by simp at b⟩
def aBH{b:UInt8}(h:cO c=U b):aO [] b=U []:=by
 have:b.toNat<128:=by
  unfold cO at h;split at h
  .rename_i a;cases h;rcases a with rfl|rfl|rfl<;>decide
  .repeat' (first|(split at h)|(cases h;decide)|cases h)
 unfold aO aC;simp[this]
def aE3{n:Nat}(h:n<(aH c).length):aH c= [110,117,108,108]\/aH c= [116,114,117,101]\/aH c= [102,97,108,115,101]:=by
 unfold aH at h⊢;split
 .exact O rfl
 .rename_i g1;rw[if_neg g1]at h;split
  .exact J (O rfl)
  .rename_i a;rw[if_neg a]at h;split
   .exact J (J rfl)
   .rename_i b;rw[if_neg b]at h;simp at h
def aHB{x:Lx}(s:x.Fine)(T:x.c<16777216)(c:UInt8):((x.B4 c).b=0->Lx.Fine {(x.B4 c).c with c:=x.c+1})/\∀t∈(x.B4 c).a,qE t:=by
 have d:=s;cases a:x.j with
 | outside=>
  have p:x.B4 c=aP x c:=by unfold Y;rw[a]
  rw[p];exact mB a (by rw[d.e,a];rfl) T d.a d.number c
 | numeral=>
  have p:x.B4 c=bX x c:=by unfold Y;rw[a]
  rw[p];have g:x.e=I:=by rw[d.e,a];rfl
  have i:=d.numeral a;unfold bX;cases h:aR x.number c with
  | some f=>exact⟨λ_=>sO a g (by simp;omega) (by have:=d.a;simp;omega) (vC h) (by simp;omega),λt e=>by simp at e⟩
  | none=>
   simp only[]
   by_cases f:bL x.number=I
   .rw[if_pos f];unfold ak;cases F:bitsOf x.g with
    | none=>exact⟨λs=>by simp at s,λt e=>by simp at e⟩
    | some v=>
     simp only[Option.map_some];obtain⟨q,n⟩:=mB (x:=x.E2) rfl rfl T d.a d.number c;refine⟨q,λt e=>?_⟩;rcases List.mem_cons.1 e with rfl|e
     .exact l0 F
     .exact n t e
   .rw[if_neg f];exact⟨λs=>by simp at s,λt e=>by simp at e⟩
 | letter=>
  have p:x.B4 c=cP x c:=by unfold Y;rw[a]
  rw[p];have g:x.e=I:=by rw[d.e,a];rfl
  obtain⟨i,h,f⟩:=d.letter a;unfold cP;simp only[]
  by_cases j:(aH (x.g.headD 0))[x.g.length]?=U c
  .rw[if_pos j]
   by_cases u:x.g.length+1=(aH (x.g.headD 0)).length
   .rw[if_pos u];refine⟨λ_=>gH rfl rfl (by simp;omega) (by have:=d.a;simp[Z];omega) (by simp[Z,i]),λt e=>?_⟩;rw[List.mem_singleton]at e;subst e;exact aE3 f
   .rw[if_neg u];refine⟨λ_=>vD a g (by simp;omega) (by have:=d.a;simp;omega) i (by simp) ?_,λt e=>by simp at e⟩;cases B:x.g with
    | nil=>exact absurd B h
    | cons r k=>
     rw[B]at f u;simp only[ao,ar]at f u;simp only[List.cons_append,ao,ar,au,List.length_nil];omega
  .rw[if_neg j];exact⟨λs=>by simp at s,λt e=>by simp at e⟩
 | within=>
  have p:x.B4 c=bY x c:=by unfold Y;rw[a]
  rw[p];have g:x.e=I:=by rw[d.e,a];rfl
  have f:=(d.text (by rw[a];rfl)).1;have k:=(d.text (by rw[a];rfl)).2.1;have j:=d.low (O a);have h:=(d.text (by rw[a];rfl)).2.2;unfold bY
  by_cases q:x.d= []/\c=34
  .rw[if_pos q];refine⟨λ_=>gH rfl rfl (by simp;omega) (by have:=d.a;simp[Z];omega) (by simp[Z,f]),λt e=>?_⟩;simp at e;subst e;refine⟨?_,by omega⟩;unfold aV;rw[h,q.1];rfl
  rw[if_neg q]
  by_cases n:x.d= []/\c=92
  .rw[if_pos n];exact⟨λ_=>aC7 rfl g (by simp;omega) (by have:=d.a;simp;omega) f (by simp;omega) j h n.1,λt e=>by simp at e⟩
  rw[if_neg n]
  by_cases C:x.d= []/\c.toNat<32
  .rw[if_pos C];exact⟨λs=>by simp at s,λt e=>by simp at e⟩
  rw[if_neg C];cases i:aO x.d c with
  | none=>exact⟨λs=>by simp at s,λt e=>by simp at e⟩
  | some l=>
   refine⟨λ_=>j5 a g (by simp;omega) (by have:=d.a;simp;omega) f (by simp;omega) j ?_,λt e=>by simp at e⟩
   show aX [] (x.f++ [c])=U l
   rw[gA,h]
   show aX x.d [c]=_
   rw[cD,i];rfl
 | escape=>
  have p:x.B4 c=dN x c:=by unfold Y;rw[a]
  rw[p];have g:x.e=I:=by rw[d.e,a];rfl
  have f:=(d.text (by rw[a];rfl)).1;have k:=(d.text (by rw[a];rfl)).2.1;have j:=d.low (J a);have h:=(d.text (by rw[a];rfl)).2.2;have i:=d.d (by rw[a];rfl) (by rw[a];decide);unfold dN
  by_cases q:c=117
  .rw[if_pos q];refine⟨λ_=>qS rfl g (by simp;omega) (by have:=d.a;simp;omega) f ?_ (O j) ?_ h i,λt e=>by simp at e⟩
   .show x.f.length+0<=x.c+1
    omega
   .exact⟨by simp,by simp,by simp,by simp⟩
  rw[if_neg q];cases l:cO c with
  | none=>exact⟨λs=>by simp at s,λt e=>by simp at e⟩
  | some b=>
   refine⟨λ_=>j5 rfl g (by simp;omega) (by have:=d.a;simp;omega) f (by simp;omega) j ?_,λt e=>by simp at e⟩
   show aX [] (x.f++ [b])=U x.d
   rw[gA,h,i]
   show aX [] [b]=_
   rw[cD,aBH l];rfl
 | slash=>
  have p:x.B4 c=fD x c:=by unfold Y;rw[a]
  rw[p];have g:x.e=I:=by rw[d.e,a];rfl
  have f:=(d.text (by rw[a];rfl)).1;have u:=(d.text (by rw[a];rfl)).2.1;have w:=d.slash (O a);unfold fD;split
  .exact⟨λ_=>xY (J rfl) g (by simp;omega) (by have:=d.a;simp;omega) f (by simp;omega) w (d.text (by rw[a];rfl)).2.2 (d.d (by rw[a];rfl) (by rw[a];decide)),λt e=>by simp at e⟩
  .exact⟨λs=>by simp at s,λt e=>by simp at e⟩
 | letterU=>
  have p:x.B4 c=dS x c:=by unfold Y;rw[a]
  rw[p];have g:x.e=I:=by rw[d.e,a];rfl
  have f:=(d.text (by rw[a];rfl)).1;have u:=(d.text (by rw[a];rfl)).2.1;have w:=d.slash (J a);unfold dS;split
  .refine⟨λ_=>qS rfl g (by simp;omega) (by have:=d.a;simp;omega) f ?_ (J w) ?_ (d.text (by rw[a];rfl)).2.2 (d.d (by rw[a];rfl) (by rw[a];decide)),λt e=>by simp at e⟩
   .show x.f.length+0<=x.c+1
    omega
   .exact⟨by simp,by simp,by simp,by simp⟩
  .exact⟨λs=>by simp at s,λt e=>by simp at e⟩
 | digit=>
  have p:x.B4 c=dH x c:=by unfold Y;rw[a]
  rw[p];have g:x.e=I:=by rw[d.e,a];rfl
  have f:=(d.text (by rw[a];rfl)).1;have h:=(d.text (by rw[a];rfl)).2.2;have i:=d.d (by rw[a];rfl) (by rw[a];decide);obtain⟨u,⟨k,g1,W,y⟩,L⟩:=d.b a;unfold dH;cases hv:hexOf c with
  | none=>exact⟨λs=>by by_cases o:x.h=0<;>simp[o]at s,λt e=>by simp at e⟩
  | some v=>
   have g0:=sL hv;simp only[]
   by_cases l:x.I9 v=I
   .rw[if_pos l];exact⟨λs=>by simp at s,λt e=>by simp at e⟩
   rw[if_neg l];refine⟨λ_=>?_,λt e=>by simp at e⟩;have m:x.code*16+v<16^(x.b+1):=by rw[Nat.pow_succ];omega
   have z:(x.h≠0->x.b=0->v=13)/\(x.h≠0->x.b=1->12<=v)/\(x.h=0->x.b=1->x.code=13->v<12):=by
    unfold Lx.I9 at l;refine⟨λq n=>?_,λq n=>?_,λq n C=>?_⟩
    .rw[if_pos ⟨q,n⟩]at l;simpa using l
    .rw[if_neg (by omega),if_pos ⟨q,n⟩]at l;simp at l;omega
    .rw[if_neg (by omega),if_neg (by omega)]at l;simp[q,n,C]at l;omega
   obtain⟨l1,l2,l3⟩:=z
   have j:(x.h=0->(x.b+1=2->¬(220<=x.code*16+v/\x.code*16+v<=223))/\(x.b+1=3->¬(220<=(x.code*16+v)/16/\(x.code*16+v)/16<=223))/\(x.b+1=4->¬(56320<=x.code*16+v/\x.code*16+v<=57343)))/\
    (x.h≠0->(x.b+1=1->x.code*16+v=13)/\(x.b+1=2->220<=x.code*16+v/\x.code*16+v<=223)/\(x.b+1=3->220<=(x.code*16+v)/16/\(x.code*16+v)/16<=223)/\(x.b+1=4->56320<=x.code*16+v/\x.code*16+v<=57343)):=by
    refine⟨λo=>⟨λn=>?_,λn=>?_,λn=>?_⟩,λo=>⟨λn=>?_,λn=>?_,λn=>?_,λn=>?_⟩⟩
    .have:=l3 o (by omega);have q:x.code<16^1:=by rw[show x.b=1 by omega]at k;exact k
     by_cases B:x.code=13
     .have:=this B;omega
     .omega
    .have:=(W o).1 (by omega);omega
    .have:=(W o).2 (by omega);omega
    .have q:x.code<16^0:=by rw[show x.b=0 by omega]at k;exact k
     have:=l1 o (by omega);omega
    .have:=(y o).1 (by omega);have:=l2 o (by omega);omega
    .have:=(y o).2.1 (by omega);omega
    .have:=(y o).2.2 (by omega);omega
   by_cases B:x.b+1=4
   .rw[if_pos B];have P:x.code*16+v<65536:=by rw[B]at m;exact m
    unfold Lx.whole;simp only[]
    by_cases w:x.h≠0
    .rw[if_pos w];have F:=(j.2 w).2.2.2 B;have D:55296<=x.h/\x.h<=56319:=by omega
     refine j5 rfl g (by simp;omega) (by have:=d.a;simp;omega) f ?_ rfl ?_
     .obtain⟨R,C⟩:∃R,aT (65536+(x.h-55296)*1024+(x.code*16+v)-56320)=R:=⟨_,rfl⟩;have:=(fS (65536+(x.h-55296)*1024+(x.code*16+v)-56320)).2.1;rw[C]at this⊢;rw[au]
      show _<=x.c+1
      omega
     .show aX [] (x.f++_)=U x.d
      have q:fM (65536+(x.h-55296)*1024+(x.code*16+v)-56320):=J (by omega);have n:=nJ q;obtain⟨R,C⟩:∃R,aT (65536+(x.h-55296)*1024+(x.code*16+v)-56320)=R:=⟨_,rfl⟩;rw[C]at n⊢;rw[gA,h,i];exact n
    .rw[if_neg w];have D:x.h=0:=by omega
     have F:=(j.1 D).2.2 B
     by_cases Q:55296<=x.code*16+v/\x.code*16+v<=56319
     .rw[if_pos Q];exact xY (O rfl) g (by simp;omega) (by have:=d.a;simp;omega) f (by simp;omega) Q h i
     .rw[if_neg Q];refine j5 rfl g (by simp;omega) (by have:=d.a;simp;omega) f ?_ D ?_
      .have:=(fS (x.code*16+v)).2.2 P;simp;omega
      .show aX [] (x.f++_)=U x.d
       have q:fM (x.code*16+v):=by unfold fM;omega
       have n:=nJ q;obtain⟨R,C⟩:∃R,aT (x.code*16+v)=R:=⟨_,rfl⟩;rw[C]at n⊢;rw[gA,h,i];exact n
   .rw[if_neg B];refine qS a g (by simp;omega) (by have:=d.a;simp;omega) f (by simp;omega) L ?_ h i;refine⟨m,by simp;omega,λo=>⟨(j.1 o).1,(j.1 o).2.1⟩,λo=>⟨(j.2 o).1,(j.2 o).2.1,(j.2 o).2.2.1⟩⟩
def aAU{x:Lx}(h:x.Fine)(c:UInt8):((x.take c).2.2.1=0->(x.take c).1.Fine)/\∀t∈(x.take c).2.1,qE t:=by
 unfold Lx.take
 by_cases b:x.c=16777216
 .rw[if_pos b];exact⟨λh=>by simp at h,λt f=>by simp at f⟩
 rw[if_neg b];simp only[];obtain⟨e,d⟩:=aHB h (by have:=h.c;omega) c
 by_cases a:(x.B4 c).b=0
 .rw[if_pos a];exact⟨λ_=>e a,d⟩
 .rw[if_neg a];exact⟨λh=>absurd h a,d⟩
def qT{x:Lx}:∀t∈x.B8.2.1,qE t:=by
 unfold Lx.B8;split
 .intro t a;simp at a
 .split
  .intro t a;simp at a
  .unfold ak;cases b:bitsOf x.g with
   | none=>intro t a;simp at a
   | some v=>intro t a;simp at a;subst a;exact l0 b
section
def yR(k n:Nat)(l:Oo):jA (k+n) l=(k+(jA n l).1,(jA n l).2):=by
 cases l with
 | nil=>rfl
 | cons c t=>
  unfold jA;simp only
  by_cases h:c=101\/c=69
  .rw[if_pos h,if_pos h]
   by_cases a:bR (t.drop (iC t))=I
   .rw[if_pos a,if_pos a];simp only[K]
   .rw[if_neg a,if_neg a];simp only[K]
  .rw[if_neg h,if_neg h]
def s7(k n:Nat)(l:Oo):dP (k+n) l=(k+(dP n l).1,(dP n l).2):=by
 cases l with
 | nil=>rfl
 | cons c t=>
  unfold dP;simp only
  by_cases h:c=46
  .rw[if_pos h,if_pos h]
   by_cases a:bR t=I
   .rw[if_pos a,if_pos a,<-yR];simp only[K]
   .rw[if_neg a,if_neg a];simp only[K]
  .rw[if_neg h,if_neg h,yR]
def s8(k n:Nat)(l:Oo):dQ (k+n) l=(k+(dQ n l).1,(dQ n l).2):=by
 cases l with
 | nil=>rfl
 | cons c t=>
  unfold dQ;simp only
  by_cases h:isD c=I
  .rw[if_pos h,if_pos h]
   by_cases a:c=48
   .rw[if_pos a,if_pos a,K,s7]
   .rw[if_neg a,if_neg a,K,s7]
  .rw[if_neg h,if_neg h]
section
variable {s:ByteArray} {i:Nat}
def aJ4(h:i<s.size)(a:s[i]=45):(i+(dB (s.data.toList.drop i)).1,(dB (s.data.toList.drop i)).2)=dQ (i+1) (s.data.toList.drop (i+1)):=by
 rw[s8,bA h,a];rfl
def aHV(h:i<s.size)(a:s[i]≠45):(i+(dB (s.data.toList.drop i)).1,(dB (s.data.toList.drop i)).2)=dQ i (s.data.toList.drop i):=by
 have:=s8 i 0 (s.data.toList.drop i);rw[Nat.add_zero]at this;rw[this,bA h];unfold dB;simp only;rw[if_neg a]
def aJ5(h:bR (s.data.toList.drop i)=N)(n:Nat):dQ n (s.data.toList.drop i)=(n,N):=by
 by_cases hi:i<s.size
 .rw[bA hi]at h⊢;have h:isD s[i]=N:=h;unfold dQ;simp only;rw[if_neg (by rw[h];decide)]
 .rw[cY hi];rfl
def aFm(h:i<s.size)(a:s[i]=48)(n:Nat):dQ n (s.data.toList.drop i)=dP (n+1) (s.data.toList.drop (i+1)):=by
 rw[bA h,a];rfl
def aFn(h:i<s.size)(a:bR (s.data.toList.drop i)=I)(b:s[i]≠48)(n:Nat):dQ n (s.data.toList.drop i)=dP (n+over (s.data.toList.drop i)) (s.data.toList.drop (i+over (s.data.toList.drop i))):=by
 rw[<-ag,bA h]at*;have a:isD s[i]=I:=a;unfold dQ;simp only;rw[if_pos a,if_neg b]
def aDu(h:∀h:i<s.size,s[i]≠46)(n:Nat):dP n (s.data.toList.drop i)=jA n (s.data.toList.drop i):=by
 by_cases hi:i<s.size
 .rw[bA hi];unfold dP;simp only;rw[if_neg (h hi)]
 .rw[cY hi];rfl
def aHW(h:i<s.size)(a:s[i]=46)(b:bR (s.data.toList.drop (i+1))=N)(n:Nat):dP n (s.data.toList.drop i)=(n+1,N):=by
 rw[bA h,a];unfold dP;simp only;rw[if_pos trivial,if_neg (by rw[b];decide)]
def aHX(h:i<s.size)(a:s[i]=46)(b:bR (s.data.toList.drop (i+1))=I)(n:Nat):dP n (s.data.toList.drop i)=jA (n+1+over (s.data.toList.drop (i+1))) (s.data.toList.drop (i+1+over (s.data.toList.drop (i+1)))):=by
 rw[<-ag (i:=over (s.data.toList.drop (i+1))),bA h,a];unfold dP;simp only;rw[if_pos trivial,if_pos b]
def aJ6(h:∀h:i<s.size,s[i]≠101/\s[i]≠69)(n:Nat):jA n (s.data.toList.drop i)=(n,I):=by
 by_cases hi:i<s.size
 .rw[bA hi];unfold jA;simp only;rw[if_neg (by rintro(e|e);exact(h hi).1 e;exact(h hi).2 e)]
 .rw[cY hi];rfl
def aLr(h:i<s.size)(c:s[i]=101\/s[i]=69){k:Nat}(b:iC (s.data.toList.drop (i+1))=k)(a:bR (s.data.toList.drop (i+1+k))=N)(n:Nat):jA n (s.data.toList.drop i)=(n+1+k,N):=by
 rw[<-ag]at a;rw[bA h];unfold jA;simp only;rw[if_pos c,b,if_neg (by rw[a];decide)]
def aLs(h:i<s.size)(c:s[i]=101\/s[i]=69){k:Nat}(b:iC (s.data.toList.drop (i+1))=k)(a:bR (s.data.toList.drop (i+1+k))=I)(n:Nat):jA n (s.data.toList.drop i)=(n+1+k+over (s.data.toList.drop (i+1+k)),I):=by
 rw[<-ag]at a⊢;rw[bA h];unfold jA;simp only;rw[if_pos c,b,if_pos a]
def aJ7(h:∀h:i<s.size,s[i]≠43/\s[i]≠45):iC (s.data.toList.drop i)=0:=by
 by_cases hi:i<s.size
 .rw[bA hi];unfold iC;simp only;rw[if_neg (by rintro(e|e);exact(h hi).1 e;exact(h hi).2 e)]
 .rw[cY hi];rfl
def aGO(h:i<s.size)(a:s[i]=43\/s[i]=45):iC (s.data.toList.drop i)=1:=by
 rw[bA h];unfold iC;simp only;rw[if_pos a]
end
def ne2{k:UInt8}(h:c≠k):¬(c.toNat:Int)=(k.toNat:Int)/\((c.toNat:Int)==(k.toNat:Int))=N:=by
 have:¬(c.toNat:Int)=(k.toNat:Int):=λe=>h (ba (by omega))
 exact⟨this,by simpa using this⟩
def aJ8(s:ByteArray)(q:Nat)(e:s.size<=2147483648)(d:q<=s.size):∃k,iC (s.data.toList.drop q)=k/\q+k<=s.size/\
 ((¬ (q : Int) < (s.size : Int) /\ k = 0) \/ (∃ h : q < s.size, (q : Int) < (s.size : Int) /\ ((k = 0 /\ (¬ ((s[q].toNat : Nat) : Int) = 43 /\ (((s[q].toNat : Nat) : Int) == 43) = N) /\ (¬ ((s[q].toNat : Nat) : Int) = 45 /\ (((s[q].toNat : Nat) : Int) == 45) = N)) \/
   (k=1/\((s[q].toNat:Nat):Int)=43)\/(k=1/\(¬((s[q].toNat:Nat):Int)=43/\(((s[q].toNat:Nat):Int)==43)=N)/\((s[q].toNat:Nat):Int)=45)))):=by
 by_cases h:q<s.size
 .by_cases a:s[q]=43
  .exact⟨1,aGO h (O a),by omega,J ⟨h,by omega,J (O ⟨rfl,by rw[a];rfl⟩)⟩⟩
  .by_cases b:s[q]=45
   .exact⟨1,aGO h (J b),by omega,J ⟨h,by omega,J (J ⟨rfl,ne2 (k:=43) a,by rw[b];rfl⟩)⟩⟩
   .exact⟨0,aJ7 λ_=>⟨a,b⟩,by omega,J ⟨h,by omega,O ⟨rfl,ne2 (k:=43) a,ne2 (k:=45) b⟩⟩⟩
 .exact⟨0,aJ7 λc=>absurd c h,by omega,O ⟨by omega,rfl⟩⟩
def vK(w:X)(s:ByteArray)(i:Nat)(hi:i<s.size)(hs:s.size<=2147483648):Calls prog 90 #[s,i] w λe w'=>
 e=aj (H #[V S ((i+(dB (s.data.toList.drop i)).1:Nat):Int),G (dB (s.data.toList.drop i)).2])/\w'=w:=by
 have z:=A (λ(W:X)(k:Nat)=>qO W s k);have F:=A (λ(W:X)(k:Nat)(l:k<=s.size)=>aHq W s k l hs);have g6:(i:Int)<(s.size:Int):=by omega
 obtain⟨o,B,n⟩:∃o B,(i+(dB (s.data.toList.drop i)).1,(dB (s.data.toList.drop i)).2)=(o,B):=⟨_,_,rfl⟩
 have hw:(s[i]=45/\dQ (i+1) (s.data.toList.drop (i+1))=(o,B))\/(s[i]≠45/\dQ i (s.data.toList.drop i)=(o,B)):=by
  by_cases c:s[i]=45
  .exact O ⟨c,by rw[<-aJ4 hi c];exact n⟩
  .exact J ⟨c,by rw[<-aHV hi c];exact n⟩
 injection n with a b
 rw[a,b];clear a b;have L:=A (λq(h:q<=s.size)=>aJ8 s q hs h);rcases hw with⟨a,d⟩|⟨a,d⟩
 case' inl=>
  obtain⟨p,f⟩:∃p,i+1=p:=⟨_,rfl⟩;rw[f]at d;have t:=A d;have j:((s[i].toNat:Nat):Int)=45:=by rw[a];rfl
  have g:S.wrap ((i:Int)+1)=(p:Int):=by rw[E];omega
  have x:p<=s.size:=by omega
  clear d a f;go_enter func90,ntmps90;go_wp2_with fail;clear j g
 case' inr=>
  have t:=A d;obtain⟨j,g⟩:=ne2 (k:=45) a;have j:¬((s[i].toNat:Nat):Int)=45:=j;have g:(((s[i].toNat:Nat):Int)==45)=N:=g;have x:i<=s.size:=by omega
  clear d a;go_enter func90,ntmps90;go_wp2_with fail;obtain⟨p,rfl⟩:∃p,p=i:=⟨i,rfl⟩;clear j g
 all_goals
  refine(z.o w p).mono ?_;rintro r w1 ⟨rfl,rfl⟩;cases d:bR (s.data.toList.drop p)with
  | false=>
   have e:=t.o;rw[aJ5 d]at e;injection e with f m
   subst f m;clear d;go_wp2_with fail;exact ac (v:=H #[V S (p:Int),G N]) (by simp[ae,af,go_sem]) rfl ⟨rfl,rfl⟩
  | true=>
   have y:=(aER d).1;have g7:(p:Int)<(s.size:Int):=by omega
   have h:(s[p]=48/\∃q,p+1=q/\q<=s.size/\dP q (s.data.toList.drop q)=(o,B))\/(s[p]≠48/\∃q,p+over (s.data.toList.drop p)=q/\q<=s.size/\dP q (s.data.toList.drop q)=(o,B)):=by
    by_cases a:s[p]=48
    .exact O ⟨a,_,rfl,by omega,by rw[<-aFm y a];exact t.o⟩
    .refine J ⟨a,_,rfl,?_,by rw[<-aFn y d a];exact t.o⟩;have:over (s.data.toList.drop p)<=(s.data.toList.drop p).length:=by unfold over;exact(av _).length_le
     rw[aw,show s.data.toList.length=s.size by simp]at this;omega
   clear d t;rcases h with⟨a,q,h,P,t⟩|⟨a,q,h,P,t⟩
   case' inl=>
    have j:((s[p].toNat:Nat):Int)=48:=by rw[a];rfl
    have g:S.wrap ((p:Int)+1)=(q:Int):=by rw[E];omega
    have d:=A t;clear t h a
   case' inr=>
    obtain⟨j,g⟩:=ne2 (k:=48) a;have g:(((s[p].toNat:Nat):Int)==48)=N:=g;have d:=A t;have C:=A (show ∀W:X,Calls prog 119 #[s,V S p] W λe w'=>e=aj (V S (q:Int))/\w'=W from λW=>by have:=F.o W p x;rw[h]at this;exact this);clear t h a;go_wp2_with fail;refine(C.o _).mono ?_;rintro r w2 ⟨rfl,rfl⟩;clear g
   all_goals
    have Q:s.data.toList.length=s.size:=by simp
    have a:∀k,k<=s.size->k+over (s.data.toList.drop k)<=s.size:=λk l=>by
     have:over (s.data.toList.drop k)<=(s.data.toList.drop k).length:=by unfold over;exact(av _).length_le
     rw[aw,Q]at this;omega
    have R:(∃c:q<s.size,((s[q].toNat:Nat):Int)=46/\bR (s.data.toList.drop (q+1))=N/\(q+1,N)=(o,B))\/
     (∃c:q<s.size,∃r,((s[q].toNat:Nat):Int)=46/\bR (s.data.toList.drop (q+1))=I/\q+1+over (s.data.toList.drop (q+1))=r/\jA r (s.data.toList.drop r)=(o,B))\/
     ((¬(q:Int)<(s.size:Int)\/((q:Int)<(s.size:Int)/\∃c:q<s.size,¬((s[q].toNat:Nat):Int)=46/\(((s[q].toNat:Nat):Int)==46)=N))/\jA q (s.data.toList.drop q)=(o,B)):=by
     by_cases c:q<s.size
     .by_cases b:s[q]=46
      .cases h:bR (s.data.toList.drop (q+1))with
       | false=>exact O ⟨c,by rw[b];rfl,rfl,by rw[<-aHW c b h];exact d.o⟩
       | true=>exact J (O ⟨c,_,by rw[b];rfl,rfl,rfl,by rw[<-aHX c b h];exact d.o⟩)
      .exact J (J ⟨J ⟨by omega,c,ne2 (k:=46) b⟩,by rw[<-aDu λ_=>b];exact d.o⟩)
     .exact J (J ⟨O (by omega),by rw[<-aDu λT=>absurd T c];exact d.o⟩)
    clear d;have g4:=A a;clear a;rcases R with⟨g8,t1,a,C⟩|⟨g9,r,t1,a,D,x⟩|⟨hn,x⟩
    all_goals
     first
     | (have t2:(q:Int)<(s.size:Int):=by omega
        have t3:S.wrap ((q:Int)+1)=((q+1:Nat):Int):=by rw[E];omega
        injection C with f m
        obtain⟨d,g⟩:∃d,q+1=d:=⟨_,rfl⟩;rw[g]at f a t3;subst f m;have j:=A (λW:X=>z.o W d);rw[a]at j;clear a g;go_wp2_with fail;refine(j.o _).mono ?_;rintro r w3 ⟨rfl,rfl⟩;go_wp2_with fail;exact ac (v:=H #[V S (d:Int),G N]) (by simp[ae,af,go_sem]) rfl ⟨rfl,rfl⟩)
     | (have t2:(q:Int)<(s.size:Int):=by omega
        have t3:S.wrap ((q:Int)+1)=((q+1:Nat):Int):=by rw[E];omega
        obtain⟨d,g⟩:∃d,q+1=d:=⟨_,rfl⟩;rw[g]at a t3 D;have h0:r<=s.size:=by rw[<-D];exact g4.o d (by omega)
        have j:=A (λW:X=>z.o W d);rw[a]at j;have g5:=A (show ∀W:X,Calls prog 119 #[s,V S d] W λe w'=>e=aj (V S (r:Int))/\w'=W from λW=>by have:=F.o W d (by omega);rw[D]at this;exact this);have t:=A x;clear a g D x;go_wp2_with fail;refine(j.o _).mono ?_;rintro D w3 ⟨rfl,rfl⟩;go_wp2_with fail;refine(g5.o _).mono ?_;rintro D g ⟨rfl,rfl⟩)
     | (have t:=A x;clear x;obtain⟨r,rfl⟩:∃r,r=q:=⟨q,rfl⟩;rcases hn with hn|⟨d,g,-,x⟩)
    all_goals
     have x:((¬(r:Int)<(s.size:Int)\/((r:Int)<(s.size:Int)/\∃c:r<s.size,(¬((s[r].toNat:Nat):Int)=101/\(((s[r].toNat:Nat):Int)==101)=N)/\(¬((s[r].toNat:Nat):Int)=69/\(((s[r].toNat:Nat):Int)==69)=N)))/\(r,I)=(o,B))\/
      (∃c:r<s.size,(((s[r].toNat:Nat):Int)=101\/((¬((s[r].toNat:Nat):Int)=101/\(((s[r].toNat:Nat):Int)==101)=N)/\((s[r].toNat:Nat):Int)=69))/\
       ∀k,iC (s.data.toList.drop (r+1))=k->(bR (s.data.toList.drop (r+1+k))=N->(r+1+k,N)=(o,B))/\(bR (s.data.toList.drop (r+1+k))=I->(r+1+k+over (s.data.toList.drop (r+1+k)),I)=(o,B))):=by
      by_cases c:r<s.size
      .by_cases b:s[r]=101\/s[r]=69
       .refine J ⟨c,?_,λk l=>⟨λh=>by rw[<-aLr c b l h];exact t.o,λh=>by rw[<-aLs c b l h];exact t.o⟩⟩
        by_cases h:s[r]=101
        .exact O (by rw[h];rfl)
        .exact J ⟨ne2 (k:=101) h,by rw[b.resolve_left h];rfl⟩
       .exact O ⟨J ⟨by omega,c,ne2 (k:=101) (λe=>b (O e)),ne2 (k:=69) (λe=>b (J e))⟩,by rw[<-aJ6 λ_=>⟨λe=>b (O e),λe=>b (J e)⟩];exact t.o⟩
      .exact O ⟨O (by omega),by rw[<-aJ6 λT=>absurd T c];exact t.o⟩
     clear t;rcases x with⟨hx,C⟩|⟨hx,hc,l⟩
     all_goals
      first
      | (have b := C
         injection C with f m
         subst f m;clear b;rcases hx with x1|⟨x1,x2,⟨-,x4⟩,-,b⟩
         all_goals
          first
          | (exfalso;omega)
          | (go_wp2_with fail
             exact ac (v:=H #[V S (r:Int),G I]) (by simp[ae,af,go_sem]) rfl ⟨rfl,rfl⟩))
      | (exfalso;omega)
      | (have x1 : (r : Int) < (s.size : Int) := by omega
         obtain⟨b,d⟩:∃b,r+1=b:=⟨_,rfl⟩;have x2:S.wrap ((r:Int)+1)=(b:Int):=by rw[E];omega
         obtain⟨k,g,h,T⟩:=L.o b (by omega);rw[d]at l;obtain⟨f1,f2⟩:=l k g;obtain⟨u,hu⟩:∃u,b+k=u:=⟨_,rfl⟩;rw[hu]at f1 f2 h;have x3:k=1->S.wrap ((b:Int)+1)=(u:Int):=λc=>by rw[E];omega
         have j:=A (λW:X=>z.o W u);have t:=A (λW:X=>F.o W u h);have F1:=A f1;have F2:=A f2;clear l g f1 f2 d;rcases hc with y1|⟨⟨y1,y2⟩,y3⟩
         all_goals
          rcases T with⟨z1,d⟩|⟨z0,z1,⟨d,⟨l,z4⟩,z5,z6⟩|⟨d,l⟩|⟨d,⟨l,z4⟩,z5⟩⟩
          all_goals
           try have x4:=x3 d
           try (have g : u = b := by omega
                subst g)
           clear x3 hu d;cases a:bR (s.data.toList.drop u)with
           | false=>
            have e:=F1.o a;rw[a]at j;injection e with f m
            subst f m;clear a F1 F2;go_wp2_with fail;refine(j.o _).mono ?_;rintro D d ⟨rfl,rfl⟩;go_wp2_with fail;exact ac (v:=H #[V S (u:Int),G N]) (by simp[ae,af,go_sem]) rfl ⟨rfl,rfl⟩
           | true=>
            have e:=F2.o a;rw[a]at j;injection e with f m
            rw[f]at t;subst m;clear a F1 F2 f;go_wp2_with fail;refine(j.o _).mono ?_;rintro D d ⟨rfl,rfl⟩;go_wp2_with fail;refine(t.o _).mono ?_;rintro D a ⟨rfl,rfl⟩;go_wp2_with fail;exact ac (v:=H #[V S (o:Int),G I]) (by simp[ae,af,go_sem]) rfl ⟨rfl,rfl⟩)
end
