/-
  The program, one part of its walk. Conditions: none.
-/
import Derived.Test.YtakkmiomhackiaaGreatDoorTd16
import Derived.Laws.Runes
set_option linter.all false
set_option maxRecDepth 100000
set_option maxHeartbeats 16000000
open Go.Proofs.Tryz
open Bool renaming false->N,true->I
open Go renaming World->ai
open Go.Ending renaming returned->Y
open Go.IntKind renaming i32->U,u8->aj,wrap_i32->af,wrap_u8->aw
open Go.Proofs.Tryz renaming func202->D,func203->Z,ntmps202->Q,ntmps203->K
open Go.Proofs.YtakkmiomhackiaaGreatDoor.Lx renaming B4->H,C0->az,F3->ac
open Go.Proofs.YtakkmiomhackiaaGreatDoor.St renaming outside->ak,within->ao
open Go.Utf8 renaming encode->bk,valid->bm
open Go.Value renaming int->G
open List renaming headD_cons->bg,length_append->bj,length_cons->bh,mem_cons->ba,mem_cons_self->av,mem_singleton->bc,takeWhile_cons->ae,take_add->au,take_succ_cons->ah
open Nat renaming le_refl->ar
open Option renaming none->O,some->J
open Or renaming inl->V,inr->S
open Prod.mk renaming injEq->ag
namespace Go.Proofs.YtakkmiomhackiaaGreatDoor
open Go.RowKit
theorem tK{s a:Nat}{c:UInt8}(h:aQ s c=J a):a<=8:=by
 unfold aQ at h
 repeat' (first|(split at h)|(cases h;decide)|cases h)
def aIE(high n c:Nat):Prop:=
 c<16^n/\n<=3/\(high=0->(n=2->¬(220<=c/\c<=223))/\(n=3->¬(220<=c/16/\c/16<=223)))/\
  (high≠0->(n=1->c=13)/\(n=2->220<=c/\c<=223)/\(n=3->220<=c/16/\c/16<=223))
structure Lx.Fine(x:Lx):Prop where
 place:x.place<=16777216
 start:x.start<=x.place
 number:x.number<=8
 isIn:x.isIn=decide (x.st≠ak)
 letter:x.st=.letter->x.number=0/\x.raw≠ []/\x.raw.length<(aN (x.raw.headD 0)).length
 numeral:x.st=.numeral->x.raw.length<=x.place
 text:dF x.st=I->x.number=0/\x.says.length<=x.place/\aP [] x.says=J x.held
 esc:dF x.st=I->x.st≠ao->x.held= []
 low:x.st=ao\/x.st=.escape->x.high=0
 slash:x.st=.slash\/x.st=.letterU->55296<=x.high/\x.high<=56319
 dig:x.st=.digit->x.says.length+x.digits<=x.place/\aIE x.high x.digits x.code/\(x.high=0\/(55296<=x.high/\x.high<=56319))
def o7:Tok->Prop
 | .str _ _ t=>aT t=I/\t.length<=16777216
 | .num _ _ b=>gM b
 | .mark _ s=>bJ s=I
 | .term _ _ n=>n= [110,117,108,108]\/n= [116,114,117,101]\/n= [102,97,108,115,101]
theorem gH{x:Lx}(a:x.st=ak)(b:x.isIn=N)(c:x.place<=16777216)(d:x.start<=x.place)(e:x.number<=8):x.Fine:=by
 refine⟨c,d,e,by rw[b,a];rfl,?_,?_,?_,?_,?_,?_,?_⟩<;>rw[a]
 .intro h;cases h
 .intro h;cases h
 .intro h;cases h
 .intro h;cases h
 .rintro(h|h)<;>cases h
 .rintro(h|h)<;>cases h
 .intro h;cases h
theorem aIF:Lx.I0.Fine:=gH rfl rfl (by decide) (by decide) (by decide)
theorem rI{x:Lx}(a:x.st=.numeral)(b:x.isIn=I)(c:x.place<=16777216)(e:x.start<=x.place)(f:x.number<=8)(d:x.raw.length<=x.place):x.Fine:=by
 refine⟨c,e,f,by rw[b,a];rfl,?_,λ_=>d,?_,?_,?_,?_,?_⟩<;>rw[a]
 .intro h;cases h
 .intro h;cases h
 .intro h;cases h
 .rintro(h|h)<;>cases h
 .rintro(h|h)<;>cases h
 .intro h;cases h
theorem tL{x:Lx}(a:x.st=.letter)(b:x.isIn=I)(c:x.place<=16777216)(f:x.start<=x.place)(g:x.number=0)(e:x.raw≠ [])(d:x.raw.length<(aN (x.raw.headD 0)).length):x.Fine:=by
 refine⟨c,f,by omega,by rw[b,a];rfl,λ_=>⟨g,e,d⟩,?_,?_,?_,?_,?_,?_⟩<;>rw[a]
 .intro h;cases h
 .intro h;cases h
 .intro h;cases h
 .rintro(h|h)<;>cases h
 .rintro(h|h)<;>cases h
 .intro h;cases h
theorem jP{x:Lx}(a:x.st=ao)(b:x.isIn=I)(c:x.place<=16777216)(f:x.start<=x.place)(i:x.number=0)(d:x.says.length<=x.place)(e:x.high=0)(g:aP [] x.says=J x.held):x.Fine:=by
 refine⟨c,f,by omega,by rw[b,a];rfl,?_,?_,λ_=>⟨i,d,g⟩,?_,λ_=>e,?_,?_⟩<;>rw[a]
 .intro h;cases h
 .intro h;cases h
 .intro _ h;exact absurd rfl h
 .rintro(h|h)<;>cases h
 .intro h;cases h
theorem aCg{x:Lx}(a:x.st=.escape)(b:x.isIn=I)(c:x.place<=16777216)(g:x.start<=x.place)(j:x.number=0)(e:x.says.length<=x.place)(f:x.high=0)(i:aP [] x.says=J x.held)(d:x.held= []):x.Fine:=by
 refine⟨c,g,by omega,by rw[b,a];rfl,?_,?_,λ_=>⟨j,e,i⟩,λ_ _=>d,λ_=>f,?_,?_⟩<;>rw[a]
 .intro h;cases h
 .intro h;cases h
 .rintro(h|h)<;>cases h
 .intro h;cases h
theorem wD{x:Lx}(a:x.st=.slash\/x.st=.letterU)(b:x.isIn=I)(c:x.place<=16777216)(g:x.start<=x.place)(j:x.number=0)(e:x.says.length<=x.place)(f:55296<=x.high/\x.high<=56319)(i:aP [] x.says=J x.held)(d:x.held= []):x.Fine:=by
 refine⟨c,g,by omega,by rcases a with h|h<;>rw[b,h]<;>rfl,?_,?_,λ_=>⟨j,e,i⟩,λ_ _=>d,?_,λ_=>f,?_⟩<;>rcases a with a|a<;>rw[a]
 .intro h;cases h
 .intro h;cases h
 .intro h;cases h
 .intro h;cases h
 .rintro(h|h)<;>cases h
 .rintro(h|h)<;>cases h
 .intro h;cases h
 .intro h;cases h
theorem pQ{x:Lx}(a:x.st=.digit)(b:x.isIn=I)(c:x.place<=16777216)(i:x.start<=x.place)(k:x.number=0)(f:x.says.length+x.digits<=x.place)(g:x.high=0\/(55296<=x.high/\x.high<=56319))(d:aIE x.high x.digits x.code)(j:aP [] x.says=J x.held)(e:x.held= []):x.Fine:=by
 refine⟨c,i,by omega,by rw[b,a];rfl,?_,?_,λ_=>⟨k,by omega,j⟩,λ_ _=>e,?_,?_,λ_=>⟨f,d,g⟩⟩<;>rw[a]
 .intro h;cases h
 .intro h;cases h
 .rintro(h|h)<;>cases h
 .rintro(h|h)<;>cases h
theorem l4{x:Lx}(f:x.st=ak)(i:x.isIn=N)(l:x.place<16777216)(n:x.start<=x.place)(a:x.number<=8)(c:UInt8):
 ((aO x c).no=0->Lx.Fine {(aO x c).lx with place:=x.place+1})/\∀t∈(aO x c).toks,o7 t:=by
 unfold aO
 by_cases e:aX c=I
 .rw[if_pos e];exact⟨λ_=>gH f i (by simp;omega) (by simp;omega) a,λt b=>by simp at b⟩
 rw[if_neg e];simp only[]
 by_cases g:bJ c=I
 .rw[if_pos g];exact⟨λ_=>gH rfl rfl (by simp;omega) (by simp[ac]) (by simp[ac]),λt b=>by simp at b;subst b;exact g⟩
 rw[if_neg g]
 by_cases k:c=34
 .rw[if_pos k];exact⟨λ_=>jP rfl rfl (by simp;omega) (by simp) rfl (by simp) rfl rfl,λt b=>by simp at b⟩
 rw[if_neg k]
 by_cases a:c=45\/isD c=I
 .rw[if_pos a];unfold kO;cases j:aQ 0 c with
  | none=>exact⟨λh=>by simp at h,λt b=>by simp at b⟩
  | some m=>exact⟨λ_=>rI rfl rfl (by simp;omega) (by simp) (tK j) (by simp),λt b=>by simp at b⟩
 rw[if_neg a]
 by_cases d:aN c≠ []
 .rw[if_pos d];refine⟨λ_=>tL rfl rfl (by simp;omega) (by simp) rfl (by simp) ?_,λt b=>by simp at b⟩
  show 1<(aN c).length
  unfold aN at d⊢;split at d
  .rename_i h;rw[if_pos h];decide
  .rename_i h;rw[if_neg h];split at d
   .rename_i h;rw[if_pos h];decide
   .rename_i h;rw[if_neg h];split at d
    .rename_i h;rw[if_pos h];decide
    .exact absurd rfl d
 rw[if_neg d];exact⟨λh=>by simp at h,λt b=>by simp at b⟩
theorem aAN{c b:UInt8}(h:cO c=J b):aK [] b=J []:=by
 have:b.toNat<128:=by
  unfold cO at h;split at h
  .rename_i a;cases h;rcases a with rfl|rfl|rfl<;>decide
  .repeat' (first|(split at h)|(cases h;decide)|cases h)
 unfold aK aC;simp[this]
theorem aDV{c:UInt8}{n:Nat}(h:n<(aN c).length):aN c= [110,117,108,108]\/aN c= [116,114,117,101]\/aN c= [102,97,108,115,101]:=by
 unfold aN at h⊢;split
 .exact V rfl
 .rename_i g1;rw[if_neg g1]at h;split
  .exact S (V rfl)
  .rename_i a;rw[if_neg a]at h;split
   .exact S (S rfl)
   .rename_i b;rw[if_neg b]at h;simp at h
theorem aGC{x:Lx}(s:x.Fine)(W:x.place<16777216)(c:UInt8):((x.B4 c).no=0->Lx.Fine {(x.B4 c).lx with place:=x.place+1})/\∀t∈(x.B4 c).toks,o7 t:=by
 have d:=s;cases a:x.st with
 | outside=>
  have p:x.B4 c=aO x c:=by unfold H;rw[a]
  rw[p];exact l4 a (by rw[d.isIn,a];rfl) W d.start d.number c
 | numeral=>
  have p:x.B4 c=bV x c:=by unfold H;rw[a]
  rw[p];have g:x.isIn=I:=by rw[d.isIn,a];rfl
  have i:=d.numeral a;unfold bV;cases h:aQ x.number c with
  | some f=>exact⟨λ_=>rI a g (by simp;omega) (by have:=d.start;simp;omega) (tK h) (by simp;omega),λt e=>by simp at e⟩
  | none=>
   simp only[]
   by_cases f:bI x.number=I
   .rw[if_pos f];unfold az;cases E:bitsOf x.raw with
    | none=>exact⟨λs=>by simp at s,λt e=>by simp at e⟩
    | some v=>
     simp only[Option.map_some];obtain⟨q,n⟩:=l4 (x:=x.F3) rfl rfl W d.start d.number c;refine⟨q,λt e=>?_⟩;rcases ba.1 e with rfl|e
     .exact lR E
     .exact n t e
   .rw[if_neg f];exact⟨λs=>by simp at s,λt e=>by simp at e⟩
 | letter=>
  have p:x.B4 c=cJ x c:=by unfold H;rw[a]
  rw[p];have g:x.isIn=I:=by rw[d.isIn,a];rfl
  obtain⟨i,h,f⟩:=d.letter a;unfold cJ;simp only[]
  by_cases j:(aN (x.raw.headD 0))[x.raw.length]?=J c
  .rw[if_pos j]
   by_cases u:x.raw.length+1=(aN (x.raw.headD 0)).length
   .rw[if_pos u];refine⟨λ_=>gH rfl rfl (by simp;omega) (by have:=d.start;simp[ac];omega) (by simp[ac,i]),λt e=>?_⟩;rw[bc]at e;subst e;exact aDV f
   .rw[if_neg u];refine⟨λ_=>tL a g (by simp;omega) (by have:=d.start;simp;omega) i (by simp) ?_,λt e=>by simp at e⟩;cases A:x.raw with
    | nil=>exact absurd A h
    | cons r k=>
     rw[A]at f u;simp only[bg,bh]at f u;simp only[List.cons_append,bg,bh,bj,List.length_nil];omega
  .rw[if_neg j];exact⟨λs=>by simp at s,λt e=>by simp at e⟩
 | within=>
  have p:x.B4 c=bW x c:=by unfold H;rw[a]
  rw[p];have g:x.isIn=I:=by rw[d.isIn,a];rfl
  have f:=(d.text (by rw[a];rfl)).1;have k:=(d.text (by rw[a];rfl)).2.1;have j:=d.low (V a);have h:=(d.text (by rw[a];rfl)).2.2;unfold bW
  by_cases q:x.held= []/\c=34
  .rw[if_pos q];refine⟨λ_=>gH rfl rfl (by simp;omega) (by have:=d.start;simp[ac];omega) (by simp[ac,f]),λt e=>?_⟩;simp at e;subst e;refine⟨?_,by omega⟩;unfold aT;rw[h,q.1];rfl
  rw[if_neg q]
  by_cases n:x.held= []/\c=92
  .rw[if_pos n];exact⟨λ_=>aCg rfl g (by simp;omega) (by have:=d.start;simp;omega) f (by simp;omega) j h n.1,λt e=>by simp at e⟩
  rw[if_neg n]
  by_cases B:x.held= []/\c.toNat<32
  .rw[if_pos B];exact⟨λs=>by simp at s,λt e=>by simp at e⟩
  rw[if_neg B];cases i:aK x.held c with
  | none=>exact⟨λs=>by simp at s,λt e=>by simp at e⟩
  | some l=>
   refine⟨λ_=>jP a g (by simp;omega) (by have:=d.start;simp;omega) f (by simp;omega) j ?_,λt e=>by simp at e⟩
   show aP [] (x.says++ [c])=J l
   rw[fZ,h]
   show aP x.held [c]=_
   rw[cA,i];rfl
 | escape=>
  have p:x.B4 c=dK x c:=by unfold H;rw[a]
  rw[p];have g:x.isIn=I:=by rw[d.isIn,a];rfl
  have f:=(d.text (by rw[a];rfl)).1;have k:=(d.text (by rw[a];rfl)).2.1;have j:=d.low (S a);have h:=(d.text (by rw[a];rfl)).2.2;have i:=d.esc (by rw[a];rfl) (by rw[a];decide);unfold dK
  by_cases q:c=117
  .rw[if_pos q];refine⟨λ_=>pQ rfl g (by simp;omega) (by have:=d.start;simp;omega) f ?_ (V j) ?_ h i,λt e=>by simp at e⟩
   .show x.says.length+0<=x.place+1
    omega
   .exact⟨by simp,by simp,by simp,by simp⟩
  rw[if_neg q];cases l:cO c with
  | none=>exact⟨λs=>by simp at s,λt e=>by simp at e⟩
  | some b=>
   refine⟨λ_=>jP rfl g (by simp;omega) (by have:=d.start;simp;omega) f (by simp;omega) j ?_,λt e=>by simp at e⟩
   show aP [] (x.says++ [b])=J x.held
   rw[fZ,h,i]
   show aP [] [b]=_
   rw[cA,aAN l];rfl
 | slash=>
  have p:x.B4 c=fA x c:=by unfold H;rw[a]
  rw[p];have g:x.isIn=I:=by rw[d.isIn,a];rfl
  have f:=(d.text (by rw[a];rfl)).1;have u:=(d.text (by rw[a];rfl)).2.1;have w:=d.slash (V a);unfold fA;split
  .exact⟨λ_=>wD (S rfl) g (by simp;omega) (by have:=d.start;simp;omega) f (by simp;omega) w (d.text (by rw[a];rfl)).2.2 (d.esc (by rw[a];rfl) (by rw[a];decide)),λt e=>by simp at e⟩
  .exact⟨λs=>by simp at s,λt e=>by simp at e⟩
 | letterU=>
  have p:x.B4 c=dO x c:=by unfold H;rw[a]
  rw[p];have g:x.isIn=I:=by rw[d.isIn,a];rfl
  have f:=(d.text (by rw[a];rfl)).1;have u:=(d.text (by rw[a];rfl)).2.1;have w:=d.slash (S a);unfold dO;split
  .refine⟨λ_=>pQ rfl g (by simp;omega) (by have:=d.start;simp;omega) f ?_ (S w) ?_ (d.text (by rw[a];rfl)).2.2 (d.esc (by rw[a];rfl) (by rw[a];decide)),λt e=>by simp at e⟩
   .show x.says.length+0<=x.place+1
    omega
   .exact⟨by simp,by simp,by simp,by simp⟩
  .exact⟨λs=>by simp at s,λt e=>by simp at e⟩
 | digit=>
  have p:x.B4 c=dC x c:=by unfold H;rw[a]
  rw[p];have g:x.isIn=I:=by rw[d.isIn,a];rfl
  have f:=(d.text (by rw[a];rfl)).1;have h:=(d.text (by rw[a];rfl)).2.2;have i:=d.esc (by rw[a];rfl) (by rw[a];decide);obtain⟨u,⟨k,hd3,X,y⟩,F⟩:=d.dig a;unfold dC;cases hv:hexOf c with
  | none=>exact⟨λs=>by by_cases o:x.high=0<;>simp[o]at s,λt e=>by simp at e⟩
  | some v=>
   have hv16:=rB hv;simp only[]
   by_cases l:x.M5 v=I
   .rw[if_pos l];exact⟨λs=>by simp at s,λt e=>by simp at e⟩
   rw[if_neg l];refine⟨λ_=>?_,λt e=>by simp at e⟩;have m:x.code*16+v<16^(x.digits+1):=by rw[Nat.pow_succ];omega
   have z:(x.high≠0->x.digits=0->v=13)/\(x.high≠0->x.digits=1->12<=v)/\(x.high=0->x.digits=1->x.code=13->v<12):=by
    unfold Lx.M5 at l;refine⟨λq n=>?_,λq n=>?_,λq n B=>?_⟩
    .rw[if_pos ⟨q,n⟩]at l;simpa using l
    .rw[if_neg (by omega),if_pos ⟨q,n⟩]at l;simp at l;omega
    .rw[if_neg (by omega),if_neg (by omega)]at l;simp[q,n,B]at l;omega
   obtain⟨l1,l2,l3⟩:=z
   have j:(x.high=0->(x.digits+1=2->¬(220<=x.code*16+v/\x.code*16+v<=223))/\(x.digits+1=3->¬(220<=(x.code*16+v)/16/\(x.code*16+v)/16<=223))/\(x.digits+1=4->¬(56320<=x.code*16+v/\x.code*16+v<=57343)))/\
    (x.high≠0->(x.digits+1=1->x.code*16+v=13)/\(x.digits+1=2->220<=x.code*16+v/\x.code*16+v<=223)/\(x.digits+1=3->220<=(x.code*16+v)/16/\(x.code*16+v)/16<=223)/\(x.digits+1=4->56320<=x.code*16+v/\x.code*16+v<=57343)):=by
    refine⟨λo=>⟨λn=>?_,λn=>?_,λn=>?_⟩,λo=>⟨λn=>?_,λn=>?_,λn=>?_,λn=>?_⟩⟩
    .have:=l3 o (by omega);have q:x.code<16^1:=by rw[show x.digits=1 by omega]at k;exact k
     by_cases A:x.code=13
     .have:=this A;omega
     .omega
    .have:=(X o).1 (by omega);omega
    .have:=(X o).2 (by omega);omega
    .have q:x.code<16^0:=by rw[show x.digits=0 by omega]at k;exact k
     have:=l1 o (by omega);omega
    .have:=(y o).1 (by omega);have:=l2 o (by omega);omega
    .have:=(y o).2.1 (by omega);omega
    .have:=(y o).2.2 (by omega);omega
   by_cases A:x.digits+1=4
   .rw[if_pos A];have P:x.code*16+v<65536:=by rw[A]at m;exact m
    unfold Lx.F5;simp only[]
    by_cases w:x.high≠0
    .rw[if_pos w];have E:=(j.2 w).2.2.2 A;have C:55296<=x.high/\x.high<=56319:=by omega
     refine jP rfl g (by simp;omega) (by have:=d.start;simp;omega) f ?_ rfl ?_
     .obtain⟨R,B⟩:∃R,aS (65536+(x.high-55296)*1024+(x.code*16+v)-56320)=R:=⟨_,rfl⟩;have:=(fQ (65536+(x.high-55296)*1024+(x.code*16+v)-56320)).2.1;rw[B]at this⊢;rw[bj]
      show _<=x.place+1
      omega
     .show aP [] (x.says++_)=J x.held
      have q:fK (65536+(x.high-55296)*1024+(x.code*16+v)-56320):=S (by omega);have n:=mY q;obtain⟨R,B⟩:∃R,aS (65536+(x.high-55296)*1024+(x.code*16+v)-56320)=R:=⟨_,rfl⟩;rw[B]at n⊢;rw[fZ,h,i];exact n
    .rw[if_neg w];have C:x.high=0:=by omega
     have E:=(j.1 C).2.2 A
     by_cases T:55296<=x.code*16+v/\x.code*16+v<=56319
     .rw[if_pos T];exact wD (V rfl) g (by simp;omega) (by have:=d.start;simp;omega) f (by simp;omega) T h i
     .rw[if_neg T];refine jP rfl g (by simp;omega) (by have:=d.start;simp;omega) f ?_ C ?_
      .have:=(fQ (x.code*16+v)).2.2 P;simp;omega
      .show aP [] (x.says++_)=J x.held
       have q:fK (x.code*16+v):=by unfold fK;omega
       have n:=mY q;obtain⟨R,B⟩:∃R,aS (x.code*16+v)=R:=⟨_,rfl⟩;rw[B]at n⊢;rw[fZ,h,i];exact n
   .rw[if_neg A];refine pQ a g (by simp;omega) (by have:=d.start;simp;omega) f (by simp;omega) F ?_ h i;refine⟨m,by simp;omega,λo=>⟨(j.1 o).1,(j.1 o).2.1⟩,λo=>⟨(j.2 o).1,(j.2 o).2.1,(j.2 o).2.2.1⟩⟩
theorem zQ{x:Lx}(h:x.Fine)(c:UInt8):((x.B0 c).2.2.1=0->(x.B0 c).1.Fine)/\∀t∈(x.B0 c).2.1,o7 t:=by
 unfold Lx.B0
 by_cases b:x.place=16777216
 .rw[if_pos b];exact⟨λh=>by simp at h,λt f=>by simp at f⟩
 rw[if_neg b];simp only[];obtain⟨e,d⟩:=aGC h (by have:=h.place;omega) c
 by_cases a:(x.B4 c).no=0
 .rw[if_pos a];exact⟨λ_=>e a,d⟩
 .rw[if_neg a];exact⟨λh=>absurd h a,d⟩
theorem wE{x:Lx}:∀t∈x.C6.2.1,o7 t:=by
 unfold Lx.C6;split
 .intro t a;simp at a
 .split
  .intro t a;simp at a
  .unfold az;cases b:bitsOf x.raw with
   | none=>intro t a;simp at a
   | some v=>intro t a;simp at a;subst a;exact lR b
structure pU where
 c:UInt8
 sg:List UInt8
 X:List UInt8
def pU.Ok(x:pU):Prop:=(x.c=101\/x.c=69)/\(x.sg= []\/x.sg= [43]\/x.sg= [45])/\x.X≠ []/\∀d∈x.X,isD d=I
def pL:Option (List UInt8)->List UInt8
 | none=> []
 | some F=>46::F
def eL:Option pU->List UInt8
 | none=> []
 | some x=>x.c::(x.sg++x.X)
structure aKa(l W:List UInt8)(P:Option (List UInt8))(E:Option pU):Prop where
 is:l=W++(pL P++eL E)
 ne:W≠ []
 dig:∀d∈W,isD d=I
 lead:W= [48]\/∀t,W≠48::t
 pt:∀F,P=J F->F≠ []/\∀d∈F,isD d=I
 ex:∀x,E=J x->x.Ok
def aCu(l:List UInt8)(neg:Bool)(W:List UInt8)(P:Option (List UInt8))(E:Option pU):Prop:=∃u,l=(if neg then 45::u else u)/\aKa u W P E
def oV:Option pU->Int
 | none=>0
 | some x=>if x.sg= [45]then -(fE x.X:Int)else fE x.X
def jU(neg:Bool)(W:List UInt8)(P:Option (List UInt8))(E:Option pU):Dml:=bZ neg (W++P.getD []) (oV E-(P.getD []).length)
theorem pV(l:List UInt8):l.take (over l)=l.takeWhile isD/\l.drop (over l)=l.dropWhile isD:=by
 unfold over;have e:=List.takeWhile_append_dropWhile (p:=isD) (l:=l);constructor
 .conv=>lhs;arg 2;rw[<-e]
  exact List.take_left
 .conv=>lhs;arg 2;rw[<-e]
  exact List.drop_left
theorem wQ{l:List UInt8}(h:cF l=I):l.takeWhile isD≠ []:=by
 cases l with
 | nil=>cases h
 | cons c t=>
  have h:isD c=I:=h;rw[ae,if_pos h];exact List.cons_ne_nil _ _
theorem sW(l:List UInt8):∀c∈l.takeWhile isD,isD c=I:=by
 induction l with
 | nil=>intro c h;cases h
 | cons x l a=>
  intro c h;rw[ae]at h;split at h
  .rename_i b;rcases ba.1 h with rfl|h
   .exact b
   .exact a c h
  .cases h
theorem aEc(t:List UInt8):t.take (iT t)= []\/t.take (iT t)= [43]\/t.take (iT t)= [45]:=by
 cases t with
 | nil=>exact V rfl
 | cons d t=>
  unfold iT;simp only
  by_cases h:d=43\/d=45
  .rw[if_pos h];rcases h with rfl|rfl
   .exact S (V rfl)
   .exact S (S rfl)
  .rw[if_neg h];exact V rfl
theorem wR(n m:Nat)(l:List UInt8)(h:kU n l=(m,I)):n<=m/\∃E,l.take (m-n)=eL E/\∀x,E=J x->x.Ok:=by
 cases l with
 | nil=>
  unfold kU at h;simp only[ag,and_true]at h;subst h;exact⟨ar _,O,by simp[eL],λx e=>by cases e⟩
 | cons c t=>
  unfold kU at h;simp only at h
  by_cases b:c=101\/c=69
  .rw[if_pos b]at h
   by_cases a:cF (t.drop (iT t))=I
   .rw[if_pos a]at h;simp only[ag,and_true]at h;refine⟨by omega,J ⟨c,t.take (iT t),(t.drop (iT t)).takeWhile isD⟩,?_,λx e=>?_⟩
    .rw[show m-n=(iT t+over (t.drop (iT t)))+1 by omega,ah,eL,au,(pV _).1]
    .cases e;exact⟨b,aEc t,wQ a,sW _⟩
   .rw[if_neg a]at h;simp at h
  .rw[if_neg b]at h;simp only[ag,and_true]at h;subst h;exact⟨ar _,O,by simp[eL],λx e=>by cases e⟩
theorem rO(n m:Nat)(l:List UInt8)(h:eF n l=(m,I)):n<=m/\∃P E,l.take (m-n)=pL P++eL E/\(∀F,P=J F->F≠ []/\∀d∈F,isD d=I)/\∀x,E=J x->x.Ok:=by
 cases l with
 | nil=>
  unfold eF at h;simp only[ag,and_true]at h;subst h;exact⟨ar _,O,O,by simp[pL,eL],(λF e=>by cases e),λx e=>by cases e⟩
 | cons c t=>
  unfold eF at h;simp only at h
  by_cases g:c=46
  .rw[if_pos g]at h
   by_cases a:cF t=I
   .rw[if_pos a]at h;obtain⟨i,E,b,f⟩:=wR _ _ _ h;refine⟨by omega,J (t.takeWhile isD),E,?_,(λF e=>by cases e;exact⟨wQ a,sW _⟩),f⟩;rw[show m-n=(over t+(m-(n+1+over t)))+1 by omega,ah,au,b,(pV _).1,g];rfl
   .rw[if_neg a]at h;simp at h
  .rw[if_neg g]at h;obtain⟨i,E,b,f⟩:=wR _ _ _ h;exact⟨i,O,E,by rw[b];rfl,(λF e=>by cases e),f⟩
theorem rP(n m:Nat)(l:List UInt8)(h:eT n l=(m,I)):n<m/\∃W P E,aKa (l.take (m-n)) W P E:=by
 cases l with
 | nil=>unfold eT at h;simp at h
 | cons c t=>
  unfold eT at h;simp only at h
  by_cases a:isD c=I
  .rw[if_pos a]at h
   by_cases b:c=48
   .rw[if_pos b]at h;obtain⟨j,P,E,f,i,g⟩:=rO _ _ _ h;refine⟨by omega,[48],P,E,?_,by simp,(λd e=>by rw[bc.1 e];rfl),V rfl,i,g⟩;rw[show m-n=(m-(n+1))+1 by omega,ah,f,b];rfl
   .rw[if_neg b]at h;obtain⟨j,P,E,f,i,g⟩:=rO _ _ _ h;have k:0<over (c::t):=by unfold over;rw[ae,if_pos a];simp
    refine⟨by omega,(c::t).takeWhile isD,P,E,?_,wQ (show cF (c::t)=I from a),sW _,S λu e=>?_,i,g⟩
    .rw[show m-n=over (c::t)+(m-(n+over (c::t))) by omega,au,f,(pV _).1]
    .rw[ae,if_pos a]at e;injection e with e _
     exact b e
  .rw[if_neg a]at h;simp at h
theorem aEd{l:List UInt8}{m:Nat}(h:fJ l=(m,I)):0<m/\∃neg W P E,aCu (l.take m) neg W P E:=by
 cases l with
 | nil=>unfold fJ at h;simp at h
 | cons c t=>
  unfold fJ at h;simp only at h
  by_cases b:c=45
  .rw[if_pos b]at h;obtain⟨d,W,P,E,a⟩:=rP _ _ _ h;refine⟨by omega,I,W,P,E,t.take (m-1),?_,a⟩;rw[if_pos rfl,show m=(m-1)+1 by omega,ah,b];rfl
  .rw[if_neg b]at h;obtain⟨d,W,P,E,a⟩:=rP _ _ _ h;exact⟨d,N,W,P,E,_,rfl,a⟩
theorem jV{W r:List UInt8}(a:∀d∈W,isD d=I)(b:cF r=N):(W++r).takeWhile isD=W/\(W++r).dropWhile isD=r:=by
 rw[List.takeWhile_append_of_pos a,List.dropWhile_append_of_pos a];cases r with
 | nil=>simp
 | cons c t=>
  have:isD c=N:=b;rw[ae,List.dropWhile_cons,this];simp
theorem aEe{E:Option pU}(h:∀x,E=J x->x.Ok):cF (eL E)=N:=by
 cases E with
 | none=>rfl
 | some x=>
  show isD x.c=N
  rcases(h x rfl).1 with e|e<;>rw[e]<;>rfl
theorem aIW{P:Option (List UInt8)}{E:Option pU}(h:∀x,E=J x->x.Ok):cF (pL P++eL E)=N:=by
 cases P with
 | none=>exact aEe h
 | some F=>rfl
theorem wS{a X:List UInt8}(e:a= []\/a= [43]\/a= [45])(f:X≠ [])(b:∀d∈X,isD d=I):bY (a++X)=(decide (a= [45]),X):=by
 rcases e with rfl|rfl|rfl
 .cases X with
  | nil=>exact absurd rfl f
  | cons c t=>
   have g:isD c=I:=b c av
   show(if c=43\/c=45 then(c==45,t)else(N,c::t))=_
   rw[if_neg (by rintro(rfl|rfl)<;>revert g<;>decide)];rfl
 .rfl
 .rfl
theorem o9{neg:Bool}{W F:List UInt8}{E:Option pU}(h:∀x,E=J x->x.Ok):∃f,cT neg W F (eL E)=J f/\f.neg=neg/\f.whole=W/\f.behind=F/\(if f.under then -(fE f.exp:Int)else fE f.exp)=oV E:=by
 cases E with
 | none=>exact⟨_,rfl,rfl,rfl,rfl,rfl⟩
 | some x=>
  obtain⟨d,c,b,a⟩:=h x rfl;have e:bY (x.sg++x.X)=(decide (x.sg= [45]),x.X):=wS c b a;have w:=jV (W:=x.X) (r:= []) a rfl;rw[List.append_nil]at w;refine⟨⟨neg,W,F,decide (x.sg= [45]),x.X⟩,?_,rfl,rfl,rfl,?_⟩
  .show(if x.c=101\/x.c=69 then(if(bY (x.sg++x.X)).2.takeWhile isD= []\/(bY (x.sg++x.X)).2.dropWhile isD≠ []then O else J (Lit.mk neg W F (bY (x.sg++x.X)).1 ((bY (x.sg++x.X)).2.takeWhile isD)))else O)=_
   rw[if_pos d,e];simp only[w.1,w.2];rw[if_neg (by simp[b])]
  .show(if decide (x.sg= [45])=I then _ else _)=(if x.sg= [45]then _ else _)
   simp only[decide_eq_true_eq]
theorem uE{neg:Bool}{W r:List UInt8}(j:W≠ [])(f:∀d∈W,isD d=I)(g:W= [48]\/∀t,W≠48::t)(h:cF r=N):cN neg (W++r)=bC neg W r:=by
 have a:=jV f h;cases W with
 | nil=>exact absurd rfl j
 | cons c t=>
  have i:isD c=I:=f c av
  show(if isD c then(if c=48 then bC neg [48] (t++r)else bC neg (((c::t)++r).takeWhile isD) (((c::t)++r).dropWhile isD))else O)=_
  rw[if_pos i]
  by_cases b:c=48
  .rw[if_pos b];subst b;rcases g with e|e
   .injection e with _ e
    subst e;rfl
   .exact absurd rfl (e t)
  .rw[if_neg b,a.1,a.2]
theorem aIX{l W:List UInt8}{neg:Bool}{P:Option (List UInt8)}{E:Option pU}(h:aCu l neg W P E):∃B,bG l=J B/\cU B=jU neg W P E:=by
 obtain⟨u,w,a⟩:=h;have q:=aIW (P:=P) a.ex
 have p:∃B,bC neg W (pL P++eL E)=J B/\cU B=jU neg W P E:=by
  cases z:P with
  | none=>
   obtain⟨B,g,i,b,n,o⟩:=o9 (neg:=neg) (W:=W) (F:= []) a.ex;refine⟨B,?_,?_⟩
   .rw[<-g]
    show bC neg W (eL E)=_
    cases v:E with
    | none=>rfl
    | some x=>
     show(if x.c=46 then _ else cT neg W [] (eL (J x)))=_
     rw[if_neg (by rcases(a.ex x v).1 with e|e<;>rw[e]<;>decide)]
   .unfold cU jU;rw[i,b,n,o];rfl
  | some F=>
   obtain⟨s,y⟩:=a.pt F z;have k:=jV y (aEe a.ex);obtain⟨B,g,i,b,n,o⟩:=o9 (neg:=neg) (W:=W) (F:=F) a.ex;refine⟨B,?_,?_⟩
   .rw[<-g]
    show(if(46:UInt8)=46 then(if(F++eL E).takeWhile isD= []then O else cT neg W ((F++eL E).takeWhile isD) ((F++eL E).dropWhile isD))else cT neg W [] (46::(F++eL E)))=_
    rw[if_pos rfl,k.1,k.2,if_neg s]
   .unfold cU jU;rw[i,b,n,o];rfl
 have j:cN neg u=bC neg W (pL P++eL E):=by rw[a.is];exact uE a.ne a.dig a.lead q
 obtain⟨B,g,i⟩:=p;refine⟨B,?_,i⟩;rw[w];cases neg with
 | true=>
  show(if(45:UInt8)=45 then cN I u else cN N (45::u))=_
  rw[if_pos rfl,j,g]
 | false=>
  show bG u=_
  cases f:u with
  | nil=>rw[a.is]at f;have:=List.append_eq_nil_iff.1 f;exact absurd this.1 a.ne
  | cons c t=>
   show(if c=45 then cN I t else cN N (c::t))=_
   have A:c≠45:=by
    rintro rfl;have b:=a.is;rw[f]at b;cases m:W with
    | nil=>exact a.ne m
    | cons d r=>
     rw[m]at b;injection b with b _
     have:=a.dig d (by rw[m];exact av);rw[<-b]at this;revert this;decide
   rw[if_neg A,<-f,j,g]
theorem aIY{l W:List UInt8}{neg:Bool}{P:Option (List UInt8)}{E:Option pU}(h:aCu l neg W P E):bitsOf l=cD (jU neg W P E):=by
 obtain⟨c,b,a⟩:=aIX h;unfold bitsOf;rw[b,<-a];rfl
def s6(o:Option Nat)(e:Ending):Prop:=match o with
 | some v=>e=Y (G U (v:Int))
 | none=>e=Y (G U (-1))
theorem oU(c:UInt8)(w:ai):Calls prog 202 #[G aj ((c.toNat:Nat):Int)] w λe w'=>s6 (hexOf c) e/\w'=w:=by
 obtain⟨n,k⟩:∃n,c.toNat=n:=⟨_,rfl⟩;have p:hexOf c=if 48<=n/\n<=57 then J (n-48)else if 97<=n/\n<=102 then J (n-87)else if 65<=n/\n<=70 then J (n-55)else O:=by unfold hexOf;rw[k]
 have q:n<256:=by rw[<-k];exact c.toNat_lt
 rw[k,p];clear k p;have r:(n<48)\/(48<=n/\n<=57)\/(57<n/\n<65)\/(65<=n/\n<=70)\/(70<n/\n<97)\/(97<=n/\n<=102)\/(102<n):=by omega
 rcases r with h|h|h|h|h|h|h
 .rw[if_neg (by omega),if_neg (by omega),if_neg (by omega)];have b:¬(48:Int)<=(n:Int):=by omega
  have a:¬(97:Int)<=(n:Int):=by omega
  have f:¬(65:Int)<=(n:Int):=by omega
  clear h;go_enter D,Q;go_wp2;go_ret;exact⟨rfl,rfl⟩
 .rw[if_pos (by omega)];have b:(48:Int)<=(n:Int):=by omega
  have d:(n:Int)<=57:=by omega
  have a:¬(97:Int)<=(n:Int):=by omega
  have f:¬(65:Int)<=(n:Int):=by omega
  have o:aj.wrap ((n:Int)-48)=(n:Int)-48:=by rw[aw];omega
  have i:U.wrap ((n:Int)-48)=(n:Int)-48:=by rw[af];omega
  have j:M (((n-48:Nat):Int)=(n:Int)-48):=L (by omega);clear h;go_enter D,Q;go_wp2;go_ret;exact⟨by show Y _=Y _;rw[j.o];rfl,rfl⟩
 .rw[if_neg (by omega),if_neg (by omega),if_neg (by omega)];have b:(48:Int)<=(n:Int):=by omega
  have d:¬(n:Int)<=57:=by omega
  have a:¬(97:Int)<=(n:Int):=by omega
  have f:¬(65:Int)<=(n:Int):=by omega
  clear h;go_enter D,Q;go_wp2;go_ret;exact⟨rfl,rfl⟩
 .rw[if_neg (by omega),if_neg (by omega),if_pos (by omega)];have b:(48:Int)<=(n:Int):=by omega
  have d:¬(n:Int)<=57:=by omega
  have a:¬(97:Int)<=(n:Int):=by omega
  have f:(65:Int)<=(n:Int):=by omega
  have g:(n:Int)<=70:=by omega
  have o:aj.wrap ((n:Int)-65)=(n:Int)-65:=by rw[aw];omega
  have i:U.wrap ((n:Int)-65)=(n:Int)-65:=by rw[af];omega
  have l:U.wrap ((n:Int)-65+10)=(n:Int)-65+10:=by rw[af];omega
  have j:M (((n-55:Nat):Int)=(n:Int)-65+10):=L (by omega);clear h;go_enter D,Q;go_wp2;go_ret;exact⟨by show Y _=Y _;rw[j.o];rfl,rfl⟩
 .rw[if_neg (by omega),if_neg (by omega),if_neg (by omega)];have b:(48:Int)<=(n:Int):=by omega
  have d:¬(n:Int)<=57:=by omega
  have a:¬(97:Int)<=(n:Int):=by omega
  have f:(65:Int)<=(n:Int):=by omega
  have g:¬(n:Int)<=70:=by omega
  clear h;go_enter D,Q;go_wp2;go_ret;exact⟨rfl,rfl⟩
 .rw[if_neg (by omega),if_pos (by omega)];have b:(48:Int)<=(n:Int):=by omega
  have d:¬(n:Int)<=57:=by omega
  have a:(97:Int)<=(n:Int):=by omega
  have m:(n:Int)<=102:=by omega
  have g:¬(n:Int)<=70:=by omega
  have o:aj.wrap ((n:Int)-97)=(n:Int)-97:=by rw[aw];omega
  have i:U.wrap ((n:Int)-97)=(n:Int)-97:=by rw[af];omega
  have l:U.wrap ((n:Int)-97+10)=(n:Int)-97+10:=by rw[af];omega
  have j:M (((n-87:Nat):Int)=(n:Int)-97+10):=L (by omega);clear h;go_enter D,Q;go_wp2;go_ret;exact⟨by show Y _=Y _;rw[j.o];rfl,rfl⟩
 .rw[if_neg (by omega),if_neg (by omega),if_neg (by omega)];have b:(48:Int)<=(n:Int):=by omega
  have d:¬(n:Int)<=57:=by omega
  have a:(97:Int)<=(n:Int):=by omega
  have m:¬(n:Int)<=102:=by omega
  have f:(65:Int)<=(n:Int):=by omega
  have g:¬(n:Int)<=70:=by omega
  clear h;go_enter D,Q;go_wp2;go_ret;exact⟨rfl,rfl⟩
theorem lN{n:Nat}{k:Int}(h:¬(n:Int)=k):¬((n:Int)=k)/\((n:Int)==k)=N/\((n:Int)!=k)=I:=⟨h,by simpa using h,by simpa using h⟩
def eC(high digits code v:Nat):Bool:=
 if high≠0/\digits=0 then v≠13 else if high≠0/\digits=1 then v<12 else high=0&&digits=1&&code=13&&12<=v
theorem aHa{w:ai}{b:Nat}{l k i g m n j o c f e d a p:Value}{T:TypeId}(h:w.heap[b]?=J (.cells #[l,k,i,g,m,n,j,o,c,f,e,d,a,p] T (0,0))):
 w.cell? ⟨b,8,O⟩=J c/\w.cell? ⟨b,9,O⟩=J f/\w.cell? ⟨b,10,O⟩=J e/\w.cell? ⟨b,11,O⟩=J d/\w.cell? ⟨b,12,O⟩=J a:=⟨aA h,aA h,aA h,aA h,aA h⟩
theorem xE(w:ai)(b dg a hi v:Nat)(y r t m u p o s z q x:Value)(h:w.heap[b]?=J (.cells #[y,r,t,m,u,p,o,s,z,q,G .i64 dg,G U a,G U hi,x] 228 (0,0))):
 Calls prog 203 #[.pointer (J ⟨b,8,O⟩),G U v] w λe w'=>e=Y (.bool (eC hi dg a v))/\w'=w:=by
 obtain⟨-,-,R,T,C⟩:=aHa h;clear h
 by_cases c:hi=0
 .subst c
  by_cases f:dg=1
  .subst f
   by_cases d:a=13
   .subst d
    by_cases g:12<=v
    .have j:(12:Int)<=(v:Int):=by omega
     rw[show eC 0 1 13 v=I by simp[eC,g]];go_enter Z,K;go_wp2_with fail;go_ret;exact⟨rfl,rfl⟩
    .have j:¬(12:Int)<=(v:Int):=by omega
     rw[show eC 0 1 13 v=N by simp[eC,g]];go_enter Z,K;go_wp2_with fail;go_ret;exact⟨rfl,rfl⟩
   .obtain⟨-,l,-⟩:=lN (n:=a) (k:=13) (by omega);rw[show eC 0 1 a v=N by simp[eC,d]];clear d;go_enter Z,K;go_wp2_with fail;go_ret;exact⟨rfl,rfl⟩
  .obtain⟨-,l,-⟩:=lN (n:=dg) (k:=1) (by omega);rw[show eC 0 dg a v=N by simp[eC,f]];clear f;go_enter Z,K;go_wp2_with fail;go_ret;exact⟨rfl,rfl⟩
 .obtain⟨-,B,E⟩:=lN (n:=hi) (k:=0) (by omega)
  by_cases f:dg=0
  .subst f
   by_cases d:v=13
   .subst d;rw[show eC hi 0 a 13=N by simp[eC,c]];clear c;go_enter Z,K;go_wp2_with fail;go_ret;exact⟨rfl,rfl⟩
   .obtain⟨-,-,F⟩:=lN (n:=v) (k:=13) (by omega);rw[show eC hi 0 a v=I by simp[eC,c,d]];clear c d;go_enter Z,K;go_wp2_with fail;go_ret;exact⟨rfl,rfl⟩
  .obtain⟨A,W,P⟩:=lN (n:=dg) (k:=0) (by omega)
   by_cases i:dg=1
   .subst i
    by_cases g:v<12
    .have j:(v:Int)<12:=by omega
     rw[show eC hi 1 a v=I by simp[eC,c,g]];clear c;go_enter Z,K;go_wp2_with fail;go_ret;exact⟨rfl,rfl⟩
    .have j:¬(v:Int)<12:=by omega
     rw[show eC hi 1 a v=N by simp[eC,c,g]];clear c;go_enter Z,K;go_wp2_with fail;go_ret;exact⟨rfl,rfl⟩
   .obtain⟨-,l,-⟩:=lN (n:=dg) (k:=1) (by omega);rw[show eC hi dg a v=N by simp[eC,c,f,i]];clear c f i;go_enter Z,K;go_wp2_with fail;go_ret;exact⟨rfl,rfl⟩
theorem yM(r:Nat)(b:fK r)(w:ai):Calls prog 242 #[G U r] w λe w'=>e=Y (.bool I)/\w'=w:=by
 have c:(0:Int)<=(r:Int):=by omega
 rcases b with h|⟨g,d⟩
 .have a:(r:Int)<55296:=by omega
  go_enter func242,ntmps242;go_wp2_with fail;go_ret;exact⟨rfl,rfl⟩
 .have a:¬(r:Int)<55296:=by omega
  have i:(57343:Int)<(r:Int):=by omega
  have f:(r:Int)<=1114111:=by omega
  go_enter func242,ntmps242;go_wp2_with fail;go_ret;exact⟨rfl,rfl⟩
theorem aCU{r:Nat}(d:fK r):(bk (r:Int))=⟨(aS r).toArray⟩:=by
 have b:bm (r:Int)=I:=by
  unfold bm;rcases d with h|⟨f,e⟩
  .have a:(r:Int)<0xD800:=by omega
   simp[a]
  .have a:(0xE000:Int)<=(r:Int):=by omega
   have c:(r:Int)<=0x10FFFF:=by omega
   simp[a,c]
 unfold bk aS;simp only[b,if_true,Int.toNat_natCast];split
 .rfl
 .split
  .rfl
  .split
   .rfl
   .rfl
end Go.Proofs.YtakkmiomhackiaaGreatDoor
