/-
  The program, one part of its walk. Conditions: none.
-/
import Derived.Test.YtakkmiomhackiaaGreatDoorTd27
set_option linter.all false
set_option maxRecDepth 100000
set_option maxHeartbeats 16000000
open Go.Proofs.Tryz
open Bool renaming false->U,true->I
open Except renaming error->Y,map->W,ok->O
open Except.ok renaming injEq->ai
open Go.Proofs.YtakkmiomhackiaaGreatDoor.Fr renaming object->S
open Go.Proofs.YtakkmiomhackiaaGreatDoor.Lx renaming C0->H,C6->af,F0->ah,F3->ag
open Go.Proofs.YtakkmiomhackiaaGreatDoor.Ps renaming D3->ao,D4->K,E8->V,F4->ac,F7->ar
open Go.Proofs.YtakkmiomhackiaaGreatDoor.Tr renaming A7->G
open Go.Proofs.YtakkmiomhackiaaGreatDoor.eX renaming object->Z
open List renaming foldlM_cons->av,mem_append->au,mem_cons_of_mem->aj,mem_cons_self->ak
open Nat renaming le_refl->ae,zero_le->X
open Or renaming inl->J,inr->N
namespace Go.Proofs.YtakkmiomhackiaaGreatDoor
open Go.RowKit
def aII:Tok->Prop
 | .mark _ _=>True
 | _=>False
def aDX(q want:Nat):Tok->Prop
 | .mark _ _=>q=0
 | .str _ _ _=>q=1\/(q=0/\(want=2\/want=3))
 | _=>q=1
def iS(q want:Nat):List Tok->Prop
 | []=>True
 | t::a=>aDX q want t/\∀u∈a,aII u
theorem iS.S0{want:Nat}{l:List Tok}(h:∀u∈l,aII u):iS 0 want l:=by
 cases l with
 | nil=>trivial
 | cons t l=>
  refine⟨?_,λu e=>h u (aj _ e)⟩;have d:=h t (ak ..);cases t with
  | mark a s=>rfl
  | term a b c=>exact d.elim
  | num a b c=>exact d.elim
  | str a b c=>exact d.elim
theorem iS.L6{q want a:Nat}{t:Tok}{l:List Tok}(h:iS q want (t::l)):iS 0 a l:=.S0 h.2
theorem eX.T1{D want:Nat}{pile:List Fr}{items:List Tr}(h:eX D want pile items)(b:want=4):eX D 0 pile items:=by
 cases h with
 | new=>exact .new
 | done t a=>omega
 | list s _ h a b=>exact .list s 0 h a (J rfl)
 | object k s _ h a c=>exact Z k s 0 h a (N ⟨N rfl,by omega⟩)
theorem eX.T3{D want:Nat}{pile:List Fr}{items:List Tr}(h:eX D want pile items)(d:want=5):eX D (if iU pile=I then 3 else 0) pile items:=by
 cases h with
 | new=>omega
 | done t b=>omega
 | @list a c s _ h b d=>
  have:iU (a++ [.list s.length])=U:=by unfold iU;simp
  rw[this,if_neg (by decide)];exact .list s 0 h b (J rfl)
 | @object a c k s _ h b e=>
  have:iU (a++ [S k])=I:=by unfold iU;simp
  rw[this,if_pos rfl];exact Z k s 3 h b (J ⟨N (J rfl),by omega⟩)
theorem eX.L9{D want:Nat}{pile:List Fr}{items:List Tr}(h:eX D want pile items)(d:want=2\/want=3)(b:List UInt8):
 ∃a k,pile=a++ [S k]/\fO pile=k/\pile.dropLast=a/\eX D 4 (a++ [S (k++ [b])]) items:=by
 cases h with
 | new=>omega
 | done t c=>omega
 | list s _ h c d=>omega
 | @object a e k s _ h c f=>exact⟨a,k,rfl,by unfold fO;simp,by simp,Z (k++ [b]) s 4 h c (N ⟨J rfl,by simp;omega⟩)⟩
section
variable {x y:Ps} {q:Nat}
theorem rK(n:List UInt8):(jY n).A7=⟨1,0,1⟩:=by
 unfold jY;split
 .simp[G]
 .simp[G]
theorem cG.E8{t:Tok}(h:cG x q)(D:o7 t)(n:aDX q x.want t)(d:x.E8 po t=O y):cG y 0:=by
 cases t with
 | mark a s=>
  obtain rfl:q=0:=n;simp only[V]at d;unfold ao at d;split at d
  .cases i:x.D0 a with
   | error e=>rw[i]at d;cases d
   | ok z=>
    rw[i]at d;simp only[W]at d;cases d;exact(h.D0 i).1.M7 (.list 0) (J ⟨rfl,rfl⟩) rfl
  .split at d
   .cases i:x.D0 a with
    | error e=>rw[i]at d;cases d
    | ok z=>
     rw[i]at d;simp only[W]at d;cases d;exact(h.D0 i).1.M7 (S []) (N ⟨rfl,rfl⟩) rfl
   .split at d
    .rename_i j;cases d;exact⟨h.depth,h.room,h.nodes,h.bytes,h.cnt,h.byt,h.stand.T1 j.2,h.keys,J rfl⟩
    .split at d
     .rename_i j;cases d;exact⟨h.depth,h.room,h.nodes,h.bytes,h.cnt,h.byt,h.stand.T3 j.2,h.keys,J rfl⟩
     .split at d
      .rename_i j;cases d;exact h.I7 j
      .cases d
 | term a b c=>
  obtain rfl:q=1:=n;simp only[V]at d;cases d;have g:=h.G0 (t:=jY c) (b:=0) (rK c) (by have:=h.byt;omega);unfold Ps.G0;rw[g.1];exact g.2
 | num a b c=>
  obtain rfl:q=1:=n;simp only[V]at d;cases d;have g:=h.G0 (t:=.num (dY c)) (b:=0) (by simp[G]) (by have:=h.byt;omega);unfold iO;rw[g.1];exact g.2
 | str a b c=>
  simp only[V]at d;unfold ar at d;rcases n with rfl|⟨rfl,R⟩
  .have o:=h.pend;rw[if_pos (by omega)]at d;unfold ac at d;split at d
   .cases d
   .rename_i C;simp only[W]at d;cases d;have p:cG {x with bytes:=x.bytes+c.length} 1:=⟨h.depth,h.room,h.nodes,by show x.bytes+c.length<=2097152;omega,h.cnt,by have:=h.byt;show jA x.items+fU x.pile<=x.bytes+c.length;omega,h.stand,h.keys,h.pend⟩;have g:=p.G0 (t:=.text c) (b:=c.length) (by simp[G]) (by have:=h.byt;show _<=x.bytes+c.length;show jA x.items+c.length+fU x.pile<=_;omega);have B:gC x.items c=x.items++ [.text c]:=by unfold gC;rw[if_pos D.1];exact g.1
    rw[B];exact g.2
  .rw[if_neg (by omega)]at d;split at d
   .cases d
   .rename_i m;obtain⟨l,k,o,w,A,r⟩:=h.stand.L9 R c;rw[w]at d m;rw[A]at d;unfold ac at d;simp only at d;split at d
    .cases d
    .rename_i C;simp only[W]at d;cases d;have j:=h.cnt;have F:=h.room;have E:=h.byt;rw[o]at j F E;rw[dV,kK]at E;refine⟨h.depth,?_,h.nodes,by show x.bytes+c.length<=2097152;omega,?_,?_,r,?_,J rfl⟩
     .simpa using F
     .simpa using j
     .show jA x.items+fU (l++ [S (k++ [c])])<=x.bytes+c.length
      rw[dV,kK];have e1:frB (S (k++ [c]))=bA k+c.length:=qX k c;have e2:frB (S k)=bA k:=rfl;omega
     .intro P f;have f:S P∈l++ [S (k++ [c])]:=f;rcases au.1 f with f|f
      .exact h.keys P (by rw[o];exact List.mem_append_left _ f)
      .simp at f;subst f;obtain⟨Q,p⟩:=h.keys k (by rw[o];simp);refine⟨?_,λs g=>?_⟩
       .rw[List.nodup_append];exact⟨Q,by simp,λu T v i=>by simp at i;subst i;exact λe=>m (e▸T)⟩
       .rcases au.1 g with g|g
        .exact p s g
        .simp at g;subst g;exact D.1
theorem eO(t:Tok)(toks:List Tok):x.D4 po (t::toks)=(x.E8 po t).bind λz=>z.D4 po toks:=by
 unfold K;rw[av];cases x.E8 po t<;>rfl
theorem sP{toks:List Tok}:∀{x y:Ps}{q:Nat},cG x q->(∀t∈toks,o7 t)->iS q x.want toks->x.D4 po toks=O y->cG y (if toks= []then q else 0)/\(toks= []->y=x):=by
 induction toks with
 | nil=>intro x y q b _ _ h;cases h;exact⟨b,λ_=>rfl⟩
 | cons t toks f=>
  intro x y q b d c h;rw[eO]at h;cases a:x.E8 po t with
  | error e=>rw[a]at h;cases h
  | ok z=>
   rw[a]at h;have i:=b.E8 (d t (ak ..)) c.1 a;have g:=f i (λt h=>d t (aj _ h)) c.L6 h;rw[if_neg (by simp)];exact⟨by simpa using g.1,λe=>by simp at e⟩
end
def aCi:Tok->Prop
 | .term _ _ _=>True
 | .num _ _ _=>True
 | _=>False
def rL(x:Lx)(toks:List Tok):Prop:=
 (x.isIn=U/\∀u∈toks,aII u)\/
 (x.isIn=I/\∃t b,toks=t::b/\(∀u∈b,aII u)/\((dF x.st=I/\∃a n s,t=.str a n s)\/(dF x.st=U/\aCi t)))
def aFx:Tok->Nat
 | .mark a _=>a
 | .term a _ _=>a
 | .num a _ _=>a
 | .str a _ _=>a
theorem o8(x:Lx)(c:UInt8)(d:x.isIn=U):(∀u∈(aO x c).toks,aII u/\aFx u<=x.place)/\
 ((aO x c).lx.isIn=I->(aO x c).lx.start=x.place/\(c=34->(aO x c).no=0->dF (aO x c).lx.st=I))/\((aO x c).no≠0->(aO x c).no≠41):=by
 unfold aO;split
 .exact⟨λu a=>by simp at a,λh=>by simp[d]at h,λh=>absurd rfl h⟩
 .simp only[];split
  .refine⟨λu a=>?_,λh=>by simp[ag]at h,λh=>absurd rfl h⟩;simp at a;subst a;exact⟨trivial,ae _⟩
  .split
   .exact⟨λu a=>by simp at a,λ_=>⟨rfl,λ_ _=>rfl⟩,λh=>absurd rfl h⟩
   .rename_i b;split
    .unfold kO;split
     .exact⟨λu a=>by simp at a,λ_=>⟨rfl,λh=>absurd h b⟩,λh=>absurd rfl h⟩
     .exact⟨λu a=>by simp at a,λ_=>⟨rfl,λh=>absurd h b⟩,λ_=>(show(94:Nat)≠41 by decide)⟩
    .split
     .exact⟨λu a=>by simp at a,λ_=>⟨rfl,λh=>absurd h b⟩,λh=>absurd rfl h⟩
     .exact⟨λu a=>by simp at a,λ_=>⟨rfl,λh=>absurd h b⟩,λ_=>(show(94:Nat)≠41 by decide)⟩
def sQ(x:Lx)(c:UInt8)(r:mW):Prop:=
 ((x.isIn=I/\r.toks= []/\(r.no=0->r.lx.isIn=I/\r.lx.start=x.start/\(dF x.st=I->dF r.lx.st=I)))\/
  (rL x r.toks/\(r.no=0->r.lx.isIn=I->r.lx.start=x.place/\(c=34->dF r.lx.st=I))))/\(∀t∈r.toks,aFx t<=x.place)/\(r.no=41->r.lx.start<=x.place)
theorem sQ.G9{x y:Lx}{c:UInt8}{no:Nat}(a:x.isIn=I)(g:x.start<=x.place)(d:y.isIn=I)(b:y.start=x.start)(f:dF x.st=I->dF y.st=I):sQ x c ⟨y,[],no⟩:=
 ⟨J ⟨a,rfl,λ_=>⟨d,b,f⟩⟩,λt e=>by simp at e,λ_=>by show y.start<=_;omega⟩
theorem aDY{x:Lx}(p:x.Fine)(c:UInt8):sQ x c (x.B4 c):=by
 have b:=p.start;have g:=p.isIn;unfold Lx.B4;cases d:x.st with
 | outside=>
  have a:x.isIn=U:=by rw[g,d];rfl
  obtain⟨m,l,n⟩:=o8 x c a;exact⟨N ⟨J ⟨a,λu i=>(m u i).1⟩,λf hi=>⟨(l hi).1,λo=>(l hi).2 o f⟩⟩,λt e=>(m t e).2,λf=>absurd f (n (by rw[f];decide))⟩
 | letter=>
  have a:x.isIn=I:=by rw[g,d];rfl
  have j:dF x.st=U:=by rw[d];rfl
  have k:¬dF x.st=I:=by rw[j];decide
  simp only[cJ];split
  .split
   .refine⟨N ⟨N ⟨a,_,[],rfl,λu i=>by simp at i,N ⟨j,trivial⟩⟩,λ_ h=>by simp[ag]at h⟩,λt e=>?_,λh=>by simp at h⟩;simp at e;subst e;exact b
   .exact .G9 a b a rfl (λh=>absurd h k)
  .exact .G9 a b a rfl (λh=>absurd h k)
 | numeral=>
  have a:x.isIn=I:=by rw[g,d];rfl
  have j:dF x.st=U:=by rw[d];rfl
  have k:¬dF x.st=I:=by rw[j];decide
  simp only[bV];cases q:aQ x.number c with
  | some s=>exact .G9 a b a rfl (λh=>absurd h k)
  | none=>
   simp only[];split
   .unfold H;cases r:bitsOf x.raw with
    | none=>exact .G9 a b a rfl (λh=>absurd h k)
    | some v=>
     simp only[Option.map_some];obtain⟨m,l,n⟩:=o8 x.F3 c rfl;refine⟨N ⟨N ⟨a,_,_,rfl,λu i=>(m u i).1,N ⟨j,trivial⟩⟩,λf hi=>⟨(l hi).1,λo=>(l hi).2 o f⟩⟩,λt e=>?_,λf=>absurd f (n (by rw[f];decide))⟩;rcases List.mem_cons.1 e with rfl|e
     .exact b
     .exact(m t e).2
   .exact .G9 a b a rfl (λh=>absurd h k)
 | within=>
  have a:x.isIn=I:=by rw[g,d];rfl
  have j:dF x.st=I:=by rw[d];rfl
  simp only[bW];split
  .refine⟨N ⟨N ⟨a,_,[],rfl,λu i=>by simp at i,J ⟨j,_,_,_,rfl⟩⟩,λ_ h=>by simp[ag]at h⟩,λt e=>?_,λh=>by simp at h⟩;simp at e;subst e;exact b
  .split
   .exact .G9 a b a rfl (λ_=>rfl)
   .split
    .exact .G9 a b a rfl id
    .split
     .exact .G9 a b a rfl id
     .exact .G9 a b a rfl id
 | escape=>
  have a:x.isIn=I:=by rw[g,d];rfl
  simp only[dK];split
  .exact .G9 a b a rfl (λ_=>rfl)
  .split
   .exact .G9 a b a rfl id
   .exact .G9 a b a rfl (λ_=>rfl)
 | digit=>
  have a:x.isIn=I:=by rw[g,d];rfl
  simp only[dC];split
  .exact .G9 a b a rfl id
  .split
   .exact .G9 a b a rfl id
   .split
    .unfold Lx.F5;split
     .exact .G9 a b a rfl (λ_=>rfl)
     .split
      .exact .G9 a b a rfl (λ_=>rfl)
      .exact .G9 a b a rfl (λ_=>rfl)
    .exact .G9 a b a rfl id
 | slash=>
  have a:x.isIn=I:=by rw[g,d];rfl
  simp only[fA];split
  .exact .G9 a b a rfl (λ_=>rfl)
  .exact .G9 a b a rfl id
 | letterU=>
  have a:x.isIn=I:=by rw[g,d];rfl
  simp only[dO];split
  .exact .G9 a b a rfl (λ_=>rfl)
  .exact .G9 a b a rfl id
def aGE(x:Lx)(c:UInt8)(r:Lx×List Tok×Nat×Nat):Prop:=
 ((x.isIn=I/\r.2.1= []/\(r.2.2.1=0->r.1.isIn=I/\r.1.start=x.start/\(dF x.st=I->dF r.1.st=I)))\/
  (rL x r.2.1/\(r.2.2.1=0->r.1.isIn=I->r.1.start=x.place/\(c=34->dF r.1.st=I))))/\(∀t∈r.2.1,aFx t<=x.place)/\(r.2.2.1≠0->r.2.2.2<=x.place)/\(r.2.2.1=0->r.1.place=x.place+1)
theorem pR{x:Lx}(f:x.Fine)(c:UInt8):aGE x c (x.B0 c):=by
 unfold Lx.B0;split
 .refine⟨?_,λt i=>by simp at i,λ_=>ae _,λh=>by simp at h⟩;cases hi:x.isIn with
  | true=>exact J ⟨rfl,rfl,λh=>by simp at h⟩
  | false=>exact N ⟨J ⟨hi,λu g=>by simp at g⟩,λh=>by simp at h⟩
 .have h:=aDY f c;simp only[];split
  .rename_i b;refine⟨?_,h.2.1,λh=>absurd rfl h,λ_=>rfl⟩;rcases h.1 with⟨a,d,j⟩|⟨a,d⟩
   .exact J ⟨a,d,λ_=>j b⟩
   .exact N ⟨a,λ_=>d b⟩
  .rename_i b;refine⟨?_,h.2.1,λ_=>?_,λh=>absurd h b⟩
   .rcases h.1 with⟨a,d,-⟩|⟨a,-⟩
    .exact J ⟨a,d,λh=>absurd h b⟩
    .exact N ⟨a,λh=>absurd h b⟩
   .show(if _ then _ else _)<=_
    split
    .rename_i e;exact h.2.2 e
    .exact ae _
def bU(x:Ps):Nat:=if x.lex.isIn=I/\(x.want=0\/x.want=1)then 1 else 0
structure eY(x:Ps):Prop where
 ps:cG x (bU x)
 fine:x.lex.Fine
 tok:x.lex.isIn=I->x.lex.start<x.lex.place/\((x.want=0\/x.want=1)\/((x.want=2\/x.want=3)/\dF x.lex.st=I))
 place:x.place=x.lex.place
theorem cG.P4{x:Ps}{q:Nat}(h:cG x q)(l:Lx):cG {x with lex:=l} q:=⟨h.depth,h.room,h.nodes,h.bytes,h.cnt,h.byt,h.stand,h.keys,h.pend⟩
theorem eY.S1{x:Ps}(h:eY x){toks:List Tok}(j:rL x.lex toks):iS (bU x) x.want toks:=by
 rcases j with⟨hi,f⟩|⟨hi,t,i,rfl,f,k⟩
 .have:bU x=0:=by unfold bU;rw[if_neg (by rw[hi];simp)]
  rw[this];exact .S0 f
 .refine⟨?_,f⟩;have d:=(h.tok hi).2;rcases k with⟨-,a,n,s,rfl⟩|⟨m,g⟩
  .rcases d with d|⟨d,_⟩
   .exact J (by unfold bU;rw[if_pos ⟨hi,d⟩])
   .exact N ⟨by unfold bU;rw[if_neg (by omega)],d⟩
  .have e:x.want=0\/x.want=1:=by
    rcases d with d|⟨_,d⟩
    .exact d
    .rw[m]at d;cases d
   have l:bU x=1:=by unfold bU;rw[if_pos ⟨hi,e⟩]
   rw[l];cases t with
   | mark a s=>exact g.elim
   | term a b c=>rfl
   | num a b c=>rfl
   | str a b c=>exact g.elim
theorem aAO{x:Ps}(h:eY x)(c:UInt8):iS (bU x) x.want (x.lex.B0 c).2.1:=by
 rcases(pR h.fine c).1 with⟨_,a,_⟩|⟨a,_⟩
 .rw[a];trivial
 .exact h.S1 a
theorem iI{x y:Ps}{a:Nat}(h:x.D0 a=O y):y.lex=x.lex/\y.place=x.place/\y.want=x.want:=by
 unfold Ps.D0 at h
 repeat' (split at h)
 all_goals first|(cases h;exact⟨rfl,rfl,rfl⟩)|cases h
theorem tM{x y:Ps}{l:List UInt8}{a:Nat}(h:x.F4 l a=O y):y.lex=x.lex/\y.place=x.place:=by
 unfold ac at h;split at h
 .cases h
 .cases h;exact⟨rfl,rfl⟩
theorem aCj{x y:Ps}{t:Tok}(h:x.E8 po t=O y):y.lex=x.lex/\y.place=x.place:=by
 cases t with
 | mark a s=>
  simp only[V]at h;unfold ao at h;split at h
  .cases d:x.D0 a with
   | error e=>rw[d]at h;cases h
   | ok z=>rw[d]at h;simp only[W]at h;cases h;have f:=iI d;exact⟨f.1,f.2.1⟩
  .split at h
   .cases d:x.D0 a with
    | error e=>rw[d]at h;cases h
    | ok z=>rw[d]at h;simp only[W]at h;cases h;have f:=iI d;exact⟨f.1,f.2.1⟩
   .split at h
    .cases h;exact⟨rfl,rfl⟩
    .split at h
     .cases h;exact⟨rfl,rfl⟩
     .split at h
      .cases h;unfold Ps.C5;split<;>exact⟨rfl,rfl⟩
      .cases h
 | term a b c=>simp only[V]at h;cases h;exact⟨rfl,rfl⟩
 | num a b c=>simp only[V]at h;cases h;exact⟨rfl,rfl⟩
 | str a b c=>
  simp only[V]at h;unfold ar at h;split at h
  .cases d:x.F4 c a with
   | error e=>rw[d]at h;cases h
   | ok z=>rw[d]at h;simp only[W]at h;cases h;have f:=tM d;exact⟨f.1,f.2⟩
  .split at h
   .cases h
   .cases d:ac {x with pile:=x.pile.dropLast++ [S (fO x.pile++ [c])]} c a with
    | error e=>rw[d]at h;cases h
    | ok z=>rw[d]at h;simp only[W]at h;cases h;have f:=tM (x:={x with pile:=x.pile.dropLast++ [S (fO x.pile++ [c])]}) d;exact⟨f.1,f.2⟩
theorem lL{toks:List Tok}:∀{x y:Ps},x.D4 po toks=O y->y.lex=x.lex/\y.place=x.place:=by
 induction toks with
 | nil=>intro x y h;cases h;exact⟨rfl,rfl⟩
 | cons t toks d=>
  intro x y h;rw[eO]at h;cases a:x.E8 po t with
  | error e=>rw[a]at h;cases h
  | ok z=>
   rw[a]at h;have c:=d h;have b:=aCj a;exact⟨c.1.trans b.1,c.2.trans b.2⟩
def mS(c:UInt8)(r:Lx×List Tok×Nat×Nat)(d:Out):Out:=match d with
 | .error e=>Y e
 | .ok q=>if r.2.2.1≠0 then Y (nG r.2.2.1,r.2.2.2)else match(if r.1.F0=1 then q.E2 c else O q)with
  | .error e=>Y e
  | .ok q=>O {q with place:=q.place+1}
theorem eY.B0{x y:Ps}{c:UInt8}(a:eY x)(h:x.B0 po c=O y):eY y:=by
 have u:=pR a.fine c;have w:=zQ a.fine c;have m:x.B0 po c=mS c (x.lex.B0 c) (K po {x with lex:=(x.lex.B0 c).1} (x.lex.B0 c).2.1):=rfl;obtain⟨r,hr⟩:∃r,x.lex.B0 c=r:=⟨_,rfl⟩;rw[hr]at m u w;rw[m]at h;cases A:K po {x with lex:=r.1} r.2.1 with
 | error e=>rw[A]at h;cases h
 | ok z=>
  rw[A]at h;simp only[mS]at h
  by_cases l:r.2.2.1=0
  .rw[if_neg (λh=>h l)]at h;have d:=u.2.2.2 l;have j:=w.1 l;have C:=lL A;have f:z.lex=r.1:=C.1;have s:z.place=x.place:=C.2;rcases u.1 with⟨i,P,R⟩|⟨F,E⟩
   .obtain⟨g1,g2,g3⟩:=R l;obtain⟨hlt,hw⟩:=a.tok i;have D:r.1.F0≠1:=by unfold ah;rw[g1,if_pos rfl,d,g2];omega
    rw[if_neg D]at h;simp only[ai]at h;subst h;rw[P]at A;cases A;have k:bU {x with lex:=r.1,place:=x.place+1}=bU x:=by unfold bU;simp only[];rw[g1,i]
    refine⟨?_,j,λ_=>⟨by show r.1.start<r.1.place;rw[g2,d];omega,?_⟩,by show x.place+1=r.1.place;rw[d,a.place]⟩
    .show cG _ (bU {x with lex:=r.1,place:=x.place+1})
     rw[k];have p:=a.ps;exact⟨p.depth,p.room,p.nodes,p.bytes,p.cnt,p.byt,p.stand,p.keys,p.pend⟩
    .exact hw.imp id (λh=>⟨h.1,g3 h.2⟩)
   .have hps:cG {x with lex:=r.1} (bU x):=a.ps.P4 r.1;have hdr:=sP hps w.2 (a.S1 F) A
    have g:cG z 0:=by
     have Q:=hdr.1
     by_cases he:r.2.1= []
     .rw[if_pos he]at Q
      have T:bU x=0:=by
       rcases F with⟨hi,_⟩|⟨-,t,rest,e,_⟩
       .unfold bU;rw[if_neg (by rw[hi];simp)]
       .rw[he]at e;cases e
      rwa[T]at Q
     .rwa[if_neg he]at Q
    cases i:r.1.isIn with
    | false=>
     have D:r.1.F0≠1:=by unfold ah;rw[i];simp
     rw[if_neg D]at h;simp only[ai]at h;subst h;have k:bU {z with place:=z.place+1}=0:=by unfold bU;simp only[];rw[f,i];simp
     refine⟨?_,by show z.lex.Fine;rw[f];exact j,λh=>?_,by show z.place+1=z.lex.place;rw[f,s,d,a.place]⟩
     .show cG _ (bU {z with place:=z.place+1})
      rw[k];exact⟨g.depth,g.room,g.nodes,g.bytes,g.cnt,g.byt,g.stand,g.keys,g.pend⟩
     .have h:z.lex.isIn=I:=h;rw[f,i]at h;cases h
    | true=>
     obtain⟨b1,b2⟩:=E l i;have D:r.1.F0=1:=by unfold ah;rw[i,if_pos rfl,d,b1];omega
     rw[if_pos D]at h;cases q:z.E2 c with
     | error e=>rw[q]at h;cases h
     | ok v=>
      rw[q]at h;simp only[ai]at h;subst h;unfold Ps.E2 at q;split at q
      .rename_i hc;cases q;have k:bU {z with place:=z.place+1}=0:=by unfold bU;rw[if_neg (by show ¬(_/\(z.want=0\/z.want=1));omega)]
       refine⟨?_,by show z.lex.Fine;rw[f];exact j,λ_=>⟨by show z.lex.start<z.lex.place;rw[f,b1,d];omega,N ⟨hc.2,by show dF z.lex.st=I;rw[f];exact b2 hc.1⟩⟩,by show z.place+1=z.lex.place;rw[f,s,d,a.place]⟩
       show cG _ (bU {z with place:=z.place+1})
       rw[k];exact⟨g.depth,g.room,g.nodes,g.bytes,g.cnt,g.byt,g.stand,g.keys,g.pend⟩
      .obtain⟨b,B,-⟩:=g.D0 q;have n:=iI q;have o:v.lex=r.1:=n.1.trans f;have k:bU {v with place:=v.place+1}=1:=by unfold bU;rw[if_pos ⟨by show v.lex.isIn=I;rw[o,i],by show v.want=0\/v.want=1;rw[n.2.2];exact B⟩]
       refine⟨?_,by show v.lex.Fine;rw[o];exact j,λ_=>⟨by show v.lex.start<v.lex.place;rw[o,b1,d];omega,J (by show v.want=0\/v.want=1;rw[n.2.2];exact B)⟩,by show v.place+1=v.lex.place;rw[o,n.2.1,s,d,a.place]⟩
       show cG _ (bU {v with place:=v.place+1})
       rw[k];exact⟨b.depth,b.room,b.nodes,b.bytes,b.cnt,b.byt,b.stand,b.keys,b.pend⟩
  .rw[if_pos l]at h;cases h
theorem oQ(d:Nat)(a:d<=512):eY (Ps.I0 d):=⟨⟨a,X _,X _,X _,X _,X _,.new,λk h=>(by cases h),J rfl⟩,aIF,λh=>(by cases h),rfl⟩
theorem eY.D7{l:List UInt8}:∀{x y:Ps},eY x->x.D7 po l=O y->eY y:=by
 induction l with
 | nil=>intro x y b h;cases h;exact b
 | cons c l d=>
  intro x y b h;unfold Ps.D7 at h;rw[av]at h;cases a:x.B0 po c with
  | error e=>rw[a]at h;cases h
  | ok z=>
   rw[a]at h;exact d (b.B0 a) h
theorem tN{x:Lx}(c:x.Fine):((x.C6.2.1= [])\/rL x x.C6.2.1)/\(∀t∈x.C6.2.1,aFx t<=x.place)/\x.C6.2.2.2<=x.place/\(x.C6.2.2.1=0->x.C6.1.isIn=U)/\(bI x.number=I->x.isIn=I->x.st=.numeral):=by
 have d:bI x.number=I->x.isIn=I->x.st=.numeral:=by
  intro b hi;cases a:x.st with
  | numeral=>rfl
  | outside=>rw[c.isIn,a]at hi;cases hi
  | letter=>rw[(c.letter a).1]at b;cases b
  | within=>rw[(c.text (by rw[a];rfl)).1]at b;cases b
  | escape=>rw[(c.text (by rw[a];rfl)).1]at b;cases b
  | digit=>rw[(c.text (by rw[a];rfl)).1]at b;cases b
  | slash=>rw[(c.text (by rw[a];rfl)).1]at b;cases b
  | letterU=>rw[(c.text (by rw[a];rfl)).1]at b;cases b
 refine⟨?_,?_,?_,?_,d⟩
 .unfold af;split
  .exact J rfl
  .rename_i hi;split
   .exact J rfl
   .rename_i b;unfold H;cases g:bitsOf x.raw with
    | none=>exact J rfl
    | some v=>
     have f:x.isIn=I:=by simpa using hi
     have a:=d (by simpa using b) f;exact N (N ⟨f,_,[],rfl,λu i=>by simp at i,N ⟨by rw[a];rfl,trivial⟩⟩)
 .unfold af;split
  .intro t e;simp at e
  .split
   .intro t e;simp at e
   .unfold H;cases g:bitsOf x.raw with
    | none=>intro t e;simp at e
    | some v=>intro t e;simp at e;subst e;exact c.start
 .unfold af;split
  .exact X _
  .split
   .exact ae _
   .unfold H;cases g:bitsOf x.raw with
    | none=>exact c.start
    | some v=>exact X _
 .unfold af;split
  .rename_i hi;exact λ_=>hi
  .split
   .intro h;simp at h
   .unfold H;cases g:bitsOf x.raw with
    | none=>intro h;simp at h
    | some v=>intro _;rfl
def wH(r:Lx×List Tok×Nat×Nat)(d:Out):Out:=match d with
 | .error e=>Y e
 | .ok q=>if r.2.2.1≠0 then Y (nG r.2.2.1,r.2.2.2)else if q.want≠6 then Y (95,q.place)else O q
theorem eY.O9{x:Ps}(h:eY x):iS (bU x) x.want x.lex.C6.2.1:=by
 rcases(tN h.fine).1 with a|a
 .rw[a];trivial
 .exact h.S1 a
theorem aDZ{x y:Ps}(h:eY x)(a:x.C0 po=O y):∃t,y.items= [t]:=by
 have b:x.C0 po=wH x.lex.C6 (K po {x with lex:=x.lex.C6.1} x.lex.C6.2.1):=rfl;rw[b]at a;cases c:K po {x with lex:=x.lex.C6.1} x.lex.C6.2.1 with
 | error e=>rw[c]at a;cases a
 | ok z=>
  rw[c]at a;simp only[wH]at a;split at a
  .cases a
  .split at a
   .cases a
   .rename_i g;cases a;have d:=sP (h.ps.P4 x.lex.C6.1) (λt f=>wE t f) h.O9 c;exact(d.1.stand.N1.2.2.2 (by omega)).2
end Go.Proofs.YtakkmiomhackiaaGreatDoor
