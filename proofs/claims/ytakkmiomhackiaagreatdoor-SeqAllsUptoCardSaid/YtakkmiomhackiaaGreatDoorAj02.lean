/-
  The program, one part of its walk. Conditions: none.
-/
import Derived.Test.YtakkmiomhackiaaGreatDoorAj01
import Derived.Scope
import Derived.WalkMore
import Derived.Deep.Upon
import Derived.RangeFuncNested
import Derived.RangeFuncBound
import Derived.RangeFuncCalls
import Derived.RangeFuncLeaves
set_option linter.all false
set_option maxRecDepth 100000
set_option maxHeartbeats 16000000
open Go.Proofs.Tryz
open Array renaming getElem?_setIfInBounds->ep,getElem?_toList->fw
open Bool renaming false->O,true->U
open Classical renaming not_not->ie
open Go renaming Act->Y,Addr->az,Exit->bg,Obj->ak,Oper->ai,Operand->co,TypeId->bx,Value->V,World->N,builtin->fj,execOp->fe,findLabel->bk,invoke->fh,lt_of_block->bs,maxLen->bu,resolve->fg,results->ei,run_append_nothing->gw,step_inScope->gh,step_scope->bw,undef->ae,wpList->bj,wpList_append_arg->ga,wpList_append_grows->fz,yielded->dy
open Go.Arrives renaming of_steps->dh
open Go.Builtin renaming append->cu,append_->gz,firstCells->fk,lenOf->gv
open Go.Callee renaming builtin->ct
open Go.Code renaming scope->gd,skip->dx
open Go.Ending renaming returned->dl
open Go.IntKind renaming i64->R
open Go.Item renaming inScope->cw
open Go.Obj renaming cells->ag
open Go.Obj.cells renaming injEq->gy
open Go.Op renaming call->cr
open Go.Oper renaming wp->dj
open Go.Proofs.Tryz renaming func228->fm,ntmps228->fq,prog->E,results208->ej
open Go.Region renaming wanted->bz
open Go.Result renaming andThen_ok->gp
open Go.RowKit renaming Below->ao,Hid->aw,intOf->aj
open Go.Steps renaming one->cz,trans->ge
open Go.Value renaming agg->dm,bool->ac,int->H,ownBlock->gk,pointer->av,slice->S,string->ah,tuple->bm
open Go.World renaming setCell->fv
open Int.ofNat renaming inj->ig
open List renaming getD->fa,length->ek,map_nil->gu,map_toArray->gq
open Nat renaming strongRecOn->dv
open Option renaming none->J,some->I
open Or renaming inl->Z,inr->X
open UInt8 renaming ofNat->ar
namespace Go.Proofs.YtakkmiomhackiaaGreatDoor
open Go.RowKit
section
structure Keeps(F:Nat->Prop)(w w':N):Prop where
 os:w'.os=w.os
 tape:w'.tape=w.tape
 output:w'.output=w.output
 size:w.heap.size<=w'.heap.size
 block:∀k,k<w.heap.size->¬F k->w'.heap[k]?=w.heap[k]?
def Since(F:Nat->Prop)(w w':N)(k:Nat):Prop:=F k\/(w.heap.size<=k/\k<w'.heap.size)
section
variable {F G:Nat->Prop} {w w1 w2 w':N}
def Keeps.A4(F:Nat->Prop)(w:N):Keeps F w w:=⟨rfl,rfl,rfl,hU _,λ_ _ _=>rfl⟩
def Keeps.mono(h:Keeps F w w')(a:∀k,F k->G k):Keeps G w w':=⟨h.os,h.tape,h.output,h.size,λk b c=>h.block k b (λd=>c (a k d))⟩
def Keeps.trans(h:Keeps F w w1)(a:Keeps G w1 w2)(e:∀k,G k->F k\/w.heap.size<=k):Keeps F w w2:=
 ⟨a.os.trans h.os,a.tape.trans h.tape,a.output.trans h.output,bo h.size a.size,λk b c=>
  (a.block k (a7 b h.size) (λf=>(e k f).elim c (λd=>by omega))).trans (h.block k b c)⟩
def Keeps.C3(h:Keeps F w w1)(b:Keeps (Since F w w1) w1 w2):Keeps F w w2:=h.trans b λ_ a=>a.elim Z (λh=>X h.1)
def Keeps.same(h:Keeps F w w1)(b:Keeps F w1 w2):Keeps F w w2:=h.trans b λ_ a=>Z a
def Keeps.A5(h:Keeps F w w1)(o:ak):Keeps F w (w1.alloc o):=
 ⟨h.os,h.tape,h.output,bo h.size (by simp),λk a b=>(de _ _ _ (a7 a h.size)).trans (h.block k a b)⟩
def Keeps.A3(h:Keeps F w w1){p:az}(a:F p.block\/w.heap.size<=p.block)(u:V):Keeps F w (w1.setCell p u):=
 ⟨h.os,h.tape,h.output,bo h.size (by simp[fv]),λk c b=>(Below.heap_setCell _ _ _ _ (λe=>a.elim (λa=>b (by rw[e];exact a)) (λa=>by omega))).trans (h.block k c b)⟩
def Keeps.B0(h:Keeps F w w1):Keeps F w w1.drew:=⟨h.os,h.tape,h.output,h.size,h.block⟩
def Keeps.G0{a:Option Nat}(h:Keeps F w w1)(b:w1.grownBy w2 a)(f:∀k,a=I k->F k\/w.heap.size<=k):Keeps F w w2:=
 ⟨b.os.trans h.os,b.tape.trans h.tape,b.output.trans h.output,bo h.size b.size,λk c d=>
  (b.block k (a7 c h.size) (λe=>(f k e.symm).elim d (λg=>by omega))).trans (h.block k c d)⟩
def Keeps.A7(h:Keeps F w w1)(a:ao w1 w1 w2):Keeps F w w2:=
 ⟨a.os.trans h.os,a.tape.trans h.tape,a.output.trans h.output,bo h.size a.size,λk b c=>(a.block k (a7 b h.size)).trans (h.block k b c)⟩
def Keeps.A2(F:Nat->Prop)(h:ao w w w'):Keeps F w w':=(Keeps.A4 F w).A7 h
def Keeps.A6(h:Keeps F w w'){n:Nat}(d:n<=w.heap.size)(b:∀k,F k->n<=k):ao n w w':=
 ⟨h.os,h.tape,h.output,h.size,λk c=>h.block k (by omega) (λa=>by have:=b k a;omega)⟩
def Keeps.B4(h:Keeps F w w'){k:Nat}{o:ak}(a:w.heap[k]?=I o)(b:¬F k):w'.heap[k]?=I o:=(h.block k (bs a) b).trans a
def Keeps.B6(h:Keeps F w w'){p:az}{v:V}(a:w.cell? p=I v)(b:¬F p.block):w'.cell? p=I v:=
 (World.cell?_of_block (h.block _ (World.block_lt_of_cell? w p a) b)).trans a
def Since.E8{k:Nat}(h:Since F w w1 k)(a:w1.heap.size<=w2.heap.size):Since F w w2 k:=h.elim Z (λh=>X ⟨h.1,by omega⟩)
def Since.trans{k:Nat}(h:Since (Since F w w1) w1 w2 k)(d:w.heap.size<=w1.heap.size)(b:w1.heap.size<=w2.heap.size):Since F w w2 k:=by
 rcases h with h|⟨c,a⟩
 .exact h.E8 b
 .exact X ⟨by omega,a⟩
def Row.A0{m:Type}{B e:Nat}{enc:m->V}{v:V}{l:List m}(h:Row B e enc w v l)(f:Keeps F w w')(i:∀k,v.ownBlock=I k->¬F k):Row B e enc w' v l:=by
 refine⟨h.1,?_⟩;rcases h.2 with j|⟨g,cap,b,rfl,d,c,a⟩
 .exact Z j
 .exact X ⟨g,cap,b,rfl,d,f.B4 c (i g rfl),a⟩
end
def Win{b:Type}(e:Nat)(enc:b->V)(w:N)(v:V)(l:List b):Prop:=
 (v=S J 0 0/\l= [])\/
 ∃g off cap a,v=S (I ⟨g,off,J⟩) l.length cap/\w.heap[g]?=I (ag a e (0,0))/\l.length<=cap/\off+cap<=a.size/\cap<=bu/\∀i x,l[i]?=I x->a[off+i]?=I (enc x)
section
variable {α:Type} {e:Nat} {enc:α->V} {w:N} {v:V} {l:List α}
def Win.nil(e:Nat)(enc:α->V)(w:N):Win e enc w (S J 0 0) []:=Z ⟨rfl,rfl⟩
def Win.A0{F:Nat->Prop}{w':N}(h:Win e enc w v l)(c:Keeps F w w')(i:∀k,v.ownBlock=I k->¬F k):Win e enc w' v l:=by
 rcases h with f|⟨g,off,cap,b,rfl,d,a⟩
 .exact Z f
 .exact X ⟨g,off,cap,b,rfl,c.B4 d (i g rfl),a⟩
def Win.I6{B:Nat}(h:Row B e enc w v l):Win e enc w v l:=by
 rcases h.E3 with⟨rfl,rfl⟩|⟨g,cap,rfl,_,_,j,f,⟨b,d,k,c⟩,_⟩
 .exact .nil _ _ _
 .refine X ⟨g,0,cap,b,rfl,d,j,by omega,f,λi x hi=>?_⟩;have:=congrArg (λx=>x[i]?) c;have a:i<l.length:=(bt.1 hi).1;simp only[ot,ed,pz a,fw,hi]at this;simpa using this
def Win.A8(h:Win e enc w v l):∃a c,v=S a l.length c:=by
 rcases h with⟨rfl,rfl⟩|⟨g,off,cap,b,rfl,_⟩
 .exact⟨J,0,rfl⟩
 .exact⟨_,_,rfl⟩
def Win.P1{x:α}{g off cap:Nat}(h:Win e enc w (S (g,off) (l.length+1) cap) (x::l)):Win e enc w (S (g,off+1) l.length (cap-1)) l:=by
 rcases h with⟨b,_⟩|⟨m,c,d,a,b,f,k,n,o,hi⟩
 .cases b
 .cases b;simp only[cv]at k;refine X ⟨g,off+1,cap-1,a,rfl,f,by omega,by omega,by omega,λi y j=>?_⟩;have:=hi (i+1) y (by simpa using j);rw[show off+1+i=off+(i+1) by omega];exact this
def Win.B6{g off n cap:Nat}(h:Win e enc w (S (g,off) n cap) l){i:Nat}{x:α}(j:l[i]?=I x):w.cell? ⟨g,off+i,J⟩=I (enc x):=by
 rcases h with⟨a,_⟩|⟨k,b,c,f,a,d,p,m,o,hi⟩
 .cases a
 .cases a;rw[aA d];exact hi i x j
def dE{t bytes:Nat}{T:Array ai}{r:List ai}{o:ai}{a:Y}{a1:bg->Y->N->Prop}(a2:Elem t e bytes)(g0:o.guard=J)(s x:co)
 (ho:o.op=cr {callee:=ct cu,args:= #[s,x],argTypes:= #[t,t]})(hs:a.eval s=v)(g1:Win e enc w v l)(C:az)(c:Nat)(y:α)(hx:a.eval x=S (I C) 1 c)
 (hy:w.cell? C=I (enc y))(h1:(enc y).oneCell'=U)(hb:(l.length+1)*bytes<=140737488355328)(hm:l.length+1<=bu)
 (a0:∀g off cap w',Win e enc w' (S (I ⟨g,off,J⟩) (l.length+1) cap) (l++ [y])->(v.ownBlock=I g\/(w.heap.size<=g/\g<w'.heap.size))->w.grownBy w' v.ownBlock->bj E T a1 r (a.put o.dst (S (I ⟨g,off,J⟩) (l.length+1) cap)) w'):
 bj E T a1 (o::r) a w:=by
 obtain⟨ht,i,z,hi,hz,g2,g3,g4⟩:=a2
 have h:∀(j:Nat) u,[enc y][j]?=I u->w.cell? (C.add j)=I u:=by
  intro j u d
  match j,d with
  | 0,d=>
   simp at d;subst d;have:C.add 0=C:=(by obtain⟨b,o,s⟩:=C;cases s<;>simp[Addr.add]);rw[this];exact hy
  | j+1,d=>simp at d
 have D:∀u∈ [enc y],u.oneCell'=U:=by intro u hu;simp at hu;subst hu;exact h1
 rcases g1 with⟨rfl,rfl⟩|⟨g,off,cap,F,rfl,G,hc,g6,g7,m⟩
 .refine fz w g0 s x t ho e i z 1 bytes ht hi hz g2 g3 g4 (by decide) J 0 0 [] hs (λ_=>⟨rfl,rfl⟩) rfl (by intro b hb;cases hb) C 1 c [enc y] hx rfl h D (by omega) (by simp at hm;omega) (by simp at hb;omega) ?_;intro v' w' n f;rcases n.2 with⟨_,hn⟩|⟨g,cap,F,rfl,p,G,K,L,P,Q⟩
  .omega
  .refine a0 g 0 cap w' (Win.I6 (B:=w.heap.size) ⟨by simp,X ⟨g,cap,F,rfl,p,G,by simpa using K,L,by simpa using P,by simpa using Q⟩⟩) (X ⟨p,bs G⟩) f
 .refine ga w g0 s x t ho e i z 1 bytes ht hi hz g2 g3 g4 (by decide) g off l.length cap (l.map enc) hs (by simp) ?_ C 1 c [enc y] hx rfl h D ?_ hm hb ?_ ?_
  .intro j u d;rw[aA G];rw[ed]at d;cases q:l[j]? with
   | none=>rw[q]at d;cases d
   | some z=>rw[q]at d;simp at d;subst d;exact m j z q
  .intro q j d;simp at d;subst d;refine⟨?_,free_at G _⟩;rw[aA G,nk (by simp;omega)];rfl
  .intro q;have g5:w.setCells g (off+l.length*1) [enc y]=w.setCell ⟨g,off+l.length,J⟩ (enc y):=(by simp[World.setCells]);rw[g5];refine a0 g off cap _ (X ⟨g,off,cap,F.setIfInBounds (off+l.length) (enc y),by simp,aB G _,by simpa using q,by simpa using g6,g7,?_⟩) (Z rfl) ?_
   .intro j z d;rw[ep];by_cases g8:j<l.length
    .rw[py];rw[ec g8]at d;exact m j z d
    .rw[cL (by omega)]at d
     have:j=l.length:=by
      have:=(bt.1 d).1;simp at this;omega
     subst this;simp at d;subst d;rw[pz rfl,pz]
   .exact⟨rfl,rfl,rfl,by simp[fv],λk hk d=>aE _ (λe=>d (by subst e;rfl))⟩
  .intro g8 v' w' n f;rcases n.2 with⟨_,hn⟩|⟨g',d,q,rfl,p,g5,K,L,P,Q⟩
   .omega
   .refine a0 g' 0 d w' (Win.I6 (B:=w.heap.size) ⟨by simp,X ⟨g',d,q,by simp,p,g5,by simpa using K,L,by simpa using P,by simpa using Q⟩⟩) (X ⟨p,bs g5⟩) ⟨f.os,f.tape,f.output,f.size,λk hk _=>f.block k hk (by simp)⟩
end
end
structure Form where
 wide:Nat
 low:Nat
 g:Nat
def aC(c:UInt8):Form:=
 if c.toNat<128 then⟨1,0,0⟩else if c.toNat<194 then⟨0,0,0⟩else if c.toNat<224 then⟨2,128,191⟩else if c.toNat=224 then⟨3,160,191⟩
 else if c.toNat=237 then⟨3,128,159⟩else if c.toNat<240 then⟨3,128,191⟩else if c.toNat=240 then⟨4,144,191⟩else if c.toNat<244 then⟨4,128,191⟩
 else if c.toNat=244 then⟨4,128,143⟩else⟨0,0,0⟩
def Form.D4(f:Form)(i:Nat)(c:UInt8):Bool:=if i=1 then decide (f.low<=c.toNat)&&decide (c.toNat<=f.g)else decide (128<=c.toNat)&&decide (c.toNat<=191)
def aO(held:List UInt8)(c:UInt8):Option (List UInt8):=match held with
 | []=>if(aC c).wide=0 then J else if 1<(aC c).wide then I [c]else I []
 | h::t=>if(aC h).D4 (h::t).length c then(if(h::t).length+1=(aC h).wide then I []else I ((h::t)++ [c]))else J
def aX(held:List UInt8)(l:List UInt8):Option (List UInt8):=l.foldl (λa c=>a.bind λh=>aO h c) (I held)
def aV(l:List UInt8):Bool:=aX [] l==I []
def aT(r:Nat):List UInt8:=
 if r<128 then [ar r]
 else if r<2048 then [ar (192+r/64),ar (128+r%64)]
 else if r<65536 then [ar (224+r/4096),ar (128+r/64%64),ar (128+r%64)]
 else [ar (240+r/262144),ar (128+r/4096%64),ar (128+r/64%64),ar (128+r%64)]
inductive St|outside|letter|numeral|within|escape|digit|slash|letterU
deriving DecidableEq
structure Lx where
 a:Nat
 h:St
 e:Bool
 b:Nat
 d:List UInt8
 number:Nat
 held:List UInt8
 f:List UInt8
 c:Nat
 code:Nat
 g:Nat
inductive Tok|mark(at_:Nat)(sign:UInt8)|term(at_ size:Nat)(name:List UInt8)|num(at_ size bits:Nat)|str(at_ size:Nat)(text:List UInt8)
def aR(s:Nat)(c:UInt8):Option Nat:=
 if s=0/\c=45 then I 1
 else if(s=0\/s=1)/\c=48 then I 2
 else if(s=0\/s=1\/s=3)/\isD c then I 3
 else if(s=2\/s=3)/\c=46 then I 4
 else if(s=4\/s=5)/\isD c then I 5
 else if(s=2\/s=3\/s=5)/\(c=101\/c=69)then I 6
 else if s=6/\(c=43\/c=45)then I 7
 else if(s=6\/s=7\/s=8)/\isD c then I 8 else J
def bL(s:Nat):Bool:=s=2||s=3||s=5||s=8
def aI(c:UInt8):Bool:=c=32||c=9||c=10||c=13
def aY(c:UInt8):Bool:=c=123||c=125||c=91||c=93||c=58||c=44
def aH(c:UInt8):List UInt8:=if c=110 then [110,117,108,108]else if c=116 then [116,114,117,101]else if c=102 then [102,97,108,115,101]else []
def cO(c:UInt8):Option UInt8:=
 if c=34\/c=92\/c=47 then I c else if c=98 then I 8 else if c=102 then I 12 else if c=110 then I 10 else if c=114 then I 13 else if c=116 then I 9 else J
def hexOf(c:UInt8):Option Nat:=
 if 48<=c.toNat/\c.toNat<=57 then I (c.toNat-48)else if 97<=c.toNat/\c.toNat<=102 then I (c.toNat-87)else if 65<=c.toNat/\c.toNat<=70 then I (c.toNat-55)else J
structure nH where
 c:Lx
 a:List Tok
 b:Nat
def Lx.F4(x:Lx):Lx:={x with e:=O,h:=.outside}
def kX(x:Lx)(c:UInt8):nH:=match aR 0 c with
 | some s=>⟨{x with h:=.numeral,number:=s,d:= [c]},[],0⟩
 | none=>⟨{x with h:=.numeral},[],94⟩
def aP(x:Lx)(c:UInt8):nH:=
 if aI c then⟨x,[],0⟩
 else
  let y:Lx:={x with e:=U,b:=x.a,d:= [],number:=0}
  if aY c then⟨y.F4,[.mark x.a c],0⟩
  else if c=34 then⟨{y with h:=.within,held:= [],f:= [],c:=0,code:=0,g:=0},[],0⟩
  else if c=45\/isD c then kX y c
  else if aH c≠ []then⟨{y with h:=.letter,d:= [c]},[],0⟩
  else⟨y,[],94⟩
def cP(x:Lx)(c:UInt8):nH:=
 let a:=aH (x.d.headD 0)
 if a[x.d.length]?=I c then
  (if x.d.length+1=a.length then⟨{x with d:=x.d++ [c]}.F4,[.term x.b (x.a+1-x.b) a],0⟩else⟨{x with d:=x.d++ [c]},[],0⟩)
 else⟨x,[],94⟩
def Lx.B7(x:Lx):Option (Lx×Tok):=(bitsOf x.d).map λb=>(x.F4,.num x.b (x.a-x.b) b)
def bX(x:Lx)(c:UInt8):nH:=match aR x.number c with
 | some s=>⟨{x with number:=s,d:=x.d++ [c]},[],0⟩
 | none=>if bL x.number then(match x.B7 with
  | none=>⟨x,[],41⟩
  | some (y,t)=>let r:=aP y c;⟨r.c,t::r.a,r.b⟩)
  else⟨x,[],94⟩
def bY(x:Lx)(c:UInt8):nH:=
 if x.held= []/\c=34 then⟨x.F4,[.str x.b (x.a+1-x.b) x.f],0⟩
 else if x.held= []/\c=92 then⟨{x with h:=.escape},[],0⟩
 else if x.held= []/\c.toNat<32 then⟨x,[],91⟩
 else match aO x.held c with
  | none=>⟨x,[],90⟩
  | some h=>⟨{x with held:=h,f:=x.f++ [c]},[],0⟩
def dN(x:Lx)(c:UInt8):nH:=
 if c=117 then⟨{x with c:=0,code:=0,h:=.digit},[],0⟩
 else match cO c with
  | none=>⟨x,[],92⟩
  | some b=>⟨{x with f:=x.f++ [b],h:=.within},[],0⟩
def Lx.O0(x:Lx)(v:Nat):Bool:=
 if x.g≠0/\x.c=0 then v≠13 else if x.g≠0/\x.c=1 then v<12 else x.g=0&&x.c=1&&x.code=13&&12<=v
def Lx.whole(x:Lx):Lx:=
 if x.g≠0 then{x with g:=0,f:=x.f++aT (65536+(x.g-55296)*1024+x.code-56320),h:=.within}
 else if 55296<=x.code/\x.code<=56319 then{x with g:=x.code,h:=.slash}
 else{x with f:=x.f++aT x.code,h:=.within}
def dH(x:Lx)(c:UInt8):nH:=match hexOf c with
 | none=>⟨x,[],if x.g=0 then 92 else 93⟩
 | some v=>if x.O0 v then⟨x,[],93⟩
  else
   let y:Lx:={x with code:=x.code*16+v,c:=x.c+1}
   ⟨if x.c+1=4 then y.whole else y,[],0⟩
def fD(x:Lx)(c:UInt8):nH:=if c=92 then⟨{x with h:=.letterU},[],0⟩else⟨x,[],93⟩
def dS(x:Lx)(c:UInt8):nH:=if c=117 then⟨{x with c:=0,code:=0,h:=.digit},[],0⟩else⟨x,[],93⟩
def Lx.B5(x:Lx)(c:UInt8):nH:=match x.h with
 | .outside=>aP x c
 | .letter=>cP x c
 | .numeral=>bX x c
 | .within=>bY x c
 | .escape=>dN x c
 | .digit=>dH x c
 | .slash=>fD x c
 | .letterU=>dS x c
def Lx.B3(x:Lx)(c:UInt8):Lx×List Tok×Nat×Nat:=
 if x.a=16777216 then(x,[],3,x.a)
 else
  let r:=x.B5 c
  if r.b=0 then({r.c with a:=x.a+1},r.a,0,0)else(r.c,r.a,r.b,if r.b=41 then r.c.b else x.a)
def Lx.C0(x:Lx):Lx×List Tok×Nat×Nat:=
 if x.e=O then(x,[],0,0)
 else if bL x.number=O then(x,[],95,x.a)
 else match x.B7 with
  | none=>(x,[],41,x.b)
  | some (y,t)=>(y,[t],0,0)
def Lx.E9:Lx:=⟨0,.outside,O,0,[],0,[],[],0,0,0⟩
end Go.Proofs.YtakkmiomhackiaaGreatDoor
namespace Go.Proofs.YtakkmiomhackiaaGreatDoor.Fig
def val:List Nat->Nat
 | []=>0
 | x::a=>x+10000*val a
def figs(n:Nat):List Nat:=if h:n=0 then []else n%10000::figs (n/10000)
termination_by n
decreasing_by omega
def figs_zero:figs 0= []:=by rw[figs];simp
def figs_pos{n:Nat}(h:n≠0):figs n=n%10000::figs (n/10000):=by rw[figs];simp[h]
def val_figs(n:Nat):val (figs n)=n:=by
 induction n using dv with
 | ind n a=>
  by_cases h:n=0
  .subst h;rw[figs_zero];rfl
  .rw[figs_pos h];simp only[val];rw[a (n/10000) (by omega)];omega
def Small(l:List Nat):Prop:=∀x∈l,x<10000
def small_figs(n:Nat):Small (figs n):=by
 induction n using dv with
 | ind n b=>
  by_cases h:n=0
  .subst h;rw[figs_zero];intro x a;cases a
  .rw[figs_pos h];intro x a;rcases List.mem_cons.1 a with rfl|a
   .exact Nat.mod_lt _ (by decide)
   .exact b (n/10000) (by omega) x a
def small_cons{x:Nat}{l:List Nat}:Small (x::l)<->x<10000/\Small l:=by
 unfold Small;simp
def small_take{l:List Nat}(h:Small l)(n:Nat):Small (l.take n):=λx a=>h x (List.mem_of_mem_take a)
def val_append(a b:List Nat):val (a++b)=val a+10000^a.length*val b:=by
 induction a with
 | nil=>simp[val]
 | cons x a c=>simp only[List.cons_append,val,c,cv,jx];rw[Nat.mul_add,<-Nat.mul_assoc,ke 10000 (10000^a.length)];omega
def val_lt{l:List Nat}(h:Small l):val l<10000^l.length:=by
 induction l with
 | nil=>simp[val]
 | cons x l a=>
  obtain⟨c,b⟩:=small_cons.1 h;have:=a b;simp only[val,cv,jx];omega
def figs_val{l:List Nat}(h:Small l)(c:l.getLast?≠I 0):figs (val l)=l:=by
 induction l with
 | nil=>exact figs_zero
 | cons x l d=>
  obtain⟨m,e⟩:=small_cons.1 h;have k:(x+10000*val l)/10000=val l:=by omega
  have i:(x+10000*val l)%10000=x:=by omega
  have g:x+10000*val l≠0:=by
   intro g;have b:x=0:=(by omega);have a:val l=0:=by omega
   cases l with
   | nil=>subst b;exact c rfl
   | cons y j=>
    have f:=d e (by simpa[nj]using c);rw[a,figs_zero]at f;cases f
  simp only[val];rw[figs_pos g,k,i];cases l with
  | nil=>simp[val,figs_zero]
  | cons y j=>rw[d e (by simpa[nj]using c)]
def figs_take{l:List Nat}(h:Small l){k:Nat}(d:k<=l.length)(n:∀i,k<=i->l.getD i 0=0)(a:k=0\/l.getD (k-1) 0≠0):
 figs (val l)=l.take k:=by
 have f:val l=val (l.take k):=by
  have e:=val_append (l.take k) (l.drop k);rw[List.take_append_drop]at e
  have j:val (l.drop k)=0:=by
   have:∀m:List Nat,(∀i,m.getD i 0=0)->val m=0:=by
    intro m;induction m with
    | nil=>intro _;rfl
    | cons y m g=>intro c;simp only[val];rw[g (λi=>by simpa using c (i+1))];have:=c 0;simp at this;omega
   refine this _ (λi=>?_);have:=n (k+i) (by omega);simpa[fa,List.getElem?_drop]using this
  rw[j]at e;simpa using e
 rw[f];refine figs_val (small_take h k) ?_;rcases a with rfl|a
 .simp
 .intro b;rcases Nat.eq_zero_or_pos k with rfl|o
  .simp at b
  .rw[List.getLast?_eq_getElem?,List.length_take,Nat.min_eq_left d,ot,pz]at b;exact a (by simp[fa,b])
def figs_length_le{n k:Nat}(h:n<10000^k):(figs n).length<=k:=by
 induction k generalizing n with
 | zero => have : n = 0 := by simpa using h
           subst this;simp[figs_zero]
 | succ k b=>
  by_cases a:n=0
  .subst a;simp[figs_zero]
  .rw[figs_pos a];simp only[cv];have:=b (n:=n/10000) (by rw[jx]at h;exact Nat.div_lt_of_lt_mul (by rw[ke];exact h));omega
def lt_of_figs_length{n k:Nat}(h:(figs n).length<=k):n<10000^k:=by
 have:=val_lt (small_figs n);rw[val_figs]at this;exact a7 this (Nat.pow_le_pow_right (by decide) h)
def figs_getD(n i:Nat):(figs n).getD i 0=n/10000^i%10000:=by
 induction i generalizing n with
 | zero=>
  by_cases h:n=0
  .subst h;simp[figs_zero]
  .rw[figs_pos h];simp
 | succ i a=>
  by_cases h:n=0
  .subst h;simp[figs_zero]
  .rw[figs_pos h];have:(n%10000::figs (n/10000)).getD (i+1) 0=(figs (n/10000)).getD i 0:=(by simp[fa]);rw[this,a,Nat.div_div_eq_div_mul,jx,ke 10000]
end Go.Proofs.YtakkmiomhackiaaGreatDoor.Fig
namespace Go.Proofs.YtakkmiomhackiaaGreatDoor
open Go.RowKit
section
open Go
def Exit.K5(b:Nat->Y->N->Prop)(Q:bg->Y->N->Prop):bg->Y->N->Prop
 | .goto l,a,w=>b l a w
 | e,a,w=>Q e a w
def Exit.L3(b:Nat->Y->N->Prop)(Q:bg->Y->N->Prop)(a:Y)(w:N):Exit.K5 b Q .ret a w=Q .ret a w:=rfl
section
variable {P:Program} {a:Y} {w:N} {Q:bg->Y->N->Prop}
def rT{c:Code}{n f:Nat->Y->N->Prop}(h:c.wp P (Exit.K5 n Q) a w)(m:∀l a w,n l a w->f l a w):c.wp P (Exit.K5 f Q) a w:=by
 intro b k j;obtain⟨e,a₁,i,g,d⟩:=h b k j;refine⟨e,a₁,i,?_,d⟩;cases e<;>first|exact g|exact m _ _ _ g
def aAa{c:Code}(G:Nat->Y->N->Prop)(j:Nat->Nat)
 (r:∀l a w,G l a w->∃f,bk c l=I f/\f.wp P (Exit.K5 (λq s w'=>G q s w'/\j q<j l) Q) a w)
 (first:c.wp P (Exit.K5 G Q) a w):(gd c).wp P Q a w:=by
 intro b k t;have F:∀l f,bk c l=I f->gotoIn l (cw c::k)=I (.code f::cw c::k):=λl f u=>by simp[gotoIn,u]
 have v:∀n l a w,j l=n->G l a w->∃f,bk c l=I f/\∃e s w',Q e s w'/\Arrives P (lone (b.at a (.code f::cw c::k)) t w) b k t e s w':=by
  intro n
  induction n using dv with
  | _ n K=>
   intro l a w hn L;obtain⟨f,u,T⟩:=r l a w L;refine⟨f,u,?_⟩;obtain⟨e,a₁,h,i,d⟩:=T b (cw c::k) t;cases e with
   | normal=>exact⟨.normal,a₁,h,i,ge d (cz gh)⟩
   | exit id=>exact⟨.exit id,a₁,h,i,λx y=>d x (by simp[exitTo,y])⟩
   | goto q=>
    obtain⟨z,g0⟩:=i;obtain⟨m,o,B,C,D,p,g⟩:=K _ (by omega) q a₁ h rfl z;exact⟨B,C,D,p,dh (d _ (F _ _ o)) g⟩
   | ret=>exact⟨_,a₁,h,i,d⟩
   | panic z=>exact⟨_,a₁,h,i,d⟩
   | outgrown=>exact⟨_,a₁,h,i,d⟩
 obtain⟨e,a₁,h,i,d⟩:=first b (cw c::k) t
 cases e with
 | normal=>exact⟨.normal,a₁,h,i,.head bw (ge d (cz gh))⟩
 | exit id=>exact⟨.exit id,a₁,h,i,λx y=>.head bw (d x (by simp[exitTo,y]))⟩
 | goto q=>
  obtain⟨m,o,B,C,D,p,g⟩:=v _ q a₁ h rfl i;exact⟨B,C,D,p,dh (.head bw (d _ (F _ _ o))) g⟩
 | ret=>exact⟨_,a₁,h,i,dh (cz bw) d⟩
 | panic z=>exact⟨_,a₁,h,i,dh (cz bw) d⟩
 | outgrown=>exact⟨_,a₁,h,i,dh (cz bw) d⟩
def wU{c:Code}(t:Nat->Y->N->Prop)(d:Nat->Nat)
 (g:∀l,(∀e b a w,d e<d l->bk c e=I (dx.seq b)->t e a w->b.wp P (Exit.K5 (λo i w'=>t o i w'/\d o<d l) Q) a w)->
  ∀a w,t l a w->∃b,bk c l=I (dx.seq b)/\b.wp P (Exit.K5 (λe i w'=>t e i w'/\d e<d l) Q) a w)
 (first:(∀e b a w,bk c e=I (dx.seq b)->t e a w->b.wp P (Exit.K5 t Q) a w)->c.wp P (Exit.K5 t Q) a w):(gd c).wp P Q a w:=by
 have m:∀n l,d l=n->∀a w,t l a w->∃b,bk c l=I (dx.seq b)/\b.wp P (Exit.K5 (λe i w'=>t e i w'/\d e<d l) Q) a w:=by
  intro n
  induction n using dv with
  | _ n q=>
   intro l s;refine g l λe b a w p j k=>?_;obtain⟨r,f,h⟩:=q (d e) (by omega) e rfl a w k;rw[j]at f;cases f;exact rT h λ_ _ _ h=>⟨h.1,Nat.lt_trans h.2 p⟩
 refine aAa t d (λl a w k=>?_) (first λe b a w j k=>?_)
 .obtain⟨b,j,h⟩:=m _ l rfl a w k;exact⟨_,j,wp_seq (wp_skip h)⟩
 .obtain⟨r,p,h⟩:=m _ e rfl a w k;rw[j]at p;cases p;exact rT h λ_ _ _ h=>h.1
end
end
section
def aQ(s e:Nat)(w:N)(v:V)(n:Nat)(b:List V):Prop:=b.length=n*s/\((v=S J 0 0/\n=0)\/
 ∃g off cap a,v=S (I ⟨g,off,J⟩) n cap/\w.heap[g]?=I (ag a e (0,0))/\n<=cap/\off+cap*s<=a.size/\cap<=bu/\∀(j:Nat)(u:V),b[j]?=I u->a[off+j]?=I u)
def lB(t e s bytes:Nat):Prop:=E.underlying t=I (.slice e)/\0<s/\∃i z,E.info? e=I i/\i.zero=I z/\i.size=s/\i.bytes=bytes/\z.cells.size=s
def oC(g:Nat):∀(a:List V)(o:Nat)(w:N)(c:Array V)(T:bx),w.heap[g]?=I (ag c T (0,0))->
 ∃b,(w.setCells g o a).heap[g]?=I (ag b T (0,0))/\b.size=c.size/\(∀j u,a[j]?=I u->o+j<c.size->b[o+j]?=I u)/\(∀k,k<o->b[k]?=c[k]?)/\Keeps (λk=>k=g) w (w.setCells g o a):=by
 intro a
 induction a with
 | nil=>intro o w c T h;exact⟨c,h,rfl,λj u d=>by simp at d,λ_ _=>rfl,Keeps.A4 _ _⟩
 | cons x a q=>
  intro o w c T h;obtain⟨b,l,i,n,e,m⟩:=q (o+1) (w.setCell ⟨g,o,J⟩ x) _ T (aB h x);refine⟨b,l,by rw[i];simp,?_,?_,((Keeps.A4 (λk=>k=g) w).A3 (p:=⟨g,o,J⟩) (Z rfl) x).same m⟩
  .intro j u d f;cases j with
   | zero=>
    simp at d;subst d;rw[lv,e o (by omega),ep,pz rfl,pz]
   | succ j=>
    have:=n j u (by simpa using d) (by simp;omega);rw[show o+(j+1)=o+1+j by omega];exact this
  .intro k r;rw[e k (by omega),ep,py]
section
variable {s e:Nat} {w:N} {v:V} {n:Nat} {cs:List V}
def aQ.nil(s e:Nat)(w:N):aQ s e w (S J 0 0) 0 []:=⟨by simp,Z ⟨rfl,rfl⟩⟩
def aQ.A0{F:Nat->Prop}{w':N}(h:aQ s e w v n cs)(d:Keeps F w w')(f:∀k,v.ownBlock=I k->¬F k):aQ s e w' v n cs:=by
 refine⟨h.1,?_⟩;rcases h.2 with i|⟨g,off,cap,b,rfl,c,a⟩
 .exact Z i
 .exact X ⟨g,off,cap,b,rfl,d.B4 c (f g rfl),a⟩
def aQ.A8(h:aQ s e w v n cs):∃a c,v=S a n c:=by
 rcases h.2 with⟨rfl,rfl⟩|⟨g,off,cap,b,rfl,_⟩
 .exact⟨J,0,rfl⟩
 .exact⟨_,_,rfl⟩
def aQ.lt(h:aQ s e w v n cs){k:Nat}(a:v.ownBlock=I k):k<w.heap.size:=by
 rcases h.2 with⟨rfl,_⟩|⟨g,off,cap,b,rfl,c,_⟩
 .cases a
 .cases a;exact bs c
def aQ.ne(h:aQ s e w v n cs){b:Nat}{c:Array V}{T:bx}(f:w.heap[b]?=I (ag c T (0,0)))(i:T≠e):v.ownBlock≠I b:=by
 rcases h.2 with⟨rfl,_⟩|⟨g,off,cap,j,rfl,a,_⟩
 .simp[gk]
 .intro d;simp only[gk,ll]at d;subst d;rw[f]at a;simp only[ll,gy]at a;exact i a.2.1
def aQ.B6{g off cap:Nat}(h:aQ s e w (S (g,off) n cap) n cs){j:Nat}{u:V}(i:cs[j]?=I u):w.cell? ⟨g,off+j,J⟩=I u:=by
 rcases h.2 with⟨a,_⟩|⟨k,b,c,f,a,d,o,l,m,hi⟩
 .cases a
 .cases a;rw[aA d];exact hi j u i
def aQ.S4{B:Nat}(h:w.ownsRow B e s v n cs):aQ s e w v n cs/\∀k,v.ownBlock=I k->B<=k:=by
 rcases h.2 with⟨rfl,rfl⟩|⟨g,cap,c,rfl,m,i,o,l,p,f⟩
 .exact⟨⟨h.1,Z ⟨rfl,rfl⟩⟩,λk b=>by cases b⟩
 .refine⟨⟨h.1,X ⟨g,0,cap,c,rfl,i,o,by omega,l,λj u d=>?_⟩⟩,λk b=>by cases b;exact m⟩;have a:j<cs.length:=(bt.1 d).1;have:=congrArg (λx=>x[j]?) f;rw[h.1]at a;simp only[ot,pz a,fw,d]at this;simpa using this
def bC{t bytes:Nat}{F:Array ai}{h:List ai}{o:ai}{a:Y}{a0:bg->Y->N->Prop}(a2:lB t e s bytes)(K:o.guard=J)(so x:co)
 (ho:o.op=cr {callee:=ct cu,args:= #[so,x],argTypes:= #[t,t]})(hs:a.eval so=v)(l:aQ s e w v n cs)(ad:az)(m c:Nat)(d:List V)(hx:a.eval x=S (I ad) m c)(y:d.length=m*s)
 (p:∀j u,d[j]?=I u->w.cell? (ad.add j)=I u)(h1:∀u∈d,u.oneCell'=U)(h0:1<=m)(hb:(n+m)*bytes<=140737488355328)(hm:n+m<=bu)
 (a1:∀g off cap w',aQ s e w' (S (I ⟨g,off,J⟩) (n+m) cap) (n+m) (cs++d)->(v.ownBlock=I g\/(w.heap.size<=g/\g<w'.heap.size))->Keeps (λk=>v.ownBlock=I k) w w'->bj E F a0 h (a.put o.dst (S (I ⟨g,off,J⟩) (n+m) cap)) w'):
 bj E F a0 (o::h) a w:=by
 obtain⟨ht,L,i,z,hi,hz,P,Q,T⟩:=a2;have g3:∀{w':N}{g0:Option Nat},w.grownBy w' g0->(∀k,g0=I k->v.ownBlock=I k)->Keeps (λk=>v.ownBlock=I k) w w':=λC hr=>(Keeps.A4 _ w).G0 C (λk e=>Z (hr k e))
 have D:∀v' w',w'.ownsRow w.heap.size e s v' (n+m) (cs++d)->w.grownBy w' J->bj E F a0 h (a.put o.dst v') w':=by
  intro v' w' f q;obtain⟨B,G⟩:=aQ.S4 f;rcases f.2 with⟨_,hn⟩|⟨g,cap,g1,rfl,r,C,_⟩
  .omega
  .exact a1 g 0 cap w' B (X ⟨r,bs C⟩) (g3 q (λk e=>by cases e))
 obtain⟨q,l⟩:=l;rcases l with⟨rfl,rfl⟩|⟨g,off,cap,g1,rfl,C,-,h2,g4,r⟩
 .exact fz w K so x t ho e i z s bytes ht hi hz P Q T L J 0 0 cs hs (λ_=>⟨rfl,rfl⟩) q (λb hb=>by cases hb) ad m c d hx y p h1 (by omega) hm hb D
 .refine ga w K so x t ho e i z s bytes ht hi hz P Q T L g off n cap cs hs q (λj u B=>by rw[aA C];exact r j u B) ad m c d hx y p h1 ?_ hm hb ?_ (λ_=>D)
  .intro f j B;have G:(n+m)*s<=cap*s:=ev s f;rw[lu]at G;rw[y]at B;refine⟨?_,free_at C _⟩;rw[aA C,nk (by omega)];rfl
  .intro f;have G:(n+m)*s<=cap*s:=ev s f;rw[lu]at G;obtain⟨g2,g5,h3,g6,g7,g8⟩:=oC g d (off+n*s) w g1 e C;refine a1 g off cap _ ⟨by rw[cn,q,y,lu],X ⟨g,off,cap,g2,rfl,g5,f,by omega,g4,?_⟩⟩ (Z rfl) (g8.mono (λk e=>by rw[e];rfl));intro j u B;by_cases g9:j<cs.length
   .rw[ec g9]at B;rw[g7 _ (by omega)];exact r j u B
   .rw[cL (by omega)]at B;have h4:=(bt.1 B).1;have:=g6 (j-cs.length) u B (by omega);rw[show off+n*s+(j-cs.length)=off+j by omega]at this;exact this
def vW{t ty bytes:Nat}(a0:lB t e s bytes)(f:aQ s e w v n cs)(C:az)(m c:Nat)(a:List V)(h:a.length=m*s)
 (d:∀j u,a[j]?=I u->w.cell? (C.add j)=I u)(h1:∀u∈a,u.oneCell'=U)(g8:1<=m)(hb:(n+m)*bytes<=140737488355328)(hm:n+m<=bu):
 ∃g off cap w',(gz #[t,t] ty #[v,S (I C) m c]).run E w=.ok (S (I ⟨g,off,J⟩) (n+m) cap) w'/\aQ s e w' (S (I ⟨g,off,J⟩) (n+m) cap) (n+m) (cs++a)/\(v.ownBlock=I g\/(w.heap.size<=g/\g<w'.heap.size))/\Keeps (λk=>v.ownBlock=I k) w w':=by
 obtain⟨ht,D,i,z,hi,hz,B,F,G⟩:=a0;have g0:∀{w':N}{K:Option Nat},w.grownBy w' K->(∀k,K=I k->v.ownBlock=I k)->Keeps (λk=>v.ownBlock=I k) w w':=λr L=>(Keeps.A4 _ w).G0 r (λk e=>Z (L k e))
 have x:∀y w',w'.ownsRow w.heap.size e s y (n+m) (cs++a)->(∀k,y.ownBlock=I k->True)->w.grownBy w' J->∃g cap,y=S (I ⟨g,0,J⟩) (n+m) cap/\aQ s e w' (S (I ⟨g,0,J⟩) (n+m) cap) (n+m) (cs++a)/\(v.ownBlock=I g\/(w.heap.size<=g/\g<w'.heap.size))/\Keeps (λk=>v.ownBlock=I k) w w':=by
  intro y w' b _ l;obtain⟨p,q⟩:=aQ.S4 b;rcases b.2 with⟨_,T⟩|⟨g,cap,Q,rfl,o,r,_⟩
  .omega
  .exact⟨g,cap,rfl,p,X ⟨o,bs r⟩,g0 l (λk e=>by cases e)⟩
 obtain⟨l,f⟩:=f;rcases f with⟨rfl,rfl⟩|⟨g,off,cap,Q,rfl,r,-,g9,g1,o⟩
 .obtain rfl:cs= []:=eb (by simpa using l);obtain⟨y,w',b,r1,r2,_⟩:=run_append_own (P:=E) w w.heap.size t ty e i z s bytes ht hi hz B F G D (S J 0 0) 0 [] (World.ownsRow_nil w _ e s) C m c a h d h1 hm hb (hU _);obtain⟨g,cap,rfl,h2,h3,h4⟩:=x y w' r1 (λ_ _=>trivial) r2;exact⟨g,0,cap,w',b,h2,h3,h4⟩
 .by_cases L:n+m<=cap
  .subst B;have g2:(n+m)*i.size<=cap*i.size:=ev _ L;rw[lu]at g2
   have p:∀j,j<a.length->(w.cell? ⟨g,off+n*i.size+j,J⟩).isSome=U:=by
    intro j q;rw[h]at q;rw[aA r,nk (by omega)];rfl
   have b:=run_append_room_cells (P:=E) w t ty e i ht hi g off n cap C m c a h d h1 L p (λj _=>free_at r _);obtain⟨T,g3,h0,g4,g5,g6⟩:=oC g a (off+n*i.size) w Q e r;refine⟨g,off,cap,_,b,⟨by rw[cn,l,h,lu],X ⟨g,off,cap,T,rfl,g3,L,by omega,g1,?_⟩⟩,Z rfl,g6.mono (λk e=>by rw[e];rfl)⟩;intro j u q;by_cases g7:j<cs.length
   .rw[ec g7]at q;rw[g5 _ (by omega)];exact o j u q
   .rw[cL (by omega)]at q;have h5:=(bt.1 q).1;have:=g4 (j-cs.length) u q (by omega);rw[show off+n*i.size+(j-cs.length)=off+j by omega]at this;exact this
  .obtain⟨y,w',b,r1,r2⟩:=run_append_arg_grows (P:=E) w t ty e i z s bytes ht hi hz B F G D ⟨g,off,J⟩ n cap cs l (λj u q=>by rw[Addr.add_lit,aA r];exact o j u q) C m c a h d (by omega) hm hb;obtain⟨T,p,rfl,h2,h3,h4⟩:=x y w' r1 (λ_ _=>trivial) r2;exact⟨T,0,p,w',b,h2,h3,h4⟩
def bP{t bytes:Nat}{f:Array ai}{o:ai}{a:Y}{K:Y->N->Prop}{a0:bg->Y->N->Prop}{D:Prop}(a1:lB t e s bytes)(l:o.guard=J)(y x:co)
 (z:o.op=cr {callee:=ct cu,args:= #[y,x],argTypes:= #[t,t]})(B:a.eval y=v)(h:aQ s e w v n cs)(p:az)(m c:Nat)(b:List V)(C:a.eval x=S (I p) m c)(q:b.length=m*s)
 (d:∀j u,b[j]?=I u->w.cell? (p.add j)=I u)(F:∀u∈b,u.oneCell'=U)(r:1<=m)(G:(n+m)*bytes<=140737488355328)(L:n+m<=bu)
 (a2:∀g off cap w',aQ s e w' (S (I ⟨g,off,J⟩) (n+m) cap) (n+m) (cs++b)->(v.ownBlock=I g\/(w.heap.size<=g/\g<w'.heap.size))->Keeps (λk=>v.ownBlock=I k) w w'->K (a.put o.dst (S (I ⟨g,off,J⟩) (n+m) cap)) w'):
 if bz o (dy f a.tmps)=U then dj E o a w K a0 else D:=by
 have P:bz o (dy f a.tmps)=U:=by simp[bz,l]
 rw[pz P];obtain⟨g,off,cap,w',i,Q,T,h4⟩:=vW (ty:=o.type) a1 h p m c b q d F r G L;unfold dj fe;simp only[z,fg,fh,fj,pu,pt,gp,gq,pq,gu,B,C,i];exact a2 g off cap w' Q T h4
def xG(w:N)(k:Nat)(d:Option az)(c:Nat):(fk k 0 (S d 0 c)).run E w=.ok #[] w:=by
 cases d with
 | none=>simp[fk]
 | some b=>
  have h:=run_loadCells_list (P:=E) w b [] (λj v a=>by simp at a);simpa[fk]using h
def sD{t bytes:Nat}{d:Array ai}{b:List ai}{o:ai}{a:Y}{T:bg->Y->N->Prop}(a0:lB t e s bytes)(k:o.guard=J)(p x:co)
 (B:o.op=cr {callee:=ct cu,args:= #[p,x],argTypes:= #[t,t]})(D:a.eval p=v)(f:aQ s e w v n cs)(q:Option az)(c:Nat)(F:a.eval x=S q 0 c)
 (a1:bj E d T b (a.put o.dst v) w):
 bj E d T (o::b) a w:=by
 obtain⟨r,-,i,z,hi,-,-,-,-⟩:=a0
 obtain⟨l,y,C,G,m⟩:∃l y C,v=S l y C/\y<=C:=by
  rcases f.2 with⟨rfl,_⟩|⟨g,off,cap,h,rfl,-,j,_⟩
  .exact⟨_,_,_,rfl,hU _⟩
  .exact⟨_,_,_,rfl,j⟩
 subst G;have h:Src E i.size t (S q 0 c) 0 [] w:=⟨Z ⟨e,r⟩,λw'=>by simp[gv],xG w _ q c,xG w.drew _ q c,by simp,λu L=>by simp at L⟩;have j:=gw (P:=E) w t t o.type e i r hi l y C m (S q 0 c) h;refine wpList_plain k λK Q=>?_;unfold dj;simp[fe,B,fg,fh,fj,D,F,j,Result.andThen];exact Q _ _ a1
def aMR{t bytes:Nat}{b:Array ai}{o:ai}{a:Y}{K:Y->N->Prop}{T:bg->Y->N->Prop}{D:Prop}(a0:lB t e s bytes)(j:o.guard=J)(m x:co)
 (y:o.op=cr {callee:=ct cu,args:= #[m,x],argTypes:= #[t,t]})(B:a.eval m=v)(d:aQ s e w v n cs)(p:Option az)(c:Nat)(F:a.eval x=S p 0 c)
 (a1:K (a.put o.dst v) w):
 if bz o (dy b a.tmps)=U then dj E o a w K T else D:=by
 have G:bz o (dy b a.tmps)=U:=by simp[bz,j]
 rw[pz G];obtain⟨q,-,i,z,hi,-,-,-,-⟩:=a0
 obtain⟨k,r,C,L,l⟩:∃k r C,v=S k r C/\r<=C:=by
  rcases d.2 with⟨rfl,_⟩|⟨g,off,cap,f,rfl,-,h,_⟩
  .exact⟨_,_,_,rfl,hU _⟩
  .exact⟨_,_,_,rfl,h⟩
 subst L;have f:Src E i.size t (S p 0 c) 0 [] w:=⟨Z ⟨e,q⟩,λw'=>by simp[gv],xG w _ p c,xG w.drew _ p c,by simp,λu Q=>by simp at Q⟩;have h:=gw (P:=E) w t t o.type e i q hi k r C l (S p 0 c) f;unfold dj fe;simp only[y,fg,fh,fj,pu,pt,gp,gq,pq,gu,B,F,h];exact a1
end
def Win.Q3{m:Type}{e:Nat}{enc:m->V}{w:N}{v:V}{l:List m}(h:Win e enc w v l):aQ 1 e w v l.length (l.map enc):=by
 refine⟨by simp,?_⟩;rcases h with⟨rfl,rfl⟩|⟨g,off,cap,b,rfl,d,i,k,f,hi⟩
 .exact Z ⟨rfl,rfl⟩
 .refine X ⟨g,off,cap,b,rfl,d,i,by omega,f,λj u a=>?_⟩;rw[ed]at a;cases c:l[j]? with
  | none=>rw[c]at a;cases a
  | some x=>rw[c]at a;simp at a;subst a;exact hi j x c
def aQ.I4{p:Type}{e n:Nat}{enc:p->V}{w:N}{v:V}{l:List p}(h:aQ 1 e w v n (l.map enc)):Win e enc w v l:=by
 obtain⟨b,h⟩:=h;have j:l.length=n:=by simpa using b
 subst j;rcases h with⟨rfl,d⟩|⟨g,off,cap,a,rfl,c,m,o,k,hi⟩
 .exact Z ⟨rfl,eb d⟩
 .exact X ⟨g,off,cap,a,rfl,c,m,by omega,k,λi x f=>hi i (enc x) (by rw[ed,f];rfl)⟩
end
def RdT(w:N)(k:Nat):Prop:=∃c T,w.heap[k]?=I (ag c T (0,0))/\(T=159\/T=5\/T=162)
def Odd(w:N)(k:Nat):Prop:=∃o:ak,w.heap[k]?=I o/\o.isCells=O
def aOt(B:Nat)(a:N->Prop):Prop:=∀b C,a b->Keeps (λk=>B<=k/\RdT b k) b C->a C
def aMI(B:Nat)(a:N->Prop):Prop:=∀b C,a b->Keeps (λk=>B<=k/\(RdT b k\/Odd b k)) b C->a C
def aMI.I7{B:Nat}{c:N->Prop}(h:aMI B c):aOt B c:=λd C b a=>h d C b (a.mono λ_ h=>⟨h.1,Z h.2⟩)
def aML{F:Nat->Prop}{w:N}{l:Nat}(o:ak)(h:F l):Keeps F w (w.putObj l o):=
 ⟨rfl,rfl,rfl,by simp,λk _ a=>World.putObj_heap_other (λe=>a (by rw[e];exact h))⟩
def aMI.C5{B:Nat}{f:N->Prop}(h:aMI B f){w:N}{l:Nat}{o:ak}(a:ak)(c:f w)(e:B<=l)(d:w.heap[l]?=I o)(b:o.isCells=O):f (w.putObj l a):=
 h _ _ c (aML a ⟨e,X ⟨o,d,b⟩⟩)
def aMI.A5{B:Nat}{b:N->Prop}(h:aMI B b){w:N}(o:ak)(a:b w):b (w.alloc o):=h _ _ a ((Keeps.A4 _ w).A5 o)
def StT(T:bx):Prop:=T=159\/T=5\/T=162\/T=176\/T=186\/T=189\/T=97\/T=9
instance (T:bx):Decidable (StT T):=by unfold StT;infer_instance
structure aMB(w w':N):Prop where
 os:w'.os=w.os
 tape:w'.tape=w.tape
 output:w'.output=w.output
 size:w.heap.size<=w'.heap.size
 block:∀(k:Nat)(c:Array V)(T:bx),w.heap[k]?=I (ag c T (0,0))->StT T->w'.heap[k]?=I (ag c T (0,0))
def aOJ(w:N)(k:Nat):Prop:=¬∃c T,w.heap[k]?=I (ag c T (0,0))/\StT T
def aMB.A4(w:N):aMB w w:=⟨rfl,rfl,rfl,hU _,λ_ _ _ h _=>h⟩
def aMB.trans{a b c:N}(h:aMB a b)(k:aMB b c):aMB a c:=
 ⟨k.os.trans h.os,k.tape.trans h.tape,k.output.trans h.output,bo h.size k.size,λi x T hi d=>k.block i x T (h.block i x T hi d) d⟩
def aMB.M5{F:Nat->Prop}{w w':N}(h:Keeps F w w')(e:∀k,F k->aOJ w k):aMB w w':=
 ⟨h.os,h.tape,h.output,h.size,λk c T a d=>h.B4 a (λb=>e k b ⟨c,T,a,d⟩)⟩
def aMB.A0{w w':N}(h:aMB w w'):Keeps (aOJ w) w w':=
 ⟨h.os,h.tape,h.output,h.size,λk e d=>by
  have:∃c T,w.heap[k]?=I (ag c T (0,0))/\StT T:=ie.1 d;obtain⟨c,T,a,b⟩:=this;rw[h.block k c T a b,a]⟩
def aMB.C5{w:N}{l:Nat}{o:ak}(a:ak)(d:w.heap[l]?=I o)(b:o.isCells=O):aMB w (w.putObj l a):=
 aMB.M5 (F:=λk=>k=l) (aML a rfl) (λk e=>by subst e;rintro⟨c,T,h,_⟩;rw[d]at h;cases h;simp[Obj.isCells]at b)
abbrev bZ(c:UInt8):V:=H .u8 c.toNat
def dO(c:UInt8)(w:N):Calls E 228 #[bZ c] w λe w'=>e=dl (ac (isD c))/\w'=w:=by
 by_cases d:48<=c.toNat
 .have g:¬(c.toNat:Int)<48:=by omega
  have h:(48:Int)<=(c.toNat:Int):=by omega
  by_cases b:c.toNat<=57
  .have a:isD c=U:=(by simp[isD,d,b]);have f:(c.toNat:Int)<=57:=(by omega);rw[a];clear a;go_enter fm,fq;go_wp2;go_ret;exact⟨rfl,rfl⟩
  .have a:isD c=O:=(by simp[isD,b]);have f:¬(c.toNat:Int)<=57:=(by omega);rw[a];clear a;go_enter fm,fq;go_wp2;go_ret;exact⟨rfl,rfl⟩
 .have a:isD c=O:=by simp[isD,d]
  have g:¬(48:Int)<=(c.toNat:Int):=by omega
  rw[a];clear a;go_enter fm,fq;go_wp2;go_ret;exact⟨rfl,rfl⟩
def aJa(l:Lit):V:=dm #[l.a,ah ⟨l.whole.toArray⟩,ah ⟨l.c.toArray⟩,l.d,ah ⟨l.b.toArray⟩]
def aGC:V:=dm #[ac O,"","",ac O,""]
def aBt(o:Option Lit)(e:Ending):Prop:=match o with
 | some l=>e=dl (bm #[aJa l,H R (-1)])
 | none=>∃i:Nat,e=dl (bm #[aGC,i])
def aGD(n:Nat)(x:Nat->V):Y:={tmps:=((List.range n).map x).toArray,defers:= []}
def rU(a:Y)(n:Nat)(e:a.tmps.size=n)(b:a.defers= []):a=aGD n (λi=>a.tmps.getD i ae):=by
 subst e;rcases a with⟨t,d⟩;simp only at b;subst b;unfold aGD;congr 1;apply Array.ext
 .simp
 .intro i c f;simp[Array.getD,c]
def tU(x:Nat->V):aGD 158 x={tmps:= #[x 0,x 1,x 2,x 3,x 4,x 5,x 6,x 7,x 8,x 9,x 10,x 11,x 12,x 13,x 14,x 15,x 16,x 17,x 18,x 19,x 20,x 21,x 22,x 23,x 24,x 25,x 26,x 27,x 28,x 29,x 30,x 31,x 32,x 33,x 34,x 35,x 36,x 37,x 38,x 39,x 40,x 41,x 42,x 43,x 44,x 45,x 46,x 47,x 48,x 49,x 50,x 51,x 52,x 53,x 54,x 55,x 56,x 57,x 58,x 59,x 60,x 61,x 62,x 63,x 64,x 65,x 66,x 67,x 68,x 69,x 70,x 71,x 72,x 73,x 74,x 75,x 76,x 77,x 78,x 79,x 80,x 81,x 82,x 83,x 84,x 85,x 86,x 87,x 88,x 89,x 90,x 91,x 92,x 93,x 94,x 95,x 96,x 97,x 98,x 99,x 100,x 101,x 102,x 103,x 104,x 105,x 106,x 107,x 108,x 109,x 110,x 111,x 112,x 113,x 114,x 115,x 116,x 117,x 118,x 119,x 120,x 121,x 122,x 123,x 124,x 125,x 126,x 127,x 128,x 129,x 130,x 131,x 132,x 133,x 134,x 135,x 136,x 137,x 138,x 139,x 140,x 141,x 142,x 143,x 144,x 145,x 146,x 147,x 148,x 149,x 150,x 151,x 152,x 153,x 154,x 155,x 156,x 157],defers:= []}:=rfl
def cells5{w:N}{b:Nat}{e d c a f:V}{T:bx}(h:w.heap[b]?=I (ag #[e,d,c,a,f] T (0,0))):w.cell? b=I e/\w.cell? ⟨b,1,J⟩=I d/\w.cell? ⟨b,2,J⟩=I c/\w.cell? ⟨b,3,J⟩=I a/\w.cell? ⟨b,4,J⟩=I f/\∀o,w.frozen? ⟨b,o,J⟩=O:=
 ⟨aA h,aA h,aA h,aA h,aA h,free_at h⟩
def drop_at{s:ByteArray}{i:Nat}(h:i<s.size):s.data.toList.drop i=s[i]::s.data.toList.drop (i+1):=by
 rw[List.drop_eq_getElem_cons (by rw[jt];exact h)];rfl
def nT(s:ByteArray)(f k:Nat):Prop:=∀j(h:j<s.size),f<=j->j<k->isD s[j]=U
def nT.R0{s:ByteArray}{f k:Nat}(h:nT s f k)(g:k<s.size)(d:isD s[k]=U):nT s f (k+1):=λj e a b=>by
 by_cases c:j=k
 .subst c;exact d
 .exact h j e a (by omega)
def nT.nil(s:ByteArray)(f:Nat):nT s f f:=λj c a b=>by omega
def iT{s:ByteArray}{f k:Nat}(m:f<=k)(q:k<=s.size)(d:∀j(h:j<s.size),f<=j->j<k->isD s[j]=U)(c:∀h:k<s.size,isD s[k]=O):
 (s.data.toList.drop f).takeWhile isD=(s.data.toList.drop f).take (k-f)/\(s.data.toList.drop f).dropWhile isD=s.data.toList.drop k:=by
 obtain⟨n,rfl⟩:∃n,k=f+n:=⟨k-f,by omega⟩
 induction n generalizing f with
 | zero=>
  rw[lv,mw,pn];by_cases h:f<s.size
  .rw[drop_at h,List.takeWhile_cons_of_neg (by simpa using c h),List.dropWhile_cons_of_neg (by simpa using c h)];exact⟨rfl,rfl⟩
  .have:s.data.toList.drop f= []:=lk (by rw[jt];exact me.1 h);rw[this];exact⟨rfl,rfl⟩
 | succ n o=>
  have h:f<s.size:=by omega
  have g:=d f h (hU _) (by omega);have e:f+(n+1)=f+1+n:=by omega
  obtain⟨l,i⟩:=o (f:=f+1) (by omega) (by omega) (λj p a b=>d j p (by omega) (by omega)) (λr=>by simpa only[e]using c (by omega));rw[drop_at h,List.takeWhile_cons_of_pos g,List.dropWhile_cons_of_pos g,l,i,e];exact⟨by rw[show f+1+n-f=n+1 by omega,List.take_succ_cons];congr 2;omega,rfl⟩
def f9(l:Nat):Nat:=if l=0 then 0 else if l=2 then 1 else 2
def gT(s:ByteArray)(e:N)(l:Nat)(a:Y)(w:N):Prop:=∃(x:Nat->V)(i:Nat),a=aGD 158 x/\x 0=ah s/\x 2=av e/\x 3=H R 0/\
 x 4=av (I ⟨e.heap.size+1,0,J⟩)/\x 5=H R i/\i<=s.size/\ao e e w/\w.heap[e.heap.size]?=I (ag #[ac O,"","",ac O,""] 354 (0,0))/\
 ((l=0/\bI s.data.toList=J)\/
  (l=2/\∃neg d c,w.heap[e.heap.size+1]?=I (ag #[ac neg,ah ⟨d.toArray⟩,ah ⟨c.toArray⟩,ac O,""] 354 (0,0))/\bI s.data.toList=cZ neg d c (s.data.toList.drop i))\/
  (l=1/\∃(neg:Bool)(b:Nat),x 6=H R b/\b<=i/\w.heap[e.heap.size+1]?=I (ag #[ac neg,"","",ac O,""] 354 (0,0))/\
   bI s.data.toList=bF neg ((s.data.toList.drop b).take (i-b)) (s.data.toList.drop i)))
def wV(w:N):Calls E 228 #[H .u8 48] w λe w'=>e=dl (ac U)/\w'=w:=dO 48 w
def aD{c d:UInt8}{n:Int}(h:c≠d)(b:(d.toNat:Int)=n):¬(c.toNat:Int)=n/\((c.toNat:Int)==n)=O/\((c.toNat:Int)!=n)=U:=by
 subst b;have a:¬(c.toNat:Int)=(d.toNat:Int):=λe=>h (UInt8.toNat_inj.1 (ig e));exact⟨a,by simpa using a,by simpa using a⟩
def aJb(neg u:Bool)(c a:Oo)(b:ByteArray):aBt (I ⟨neg,c,a,u,b.data.toList⟩) (dl (bm #[dm #[neg,ah ⟨c.toArray⟩,ah ⟨a.toArray⟩,u,b],H R (-1)])):=by
 simp[aBt,aJa]
def kI{neg:Bool}{b a:Oo}{c:UInt8}{t:Oo}(d:c=101\/c=69)(h:(cA t).2.takeWhile isD= []\/(cA t).2.dropWhile isD≠ []):cZ neg b a (c::t)=J:=by
 simp only[cZ];rw[pz d,pz h]
def rV{neg u:Bool}{b a r d:Oo}{c:UInt8}{t:Oo}(i:c=101\/c=69)(h:cA t=(u,r))(e:r.takeWhile isD=d)(g:d≠ [])(f:r.dropWhile isD= []):cZ neg b a (c::t)=I ⟨neg,b,a,u,d⟩:=by
 simp only[cZ];rw[pz i,h,py (by simp[e,g,f]),e]
def aAb{neg:Bool}{b a:Oo}{c:UInt8}{t:Oo}(e:c≠101)(d:c≠69):cZ neg b a (c::t)=J:=by
 simp only[cZ];rw[py (by simp[e,d])]
def aAc{c:UInt8}{t:Oo}(h:c=43):cA (c::t)=(O,t):=by subst h;rfl
def wW{c:UInt8}{t:Oo}(h:c=45):cA (c::t)=(U,t):=by subst h;rfl
def pZ{c:UInt8}{t:Oo}(h:c≠43)(a:c≠45):cA (c::t)=(O,c::t):=by simp[cA,h,a]
def nU{neg:Bool}{c:UInt8}{t:Oo}{k f:Nat}(h:c=48)(a:k-f=1):cR neg (c::t)=bF neg ((c::t).take (k-f)) t:=by
 subst h;rw[a];rfl
def iU{neg:Bool}{c:UInt8}{t d r:Oo}(h:isD c=U)(e:c≠48)(a:(c::t).takeWhile isD=d)(b:(c::t).dropWhile isD=r):cR neg (c::t)=bF neg d r:=by
 simp only[cR];rw[pz h,py e,a,b]
def nV{neg:Bool}{c:UInt8}{t:Oo}(h:isD c=O):cR neg (c::t)=J:=by
 simp only[cR];rw[h];rfl
def aBu{c:UInt8}{t:Oo}(h:c≠45):bI (c::t)=cR O (c::t):=by
 simp only[bI];rw[py h]
def wX{neg:Bool}{a:Oo}{c:UInt8}{t:Oo}(h:c≠46):bF neg a (c::t)=cZ neg a [] (c::t):=by
 simp only[bF];rw[py h]
def nW{neg:Bool}{a:Oo}{c:UInt8}{t:Oo}(h:c=46)(b:t.takeWhile isD= []):bF neg a (c::t)=J:=by
 simp only[bF];rw[pz h,pz b]
def nX{neg:Bool}{a d r:Oo}{c:UInt8}{t:Oo}(h:c=46)(b:t.takeWhile isD=d)(f:d≠ [])(e:t.dropWhile isD=r):bF neg a (c::t)=cZ neg a d r:=by
 simp only[bF];rw[pz h,b,py f,e]
def pE{s:ByteArray}{d:N}{r:Nat}(a:Y)(w:N)(i:Nat)(neg:Bool)(b:ByteArray)(c:Oo)(p:a.tmps.size=158)(e:a.defers= [])(g:a.tmps.getD 0 ae=ah s)(f:a.tmps.getD 2 ae=av d)
 (n:a.tmps.getD 3 ae=H R 0)(k:a.tmps.getD 4 ae=av (I ⟨d.heap.size+1,0,J⟩))(l:a.tmps.getD 5 ae=H R i)(hi:i<=s.size)(h:ao d d w)
 (m:w.heap[d.heap.size]?=I (ag #[ac O,"","",ac O,""] 354 (0,0)))
 (q:w.heap[d.heap.size+1]?=I (ag #[neg,b,ah ⟨c.toArray⟩,ac O,""] 354 (0,0)))
 (o:bI s.data.toList=cZ neg b.data.toList c (s.data.toList.drop i))(j:f9 2<r):gT s d 2 a w/\f9 2<r:=
 ⟨⟨_,i,rU a 158 p e,g,f,n,k,l,hi,h,m,X (Z ⟨rfl,neg,b.data.toList,c,by simpa using q,o⟩)⟩,j⟩
def iJ{s:ByteArray}{c:N}(a:Y)(w:N)(i b:Nat)(neg:Bool)(p:a.tmps.size=158)(e:a.defers= [])(g:a.tmps.getD 0 ae=ah s)(f:a.tmps.getD 2 ae=av c)
 (m:a.tmps.getD 3 ae=H R 0)(j:a.tmps.getD 4 ae=av (I ⟨c.heap.size+1,0,J⟩))(k:a.tmps.getD 5 ae=H R i)(o:a.tmps.getD 6 ae=H R b)(d:b<=i)(hi:i<=s.size)(h:ao c c w)
 (l:w.heap[c.heap.size]?=I (ag #[ac O,"","",ac O,""] 354 (0,0)))
 (q:w.heap[c.heap.size+1]?=I (ag #[neg,"","",ac O,""] 354 (0,0)))
 (n:bI s.data.toList=bF neg ((s.data.toList.drop b).take (i-b)) (s.data.toList.drop i)):gT s c 1 a w:=
 ⟨_,i,rU a 158 p e,g,f,m,j,k,hi,h,l,X (X ⟨rfl,neg,b,o,d,q,n⟩)⟩
def iV{s:ByteArray}{b:N}(a:Y)(w:N)(i:Nat)(d:a.tmps.size=158)(c:a.defers= [])(h:a.tmps.getD 0 ae=ah s)(e:a.tmps.getD 2 ae=av b)
 (j:a.tmps.getD 3 ae=H R 0)(f:a.tmps.getD 4 ae=av (I ⟨b.heap.size+1,0,J⟩))(k:a.tmps.getD 5 ae=H R i)(hi:i<=s.size)(l:ao b b w)
 (g:w.heap[b.heap.size]?=I (ag #[ac O,"","",ac O,""] 354 (0,0)))(m:bI s.data.toList=J):gT s b 0 a w:=
 ⟨_,i,rU a 158 d c,h,e,j,f,k,hi,l,g,Z ⟨rfl,m⟩⟩
def fU(w:N)(o1 o2:ak):((w.alloc o1).alloc o2).heap[w.heap.size]?=I o1/\((w.alloc o1).alloc o2).heap[w.heap.size+1]?=I o2/\ao w w ((w.alloc o1).alloc o2):=by
 refine⟨(de _ _ _ (by simp)).trans (aL w _),?_,((Below.refl _ _).alloc (hU _) _).alloc (by simp) _⟩;have:=aL (w.alloc o1) o2;simpa using this
def cW{s:ByteArray}{b:N}{r:Nat}(a:Y)(w:N)(i:Nat)(e:a.tmps.size=158)(c:a.defers= [])(j:a.tmps.getD 0 ae=ah s)(f:a.tmps.getD 2 ae=av b)
 (k:a.tmps.getD 3 ae=H R 0)(g:a.tmps.getD 4 ae=av (I ⟨b.heap.size+1,0,J⟩))(l:a.tmps.getD 5 ae=H R i)(hi:i<=s.size)(m:ao b b w)
 (h:w.heap[b.heap.size]?=I (ag #[ac O,"","",ac O,""] 354 (0,0)))(n:bI s.data.toList=J)(d:f9 0<r):gT s b 0 a w/\f9 0<r:=
 ⟨⟨_,i,rU a 158 e c,j,f,k,g,l,hi,m,h,Z ⟨rfl,n⟩⟩,d⟩
def aCF(s:ByteArray)(w:N)(hs:s.size<=1073741824):Calls E 208 #[s] w λe w'=>aBt (bI s.data.toList) e/\ao w w w':=by
 go_enter func208,ntmps208;go_wp2_with fail;refine wU (gT s w) f9 ?_ ?_
 .rintro l i7 a w1 ⟨x,i,rfl,D,F,h3,h4,h5,hi,d,G,hl⟩;rcases hl with⟨rfl,i2⟩|⟨rfl,neg,K,C,B,b⟩|⟨rfl,neg,o,h6,j1,B,i1⟩
  .refine⟨_,rfl,?_⟩;rw[tU];have m:=A i2;clear i2;obtain⟨c0,c1,c2,c3,c4,cf⟩:=cells5 G;go_wp2_with fail;rw[Exit.L3];exact bb (v:=bm #[aGC,i]) (by simp[ei,ej,go_sem,c0,c1,c2,c3,c4,aGC,F,h5]) rfl ⟨by rw[m.o];exact⟨i,rfl⟩,((((d.setCell (hU _) _).setCell (hU _) _).setCell (hU _) _).setCell (hU _) _).setCell (hU _) _⟩
  .refine⟨_,rfl,?_⟩;rw[tU];obtain⟨c0,c1,c2,c3,c4,cf⟩:=cells5 G;obtain⟨d0,d1,d2,d3,d4,df⟩:=cells5 B;have HT:=A b;have j:=A G;have L:=A B;clear b G B;by_cases i4:i=s.size
   .subst i4;have hd:s.data.toList.drop s.size= []:=lk (by rw[jt];exact hU _);have b:=A hd;clear hd;go_wp2_with fail;rw[Exit.L3];exact bb (v:=bm #[aJa ⟨neg,K,C,O,[]⟩,H R (-1)]) (by simp[ei,ej,go_sem,c0,c1,c2,c3,c4,aJa,F,h5]) rfl ⟨by rw[HT.o,b.o];rfl,((((d.setCell (hU _) _).setCell (hU _) _).setCell (hU _) _).setCell (hU _) _).setCell (hU _) _⟩
   .have i5:i<s.size:=(by omega);have P:=A (drop_at i5)
    have hE:(s[i]≠101/\s[i]≠69)\/s[i]=101\/s[i]=69:=by
     by_cases b:s[i]=101
     .exact X (Z b)
     .by_cases F:s[i]=69
      .exact X (X F)
      .exact Z ⟨b,F⟩
    rcases hE with⟨he,i6⟩|he|he
    .obtain⟨-,-,i8⟩:=aD (c:=s[i]) (n:=101) he rfl;obtain⟨-,-,b⟩:=aD (c:=s[i]) (n:=69) i6 rfl
     have q:bI s.data.toList=J:=by
      rw[HT.o,P.o];exact aAb he i6
     have m:=A q;clear q he i6;go_wp2_with fail;(all_goals(try go_step3));show gT s w 0 _ _/\f9 0<f9 2
     exact cW _ _ i rfl rfl (by first|exact D|rfl) (by first|exact F|rfl) (by first|exact h3|rfl) (by first|exact h4|rfl) (by first|exact h5|rfl) hi d j.o m.o (by decide)
    all_goals
     have HE:M (s[i]=101\/s[i]=69):=A (by first|exact Z he|exact X he);first
     | have i9:((s[i].toNat:Nat):Int)=101:=by rw[he];rfl
     | have i9:((s[i].toNat:Nat):Int)=69:=by rw[he];rfl
     clear he;by_cases j0:i+1<s.size
     .have h9:=A (drop_at j0);by_cases hp:s[i+1]=43\/s[i+1]=45
      .obtain⟨u,hu,HP⟩:∃u,(s[i+1]=43/\u=O\/s[i+1]=45/\u=U)/\M (cA (s[i+1]::s.data.toList.drop (i+1+1))=(u,s.data.toList.drop (i+1+1))):=hp.elim (λa0=>⟨O,Z ⟨a0,rfl⟩,A (aAc a0)⟩) (λa0=>⟨U,X ⟨a0,rfl⟩,A (wW a0)⟩);clear hp;rcases hu with⟨hp,hu⟩|⟨hp,hu⟩
       all_goals
        first
        | have b:((s[i+1].toNat:Nat):Int)=43:=by rw[hp];rfl
        | have b:((s[i+1].toNat:Nat):Int)=45:=by rw[hp];rfl
        clear hp;go_wp2_with fail;go_loop [5] (λv=>∃k:Nat,i+1+1<=k/\k<=s.size/\v=H R k/\M (nT s (i+1+1) k)) (λv=>s.size-(aj v).toNat)
        case atStart=>exact⟨i+1+1,by omega,by omega,by go_num,A (nT.nil s _)⟩
        case round=>
         obtain⟨k,z,h,rfl,g⟩:=hrel;by_cases y:k<s.size
         .by_cases p:isD s[k]=U
          .go_wp2_with fail;refine(dO s[k] _).mono ?_;rintro e w2 ⟨rfl,rfl⟩;rw[p];go_wp2_with fail;refine⟨⟨k+1,by omega,by omega,by go_num,A (g.o.R0 y p)⟩,by simp[aj];omega⟩
          .go_wp2_with fail;refine(dO s[k] _).mono ?_;rintro e w2 ⟨rfl,rfl⟩;have t:isD s[k]=O:=(by simpa using p);rw[t];have b:=iT (s:=s) (f:=i+1+1) (k:=k) z h g.o (λ_=>t)
           have q:bI s.data.toList=J:=by
            rw[HT.o,P.o,h9.o];refine kI HE.o (X ?_);rw[HP.o,b.2,drop_at y];simp
           have m:=A q;clear q b p t;go_wp2_with fail;(all_goals(try go_step3));all_goals(show gT s w 0 _ _/\f9 0<f9 2)
           all_goals(first|exact cW _ _ k rfl rfl (by first|exact D|rfl) (by first|exact F|rfl) (by first|exact h3|rfl) (by first|exact h4|rfl) (by first|exact h5|rfl) h ((d.setCell (lh _) _).setCell (lh _) _) ((aE _ (by simp)).trans ((aE _ (by simp)).trans j.o)) m.o (by decide)|exact cW _ _ (i+1+1) rfl rfl (by first|exact D|rfl) (by first|exact F|rfl) (by first|exact h3|rfl) (by first|exact h4|rfl) rfl (by omega) ((d.setCell (lh _) _).setCell (lh _) _) ((aE _ (by simp)).trans ((aE _ (by simp)).trans j.o)) m.o (by decide))
         .have Q:k=s.size:=(by omega);subst Q;have b:=A (iT (s:=s) (f:=i+1+1) (k:=s.size) z h g.o (λa0=>absurd a0 y));by_cases h8:s.size=i+1+1
          .have q:bI s.data.toList=J:=by
            rw[HT.o,P.o,h9.o];refine kI HE.o (Z ?_);rw[HP.o,b.o.1,h8,mw,pn]
           have m:=A q;clear q;go_wp2_with fail;(all_goals(try go_step3));all_goals(show gT s w 0 _ _/\f9 0<f9 2)
           all_goals(first|exact cW _ _ k rfl rfl (by first|exact D|rfl) (by first|exact F|rfl) (by first|exact h3|rfl) (by first|exact h4|rfl) (by first|exact h5|rfl) h ((d.setCell (Nat.le_succ _) _).setCell (Nat.le_succ _) _) ((aE _ (by simp)).trans ((aE _ (by simp)).trans j.o)) m.o (by decide)|exact cW _ _ (i+1+1) rfl rfl (by first|exact D|rfl) (by first|exact F|rfl) (by first|exact h3|rfl) (by first|exact h4|rfl) rfl (by omega) ((d.setCell (lh _) _).setCell (lh _) _) ((aE _ (by simp)).trans ((aE _ (by simp)).trans j.o)) m.o (by decide))
          .have T:¬(s.size:Int)=(i:Int)+1+1:=(by omega);have i3:((s.size:Int)==(i:Int)+1+1)=O:=by simpa using T
           have q:bI s.data.toList=I ⟨neg,K,C,u,(s.extract (i+1+1) s.size).data.toList⟩:=by
            have i0:(s.extract (i+1+1) s.size).data.toList=(s.data.toList.drop (i+1+1)).take (s.size-(i+1+1)):=(by simp);rw[HT.o,P.o,h9.o,i0];refine rV HE.o HP.o ?_ ?_ ?_
            .exact b.o.1
            .intro D;have:=congrArg ek D;simp at this;omega
            .rw[b.o.2];exact lk (by rw[jt];exact hU _)
           have m:=A q;clear q;go_wp2_with fail;(all_goals(try rw[Exit.L3]));exact bb (v:=bm #[dm #[neg,ah ⟨K.toArray⟩,ah ⟨C.toArray⟩,ac u,ah (s.extract (i+1+1) s.size)],H R (-1)]) (by simp[ei,ej,go_sem,c0,c1,c2,c3,c4,F,hu]) rfl ⟨by rw[m.o];exact aJb _ _ _ _ _,((((((d.setCell (lh _) _).setCell (lh _) _).setCell (hU _) _).setCell (hU _) _).setCell (hU _) _).setCell (hU _) _).setCell (hU _) _⟩
      .obtain⟨hp,hm⟩:=not_or.1 hp;obtain⟨-,j2,-⟩:=aD (c:=s[i+1]) (n:=43) hp rfl;obtain⟨-,j3,-⟩:=aD (c:=s[i+1]) (n:=45) hm rfl;have HP:=A hp;have HM:=A hm;clear hp hm;go_wp2_with fail;go_loop [5] (λv=>∃k:Nat,i+1<=k/\k<=s.size/\v=H R k/\M (nT s (i+1) k)) (λv=>s.size-(aj v).toNat)
       case atStart=>exact⟨i+1,by omega,by omega,by go_num,A (nT.nil s _)⟩
       case round=>
        obtain⟨k,z,h,rfl,g⟩:=hrel;by_cases y:k<s.size
        .by_cases p:isD s[k]=U
         .go_wp2_with fail;refine(dO s[k] _).mono ?_;rintro e w2 ⟨rfl,rfl⟩;rw[p];go_wp2_with fail;refine⟨⟨k+1,by omega,by omega,by go_num,A (g.o.R0 y p)⟩,by simp[aj];omega⟩
         .go_wp2_with fail;refine(dO s[k] _).mono ?_;rintro e w2 ⟨rfl,rfl⟩;have t:isD s[k]=O:=(by simpa using p);rw[t];have b:=iT (s:=s) (f:=i+1) (k:=k) z h g.o (λ_=>t)
          have q:bI s.data.toList=J:=by
           rw[HT.o,P.o];refine kI HE.o (X ?_);rw[(show cA (s.data.toList.drop (i+1))=(O,s.data.toList.drop (i+1))from by rw[h9.o];exact pZ HP.o HM.o),b.2,drop_at y];simp
          have m:=A q;clear q b p t;go_wp2_with fail;(all_goals(try go_step3));all_goals(show gT s w 0 _ _/\f9 0<f9 2)
          all_goals(first|exact cW _ _ k rfl rfl (by first|exact D|rfl) (by first|exact F|rfl) (by first|exact h3|rfl) (by first|exact h4|rfl) (by first|exact h5|rfl) h (d.setCell (lh _) _) ((aE _ (by simp)).trans j.o) m.o (by decide)|exact cW _ _ (i+1) rfl rfl (by first|exact D|rfl) (by first|exact F|rfl) (by first|exact h3|rfl) (by first|exact h4|rfl) rfl (by omega) (d.setCell (lh _) _) ((aE _ (by simp)).trans j.o) m.o (by decide))
        .have Q:k=s.size:=(by omega);subst Q;have b:=A (iT (s:=s) (f:=i+1) (k:=s.size) z h g.o (λa0=>absurd a0 y));by_cases h8:s.size=i+1
         .exfalso;omega
         .have T:¬(s.size:Int)=(i:Int)+1:=(by omega);have i3:((s.size:Int)==(i:Int)+1)=O:=by simpa using T
          have q:bI s.data.toList=I ⟨neg,K,C,O,(s.extract (i+1) s.size).data.toList⟩:=by
           have i0:(s.extract (i+1) s.size).data.toList=(s.data.toList.drop (i+1)).take (s.size-(i+1)):=(by simp);rw[HT.o,P.o,i0];refine rV HE.o (show cA (s.data.toList.drop (i+1))=(O,s.data.toList.drop (i+1))from by rw[h9.o];exact pZ HP.o HM.o) ?_ ?_ ?_
           .exact b.o.1
           .intro D;have:=congrArg ek D;simp at this;omega
           .rw[b.o.2];exact lk (by rw[jt];exact hU _)
          have m:=A q;clear q;go_wp2_with fail;(all_goals(try rw[Exit.L3]));exact bb (v:=bm #[dm #[neg,ah ⟨K.toArray⟩,ah ⟨C.toArray⟩,ac O,ah (s.extract (i+1) s.size)],H R (-1)]) (by simp[ei,ej,go_sem,c0,c1,c2,c3,c4,F]) rfl ⟨by rw[m.o];exact aJb _ _ _ _ _,(((((d.setCell (lh _) _).setCell (hU _) _).setCell (hU _) _).setCell (hU _) _).setCell (hU _) _).setCell (hU _) _⟩
     .have h9:s.data.toList.drop (i+1)= []:=lk (by rw[jt];exact me.1 j0);have j2:=A h9;clear h9;go_wp2_with fail;go_loop [5] (λv=>∃k:Nat,i+1<=k/\k<=s.size/\v=H R k/\M (nT s (i+1) k)) (λv=>s.size-(aj v).toNat)
      case atStart=>exact⟨i+1,by omega,by omega,by go_num,A (nT.nil s _)⟩
      case round=>
       obtain⟨k,z,h,rfl,g⟩:=hrel;by_cases y:k<s.size
       .exfalso;omega
       .have Q:k=s.size:=(by omega);subst Q;have b:=A (iT (s:=s) (f:=i+1) (k:=s.size) z h g.o (λa0=>absurd a0 y));by_cases h8:s.size=i+1
        .have q:bI s.data.toList=J:=by
          rw[HT.o,P.o];refine kI HE.o (Z ?_);rw[(show cA (s.data.toList.drop (i+1))=(O,s.data.toList.drop (i+1))from by rw[j2.o];rfl),b.o.1,h8,mw,pn]
         have m:=A q;clear q;go_wp2_with fail;(all_goals(try go_step3));all_goals(show gT s w 0 _ _/\f9 0<f9 2)
         all_goals(first|exact cW _ _ k rfl rfl (by first|exact D|rfl) (by first|exact F|rfl) (by first|exact h3|rfl) (by first|exact h4|rfl) (by first|exact h5|rfl) h (d.setCell (Nat.le_succ _) _) ((aE _ (by simp)).trans j.o) m.o (by decide)|exact cW _ _ (i+1) rfl rfl (by first|exact D|rfl) (by first|exact F|rfl) (by first|exact h3|rfl) (by first|exact h4|rfl) rfl (by omega) (d.setCell (lh _) _) ((aE _ (by simp)).trans j.o) m.o (by decide))
        .exfalso;omega
  .have i6:=A i7;clear i7;obtain⟨c0,c1,c2,c3,c4,-⟩:=cells5 G;obtain⟨d0,d1,d2,d3,d4,df⟩:=cells5 B;have HP:=A i1;have j:=A G;have L:=A B;clear i1 G B;have i0:(s.extract o i).data.toList=(s.data.toList.drop o).take (i-o):=(by simp);have B:(⟨((s.data.toList.drop o).take (i-o)).toArray⟩:ByteArray)=s.extract o i:=(by rw[<-i0]);have i1:=A i0;have HW:=A B;clear i0 B;refine⟨_,rfl,?_⟩;rw[tU];by_cases i4:i=s.size
   .subst i4
    have q:bI s.data.toList=cZ neg (s.extract o s.size).data.toList [] (s.data.toList.drop s.size):=by
     have hd:s.data.toList.drop s.size= []:=lk (by rw[jt];exact hU _);rw[HP.o,hd,i1.o];rfl
    have m:=A q;clear q;go_wp2_with fail;(all_goals(try go_step3));show gT s w 2 _ _/\f9 2<f9 1
    exact pE _ _ s.size neg _ [] rfl rfl (by first|exact D|rfl) (by first|exact F|rfl) (by first|exact h3|rfl) (by first|exact h4|rfl) (by first|exact h5|rfl) hi (d.setCell (lh _) _) ((aE _ (by simp)).trans j.o) (aB L.o _) m.o (by decide)
   .have i5:i<s.size:=(by omega);have i0:¬(i:Int)=(s.size:Int):=(by omega);have i7:((i:Int)==(s.size:Int))=O:=(by simpa using i0);have P:=A (drop_at i5);by_cases he:s[i]=46
    .have i9:((s[i].toNat:Nat):Int)=46:=(by rw[he];rfl);have HE:=A he;clear he;go_wp2_with fail;go_loop [5] (λv=>∃k:Nat,i+1<=k/\k<=s.size/\v=H R k/\M (nT s (i+1) k)) (λv=>s.size-(aj v).toNat)
     case atStart=>exact⟨i+1,by omega,by omega,by go_num,A (nT.nil s _)⟩
     case round=>
      obtain⟨k,z,h,rfl,g⟩:=hrel;by_cases y:k<s.size
      .by_cases p:isD s[k]=U
       .go_wp2_with fail;refine(dO s[k] _).mono ?_;rintro e w2 ⟨rfl,rfl⟩;rw[p];go_wp2_with fail;refine⟨⟨k+1,by omega,by omega,by go_num,A (g.o.R0 y p)⟩,by simp[aj];omega⟩
       .have t:isD s[k]=O:=(by simpa using p);have b:=iT (s:=s) (f:=i+1) (k:=k) z h g.o (λ_=>t);go_wp2_with fail;refine(dO s[k] _).mono ?_;rintro e w2 ⟨rfl,rfl⟩;rw[t]
        have B:(k=i+1->bI s.data.toList=J)/\(k≠i+1->bI s.data.toList=cZ neg (s.extract o i).data.toList (s.extract (i+1) k).data.toList (s.data.toList.drop k)):=by
         have h9:(s.extract (i+1) k).data.toList=(s.data.toList.drop (i+1)).take (k-(i+1)):=(by simp);rw[HP.o,P.o,i1.o];refine⟨λa0=>?_,λa0=>?_⟩
         .refine nW HE.o ?_;rw[b.1,a0,mw,pn]
         .refine nX HE.o (by rw[b.1,h9]) ?_ b.2;intro D;have:=congrArg ek D;simp at this;omega
        have G:=A B;clear B b p t;by_cases h8:k=i+1
        .have m:=A (G.o.1 h8);go_wp2_with fail;(all_goals(try go_step3));all_goals(show gT s w 0 _ _/\f9 0<f9 1)
         first|exact cW _ _ k rfl rfl (by first|exact D|rfl) (by first|exact F|rfl) (by first|exact h3|rfl) (by first|exact h4|rfl) rfl h (d.setCell (lh _) _) ((aE _ (by simp)).trans j.o) m.o (by decide)|exact cW _ _ (i+1) rfl rfl (by first|exact D|rfl) (by first|exact F|rfl) (by first|exact h3|rfl) (by first|exact h4|rfl) rfl (by omega) (d.setCell (lh _) _) ((aE _ (by simp)).trans j.o) m.o (by decide)
        .have m:=A (G.o.2 h8);have T:¬(k:Int)=(i:Int)+1:=(by omega);have i3:((k:Int)==(i:Int)+1)=O:=(by simpa using T);go_wp2_with fail;(all_goals(try go_step3));simp only[Exit.then]
         apply_assumption
         refine i6.o 2 _ _ _ (by decide) rfl ?_;exact(pE (r:=5) _ _ k neg (s.extract o i) (s.extract (i+1) k).data.toList rfl rfl (by first|exact D|rfl) (by first|exact F|rfl) (by first|exact h3|rfl) (by first|exact h4|rfl) rfl h ((d.setCell (lh _) _).setCell (lh _) _) ((aE _ (by simp)).trans ((aE _ (by simp)).trans j.o)) (aB (aB L.o _) _) m.o (by decide)).1
      .have Q:k=s.size:=(by omega);subst Q;have b:=iT (s:=s) (f:=i+1) (k:=s.size) z h g.o (λa0=>absurd a0 y)
       have B:(s.size=i+1->bI s.data.toList=J)/\(s.size≠i+1->bI s.data.toList=cZ neg (s.extract o i).data.toList (s.extract (i+1) s.size).data.toList (s.data.toList.drop s.size)):=by
        have h9:(s.extract (i+1) s.size).data.toList=(s.data.toList.drop (i+1)).take (s.size-(i+1)):=(by simp);rw[HP.o,P.o,i1.o];refine⟨λa0=>?_,λa0=>?_⟩
        .refine nW HE.o ?_;rw[b.1,a0,mw,pn]
        .refine nX HE.o (by rw[b.1,h9]) ?_ b.2;intro D;have:=congrArg ek D;simp at this;omega
       have G:=A B;clear B b;by_cases h8:s.size=i+1
       .have m:=A (G.o.1 h8);go_wp2_with fail;(all_goals(try go_step3));all_goals(show gT s w 0 _ _/\f9 0<f9 1)
        first|exact cW _ _ s.size rfl rfl (by first|exact D|rfl) (by first|exact F|rfl) (by first|exact h3|rfl) (by first|exact h4|rfl) rfl h (d.setCell (lh _) _) ((aE _ (by simp)).trans j.o) m.o (by decide)|exact cW _ _ (i+1) rfl rfl (by first|exact D|rfl) (by first|exact F|rfl) (by first|exact h3|rfl) (by first|exact h4|rfl) rfl (by omega) (d.setCell (lh _) _) ((aE _ (by simp)).trans j.o) m.o (by decide)
       .have m:=A (G.o.2 h8);have T:¬(s.size:Int)=(i:Int)+1:=(by omega);have i3:((s.size:Int)==(i:Int)+1)=O:=(by simpa using T);go_wp2_with fail;(all_goals(try go_step3));simp only[Exit.then]
        apply_assumption
        refine i6.o 2 _ _ _ (by decide) rfl ?_;exact(pE (r:=5) _ _ s.size neg (s.extract o i) (s.extract (i+1) s.size).data.toList rfl rfl (by first|exact D|rfl) (by first|exact F|rfl) (by first|exact h3|rfl) (by first|exact h4|rfl) rfl h ((d.setCell (lh _) _).setCell (lh _) _) ((aE _ (by simp)).trans ((aE _ (by simp)).trans j.o)) (aB (aB L.o _) _) m.o (by decide)).1
    .obtain⟨-,-,i8⟩:=aD (c:=s[i]) (n:=46) he rfl
     have q:bI s.data.toList=cZ neg (s.extract o i).data.toList [] (s.data.toList.drop i):=by
      rw[HP.o,P.o,i1.o];exact wX he
     have m:=A q;clear q he;go_wp2_with fail;(all_goals(try go_step3));show gT s w 2 _ _/\f9 2<f9 1
     exact pE _ _ i neg _ [] rfl rfl (by first|exact D|rfl) (by first|exact F|rfl) (by first|exact h3|rfl) (by first|exact h4|rfl) (by first|exact h5|rfl) hi (d.setCell (lh _) _) ((aE _ (by simp)).trans j.o) (aB L.o _) m.o (by decide)
 .intro d;have C:=A d;clear d;by_cases D:0<s.size
  .have P:=A (drop_at D);by_cases hm:s[0]=45
   .have i0:((s[0].toNat:Nat):Int)=45:=by rw[hm];rfl
    have F:M (bI s.data.toList=cR U (s.data.toList.drop 1)):=A (by
     have:=P.o;rw[kz]at this;rw[this,hm];rfl)
    clear hm;by_cases G:1<s.size
    .have o:=A (drop_at G);have L:¬(1:Int)=(s.size:Int):=(by omega);have K:((1:Int)==(s.size:Int))=O:=(by simpa using L);by_cases d:isD s[1]=U
     .by_cases B:s[1]=48
      .have T:((s[1].toNat:Nat):Int)=48:=by rw[B];rfl
       have q:bI s.data.toList=bF U ((s.data.toList.drop 1).take (2-1)) (s.data.toList.drop 2):=by
        rw[F.o,o.o];exact nU B (by omega)
       have m:=A q;clear q B d;go_wp2_with fail;refine(wV _).mono ?_;rintro e w2 ⟨rfl,rfl⟩;go_wp2_with fail;(all_goals(try go_step3));show gT s w 1 _ _
       exact iJ _ _ 2 1 U rfl rfl rfl rfl rfl rfl rfl rfl (by omega) (by omega) ((fU _ _ _).2.2) (fU _ _ _).1 (fU _ _ _).2.1 m.o
      .obtain⟨-,h8,h9⟩:=aD (c:=s[1]) (n:=48) B rfl;have B:=A B;go_wp2_with fail;refine(dO s[1] _).mono ?_;rintro e w2 ⟨rfl,rfl⟩;rw[d];have d:=A d;go_wp2_with fail;go_loop [5] (λv=>∃k:Nat,1<=k/\k<=s.size/\v=H R k/\M (nT s 1 k)) (λv=>s.size-(aj v).toNat)
       case atStart=>exact⟨1,by omega,by omega,by go_num,A (nT.nil s _)⟩
       case round=>
        obtain⟨k,z,h,rfl,g⟩:=hrel;by_cases y:k<s.size
        .by_cases p:isD s[k]=U
         .go_wp2_with fail;refine(dO s[k] _).mono ?_;rintro e w2 ⟨rfl,rfl⟩;rw[p];go_wp2_with fail;refine⟨⟨k+1,by omega,by omega,by go_num,A (g.o.R0 y p)⟩,by simp[aj];omega⟩
         .have t:isD s[k]=O:=(by simpa using p);have b:=iT (s:=s) (f:=1) (k:=k) z h g.o (λ_=>t);go_wp2_with fail;refine(dO s[k] _).mono ?_;rintro e w2 ⟨rfl,rfl⟩;rw[t]
          have m:=A (show bI s.data.toList=bF U ((s.data.toList.drop 1).take (k-1)) (s.data.toList.drop k) by
           rw[F.o,<-b.1,<-b.2,o.o];exact iU d.o B.o rfl rfl)
          clear b p t;go_wp2_with fail;(all_goals(try go_step3));simp only[Exit.then]
          apply_assumption
          refine C.o 1 _ _ _ rfl ?_;exact iJ _ _ k 1 U rfl rfl rfl rfl rfl rfl rfl rfl (by omega) h ((fU _ _ _).2.2) (fU _ _ _).1 (fU _ _ _).2.1 m.o
        .have Q:k=s.size:=(by omega);subst Q;have b:=iT (s:=s) (f:=1) (k:=s.size) z h g.o (λa0=>absurd a0 y)
         have m:=A (show bI s.data.toList=bF U ((s.data.toList.drop 1).take (s.size-1)) (s.data.toList.drop s.size) by
          rw[F.o,<-b.1,<-b.2,o.o];exact iU d.o B.o rfl rfl)
         clear b;go_wp2_with fail;(all_goals(try go_step3));simp only[Exit.then]
         apply_assumption
         refine C.o 1 _ _ _ rfl ?_;exact iJ _ _ s.size 1 U rfl rfl rfl rfl rfl rfl rfl rfl (by omega) h ((fU _ _ _).2.2) (fU _ _ _).1 (fU _ _ _).2.1 m.o
     .have j:isD s[1]=O:=by simpa using d
      have q:bI s.data.toList=J:=by
       rw[F.o,o.o];exact nV j
      have m:=A q;clear q;go_wp2_with fail;refine(dO s[1] _).mono ?_;rintro e w2 ⟨rfl,rfl⟩;rw[j];clear d j;go_wp2_with fail;(all_goals(try go_step3));show gT s w 0 _ _
      exact iV _ _ 1 rfl rfl rfl rfl rfl rfl rfl (by omega) ((fU _ _ _).2.2) (fU _ _ _).1 m.o
    .have K:(1:Int)=(s.size:Int):=by omega
     have q:bI s.data.toList=J:=by
      rw[F.o,lk (by rw[jt];exact me.1 G)];rfl
     have m:=A q;clear q;go_wp2_with fail;(all_goals(try go_step3));show gT s w 0 _ _
     exact iV _ _ s.size rfl rfl rfl rfl rfl rfl rfl (by omega) ((fU _ _ _).2.2) (fU _ _ _).1 m.o
   .obtain⟨-,i0,i1⟩:=aD (c:=s[0]) (n:=45) hm rfl
    have F:M (bI s.data.toList=cR O (s.data.toList.drop 0)):=A (by
     have:=P.o;rw[kz]at this;rw[kz,this];exact aBu hm)
    clear hm;by_cases G:0<s.size
    .have o:=A (drop_at G);have L:¬(0:Int)=(s.size:Int):=(by omega);have K:((0:Int)==(s.size:Int))=O:=(by simpa using L);by_cases d:isD s[0]=U
     .by_cases B:s[0]=48
      .have T:((s[0].toNat:Nat):Int)=48:=by rw[B];rfl
       have q:bI s.data.toList=bF O ((s.data.toList.drop 0).take (1-0)) (s.data.toList.drop 1):=by
        rw[F.o,o.o];exact nU B (by omega)
       have m:=A q;clear q B d;go_wp2_with fail;refine(wV _).mono ?_;rintro e w2 ⟨rfl,rfl⟩;go_wp2_with fail;(all_goals(try go_step3));show gT s w 1 _ _
       exact iJ _ _ 1 0 O rfl rfl rfl rfl rfl rfl rfl rfl (by omega) (by omega) (((fU _ _ _).2.2)) (fU _ _ _).1 (fU _ _ _).2.1 m.o
      .obtain⟨-,h8,h9⟩:=aD (c:=s[0]) (n:=48) B rfl;have B:=A B;go_wp2_with fail;refine(dO s[0] _).mono ?_;rintro e w2 ⟨rfl,rfl⟩;rw[d];have d:=A d;go_wp2_with fail;go_loop [5] (λv=>∃k:Nat,0<=k/\k<=s.size/\v=H R k/\M (nT s 0 k)) (λv=>s.size-(aj v).toNat)
       case atStart=>exact⟨0,by omega,by omega,by go_num,A (nT.nil s _)⟩
       case round=>
        obtain⟨k,z,h,rfl,g⟩:=hrel;by_cases y:k<s.size
        .by_cases p:isD s[k]=U
         .go_wp2_with fail;refine(dO s[k] _).mono ?_;rintro e w2 ⟨rfl,rfl⟩;rw[p];go_wp2_with fail;refine⟨⟨k+1,by omega,by omega,by go_num,A (g.o.R0 y p)⟩,by simp[aj];omega⟩
         .have t:isD s[k]=O:=(by simpa using p);have b:=iT (s:=s) (f:=0) (k:=k) z h g.o (λ_=>t);go_wp2_with fail;refine(dO s[k] _).mono ?_;rintro e w2 ⟨rfl,rfl⟩;rw[t]
          have m:=A (show bI s.data.toList=bF O ((s.data.toList.drop 0).take (k-0)) (s.data.toList.drop k) by
           rw[F.o,<-b.1,<-b.2,o.o];exact iU d.o B.o rfl rfl)
          clear b p t;go_wp2_with fail;(all_goals(try go_step3));simp only[Exit.then]
          apply_assumption
          refine C.o 1 _ _ _ rfl ?_;exact iJ _ _ k 0 O rfl rfl rfl rfl rfl rfl rfl rfl (by omega) h (((fU _ _ _).2.2)) (fU _ _ _).1 (fU _ _ _).2.1 m.o
        .have Q:k=s.size:=(by omega);subst Q;have b:=iT (s:=s) (f:=0) (k:=s.size) z h g.o (λa0=>absurd a0 y)
         have m:=A (show bI s.data.toList=bF O ((s.data.toList.drop 0).take (s.size-0)) (s.data.toList.drop s.size) by
          rw[F.o,<-b.1,<-b.2,o.o];exact iU d.o B.o rfl rfl)
         clear b;go_wp2_with fail;(all_goals(try go_step3));simp only[Exit.then]
         apply_assumption
         refine C.o 1 _ _ _ rfl ?_;exact iJ _ _ s.size 0 O rfl rfl rfl rfl rfl rfl rfl rfl (by omega) h (((fU _ _ _).2.2)) (fU _ _ _).1 (fU _ _ _).2.1 m.o
     .have j:isD s[0]=O:=by simpa using d
      have q:bI s.data.toList=J:=by
       rw[F.o,o.o];exact nV j
      have m:=A q;clear q;go_wp2_with fail;refine(dO s[0] _).mono ?_;rintro e w2 ⟨rfl,rfl⟩;rw[j];clear d j;go_wp2_with fail;(all_goals(try go_step3));show gT s w 0 _ _
      exact iV _ _ 0 rfl rfl rfl rfl rfl rfl rfl (by omega) (((fU _ _ _).2.2)) (fU _ _ _).1 m.o
    .have K:(0:Int)=(s.size:Int):=by omega
     have q:bI s.data.toList=J:=by
      rw[F.o,lk (by rw[jt];exact me.1 G)];rfl
     have m:=A q;clear q;go_wp2_with fail;(all_goals(try go_step3));show gT s w 0 _ _
     exact iV _ _ 0 rfl rfl rfl rfl rfl rfl rfl (by omega) (((fU _ _ _).2.2)) (fU _ _ _).1 m.o
  .have b:s.data.toList= []:=by
    have:s.data.toList.length=0:=(by rw[jt];exact Nat.eq_zero_of_not_pos D);exact eb this
   have q:bI s.data.toList=J:=(by rw[b];rfl);have m:=A q;have d:¬(0:Int)<(s.size:Int):=(by omega);have g:(s.size:Int)=0:=(by omega);clear q b;go_wp2_with fail;(all_goals(try go_step3));show gT s w 0 _ _
   exact iV _ _ 0 rfl rfl rfl rfl rfl rfl rfl (by omega) ((fU _ _ _).2.2) (fU _ _ _).1 m.o
