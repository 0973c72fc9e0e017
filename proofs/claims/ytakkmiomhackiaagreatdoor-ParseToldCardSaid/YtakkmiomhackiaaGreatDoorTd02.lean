/-
  The program, one part of its walk. Conditions: none.
-/
import Derived.Test.YtakkmiomhackiaaGreatDoorTd01
import Derived.Lib.TrimByte
set_option linter.all false
set_option maxRecDepth 100000
set_option maxHeartbeats 16000000
open Go.Proofs.Tryz
open Bool renaming false->N,true->K
open Except renaming error->O,ok->U
open Go renaming Value->Z,World->X,lt_of_block->ah
open Go.Lib renaming trimLeftB->ag,trimRightB->aj
open Go.Proofs.YtakkmiomhackiaaGreatDoor.Lim renaming bitlen->ak
open Go.Value renaming slice->V
open Go.World renaming setCell->ar
open List renaming cons_append->bg,foldl_append->bc,foldl_cons->ai,getD->ao,getElem?_eq_some_iff->au,getElem?_map->aw,getElem?_take->av,getLast?_cons_cons->bj,length_cons->H
open Nat renaming add_mul->az,le_trans->ac,lt_of_lt_of_le->ae,mul_assoc->ba,mul_comm->af,pow_succ->E,strongRecOn->bh
open Option renaming none->J,some->I
open Or renaming inl->Y,inr->S
open UInt8 renaming ofNat->W
namespace Go.Proofs.YtakkmiomhackiaaGreatDoor
open Go.RowKit
section
structure Keeps(F:Nat->Prop)(w w':X):Prop where
 os:w'.os=w.os
 tape:w'.tape=w.tape
 output:w'.output=w.output
 size:w.heap.size<=w'.heap.size
 block:∀k,k<w.heap.size->¬F k->w'.heap[k]?=w.heap[k]?
def Since(F:Nat->Prop)(w w':X)(k:Nat):Prop:=F k\/(w.heap.size<=k/\k<w'.heap.size)
section
variable {F G:Nat->Prop} {w w1 w2 w':X}
theorem Keeps.A3(F:Nat->Prop)(w:X):Keeps F w w:=⟨rfl,rfl,rfl,Nat.le_refl _,λ_ _ _=>rfl⟩
theorem Keeps.A6(h:Keeps F w w')(a:∀k,F k->G k):Keeps G w w':=⟨h.os,h.tape,h.output,h.size,λk b c=>h.block k b (λd=>c (a k d))⟩
theorem Keeps.B9(h:Keeps F w w1)(a:Keeps G w1 w2)(e:∀k,G k->F k\/w.heap.size<=k):Keeps F w w2:=
 ⟨a.os.trans h.os,a.tape.trans h.tape,a.output.trans h.output,ac h.size a.size,λk b c=>
  (a.block k (ae b h.size) (λf=>(e k f).elim c (λd=>by omega))).trans (h.block k b c)⟩
theorem Keeps.B7(h:Keeps F w w1)(b:Keeps (Since F w w1) w1 w2):Keeps F w w2:=h.B9 b λ_ a=>a.elim Y (λh=>S h.1)
theorem Keeps.B8(h:Keeps F w w1)(b:Keeps F w1 w2):Keeps F w w2:=h.B9 b λ_ a=>Y a
theorem Keeps.A4(h:Keeps F w w1)(o:Obj):Keeps F w (w1.alloc o):=
 ⟨h.os,h.tape,h.output,ac h.size (by simp),λk a b=>(Below.heap_alloc _ _ _ (ae a h.size)).trans (h.block k a b)⟩
theorem Keeps.A2(h:Keeps F w w1){p:Addr}(a:F p.block\/w.heap.size<=p.block)(u:Z):Keeps F w (w1.setCell p u):=
 ⟨h.os,h.tape,h.output,ac h.size (by simp[ar]),λk c b=>(Below.heap_setCell _ _ _ _ (λe=>a.elim (λa=>b (by rw[e];exact a)) (λa=>by omega))).trans (h.block k c b)⟩
theorem Keeps.A9(h:Keeps F w w1):Keeps F w w1.drew:=⟨h.os,h.tape,h.output,h.size,h.block⟩
theorem Keeps.F9{a:Option Nat}(h:Keeps F w w1)(b:w1.grownBy w2 a)(f:∀k,a=I k->F k\/w.heap.size<=k):Keeps F w w2:=
 ⟨b.os.trans h.os,b.tape.trans h.tape,b.output.trans h.output,ac h.size b.size,λk c d=>
  (b.block k (ae c h.size) (λe=>(f k e.symm).elim d (λg=>by omega))).trans (h.block k c d)⟩
theorem Keeps.A5(h:Keeps F w w1)(a:Below w1.heap.size w1 w2):Keeps F w w2:=
 ⟨a.os.trans h.os,a.tape.trans h.tape,a.output.trans h.output,ac h.size a.size,λk b c=>(a.block k (ae b h.size)).trans (h.block k b c)⟩
theorem Keeps.A1(F:Nat->Prop)(h:Below w.heap.size w w'):Keeps F w w':=(Keeps.A3 F w).A5 h
theorem Keeps.B3(h:Keeps F w w'){n:Nat}(d:n<=w.heap.size)(b:∀k,F k->n<=k):Below n w w':=
 ⟨h.os,h.tape,h.output,h.size,λk c=>h.block k (by omega) (λa=>by have:=b k a;omega)⟩
theorem Keeps.C4(h:Keeps F w w'){k:Nat}{o:Obj}(a:w.heap[k]?=I o)(b:¬F k):w'.heap[k]?=I o:=(h.block k (ah a) b).trans a
theorem Keeps.B5(h:Keeps F w w'){p:Addr}{v:Z}(a:w.cell? p=I v)(b:¬F p.block):w'.cell? p=I v:=
 (World.cell?_of_block (h.block _ (World.block_lt_of_cell? w p a) b)).trans a
theorem Since.E7{k:Nat}(h:Since F w w1 k)(a:w1.heap.size<=w2.heap.size):Since F w w2 k:=h.elim Y (λh=>S ⟨h.1,by omega⟩)
theorem Since.B9{k:Nat}(h:Since (Since F w w1) w1 w2 k)(d:w.heap.size<=w1.heap.size)(b:w1.heap.size<=w2.heap.size):Since F w w2 k:=by
 rcases h with h|⟨c,a⟩
 .exact h.E7 b
 .exact S ⟨by omega,a⟩
end
def Win{b:Type}(e:Nat)(enc:b->Z)(w:X)(v:Z)(l:List b):Prop:=
 (v=V J 0 0/\l= [])\/
 ∃g off cap a,v=V (I ⟨g,off,J⟩) l.length cap/\w.heap[g]?=I (.cells a e (0,0))/\l.length<=cap/\off+cap<=a.size/\cap<=maxLen/\∀i x,l[i]?=I x->a[off+i]?=I (enc x)
section
variable {α:Type} {e:Nat} {enc:α->Z} {w:X} {v:Z} {l:List α}
theorem Win.E0(e:Nat)(enc:α->Z)(w:X):Win e enc w (V J 0 0) []:=Y ⟨rfl,rfl⟩
theorem Win.A0{F:Nat->Prop}{w':X}(h:Win e enc w v l)(c:Keeps F w w')(i:∀k,v.ownBlock=I k->¬F k):Win e enc w' v l:=by
 rcases h with f|⟨g,off,cap,b,rfl,d,a⟩
 .exact Y f
 .exact S ⟨g,off,cap,b,rfl,c.C4 d (i g rfl),a⟩
theorem Win.I6{B:Nat}(h:Row B e enc w v l):Win e enc w v l:=by
 rcases h.E3 with⟨rfl,rfl⟩|⟨g,cap,rfl,_,_,j,f,⟨b,d,k,c⟩,_⟩
 .exact .E0 _ _ _
 .refine S ⟨g,0,cap,b,rfl,d,j,by omega,f,λi x hi=>?_⟩;have:=congrArg (λx=>x[i]?) c;have a:i<l.length:=(au.1 hi).1;simp only[av,aw,if_pos a,Array.getElem?_toList,hi]at this
  simpa using this
theorem Win.A8(h:Win e enc w v l):∃a c,v=V a l.length c:=by
 rcases h with⟨rfl,rfl⟩|⟨g,off,cap,b,rfl,_⟩
 .exact⟨J,0,rfl⟩
 .exact⟨_,_,rfl⟩
theorem Win.L6{x:α}{g off cap:Nat}(h:Win e enc w (V (I ⟨g,off,J⟩) (l.length+1) cap) (x::l)):Win e enc w (V (I ⟨g,off+1,J⟩) l.length (cap-1)) l:=by
 rcases h with⟨b,_⟩|⟨m,c,d,a,b,f,k,n,o,hi⟩
 .cases b
 .cases b;simp only[H]at k;refine S ⟨g,off+1,cap-1,a,rfl,f,by omega,by omega,by omega,λi y j=>?_⟩;have:=hi (i+1) y (by simpa using j);rw[show off+1+i=off+(i+1) by omega];exact this
theorem Win.B5{g off n cap:Nat}(h:Win e enc w (V (I ⟨g,off,J⟩) n cap) l){i:Nat}{x:α}(j:l[i]?=I x):w.cell? ⟨g,off+i,J⟩=I (enc x):=by
 rcases h with⟨a,_⟩|⟨k,b,c,f,a,d,p,m,o,hi⟩
 .cases a
 .cases a;rw[aA d];exact hi i x j
theorem cW{t bytes:Nat}{T:Array Oper}{r:List Oper}{o:Oper}{a:Act}{a1:Exit->Act->X->Prop}(a2:Elem t e bytes)(hgd:o.guard=J)(s x:Operand)
 (ho:o.op=.call {callee:=.builtin .append,args:= #[s,x],argTypes:= #[t,t]})(hs:a.eval s=v)(hown:Win e enc w v l)(A:Addr)(c:Nat)(y:α)(hx:a.eval x=V (I A) 1 c)
 (hy:w.cell? A=I (enc y))(h1:(enc y).oneCell'=K)(hb:(l.length+1)*bytes<=140737488355328)(hm:l.length+1<=maxLen)
 (a0:∀g off cap w',Win e enc w' (V (I ⟨g,off,J⟩) (l.length+1) cap) (l++ [y])->(v.ownBlock=I g\/(w.heap.size<=g/\g<w'.heap.size))->w.grownBy w' v.ownBlock->wpList prog T a1 r (a.put o.dst (V (I ⟨g,off,J⟩) (l.length+1) cap)) w'):
 wpList prog T a1 (o::r) a w:=by
 obtain⟨ht,i,z,hi,hz,hsz,hby,hzs⟩:=a2
 have h:∀(j:Nat) u,[enc y][j]?=I u->w.cell? (A.add j)=I u:=by
  intro j u d
  match j,d with
  | 0,d=>
   simp at d;subst d;have:A.add 0=A:=by obtain⟨b,o,s⟩:=A;cases s<;>simp[Addr.add]
   rw[this];exact hy
  | j+1,d=>simp at d
 have C:∀u∈ [enc y],u.oneCell'=K:=by intro u hu;simp at hu;subst hu;exact h1
 rcases hown with⟨rfl,rfl⟩|⟨g,off,cap,D,rfl,F,hc,hof,hcm,m⟩
 .refine wpList_append_grows w hgd s x t ho e i z 1 bytes ht hi hz hsz hby hzs (by decide) J 0 0 [] hs (λ_=>⟨rfl,rfl⟩) rfl (by intro b hb;cases hb) A 1 c [enc y] hx rfl h C (by omega) (by simp at hm;omega) (by simp at hb;omega) ?_;intro v' w' n f;rcases n.2 with⟨_,hn⟩|⟨g,cap,D,rfl,p,F,G,P,Q,R⟩
  .omega
  .refine a0 g 0 cap w' (Win.I6 (B:=w.heap.size) ⟨by simp,S ⟨g,cap,D,rfl,p,F,by simpa using G,P,by simpa using Q,by simpa using R⟩⟩) (S ⟨p,ah F⟩) f
 .refine wpList_append_arg w hgd s x t ho e i z 1 bytes ht hi hz hsz hby hzs (by decide) g off l.length cap (l.map enc) hs (by simp) ?_ A 1 c [enc y] hx rfl h C ?_ hm hb ?_ ?_
  .intro j u d;rw[aA F];rw[aw]at d;cases q:l[j]? with
   | none=>rw[q]at d;cases d
   | some z=>rw[q]at d;simp at d;subst d;exact m j z q
  .intro q j d;simp at d;subst d;refine⟨?_,free_at F _⟩;rw[aA F,Array.getElem?_eq_getElem (by simp;omega)];rfl
  .intro q;have hset:w.setCells g (off+l.length*1) [enc y]=w.setCell ⟨g,off+l.length,J⟩ (enc y):=by simp[World.setCells]
   rw[hset];refine a0 g off cap _ (S ⟨g,off,cap,D.setIfInBounds (off+l.length) (enc y),by simp,aB F _,by simpa using q,by simpa using hof,hcm,?_⟩) (Y rfl) ?_
   .intro j z d;rw[Array.getElem?_setIfInBounds]
    by_cases hjl:j<l.length
    .rw[if_neg (by omega)];rw[List.getElem?_append_left hjl]at d;exact m j z d
    .rw[List.getElem?_append_right (by omega)]at d
     have:j=l.length:=by
      have:=(au.1 d).1;simp at this;omega
     subst this;simp at d;subst d;rw[if_pos rfl,if_pos (by omega)]
   .exact⟨rfl,rfl,rfl,by simp[ar],λk hk d=>aE _ (λe=>d (by subst e;rfl))⟩
  .intro hfull v' w' n f;rcases n.2 with⟨_,hn⟩|⟨g',d,q,rfl,p,hg',G,P,Q,R⟩
   .omega
   .refine a0 g' 0 d w' (Win.I6 (B:=w.heap.size) ⟨by simp,S ⟨g',d,q,by simp,p,hg',by simpa using G,P,by simpa using Q,by simpa using R⟩⟩) (S ⟨p,ah hg'⟩) ⟨f.os,f.tape,f.output,f.size,λk hk _=>f.block k hk (by simp)⟩
end
end
def bM(l:List UInt8):Nat:=l.foldl (λa b=>10*a+(b.toNat-48)) 0
theorem aFQ(l:List UInt8)(a:Nat):l.foldl (λa b=>10*a+(b.toNat-48)) a=a*10^l.length+bM l:=by
 unfold bM
 induction l generalizing a with
 | nil=>simp
 | cons x l c=>
  rw[ai,ai,c,c (10*0+(x.toNat-48)),H,E,az,az,Nat.mul_zero,Nat.zero_mul,Nat.zero_add,af (10^l.length) 10,<-ba,af a 10,Nat.add_assoc]
theorem jJ(l r:List UInt8):bM (l++r)=bM l*10^r.length+bM r:=by
 rw[bM,bc,aFQ];rfl
theorem sD(l:List UInt8)(x:UInt8):bM (l++ [x])=10*bM l+(x.toNat-48):=by
 rw[bM,bc];rfl
theorem aDf(q:Nat)(l:List UInt8):bM (List.replicate q 48++l)=bM l:=by
 induction q with
 | zero=>rfl
 | succ q a=>rw[List.replicate_succ,bg,bM,ai,<-a];rfl
theorem j8{l:List UInt8}(h:∀x∈l,x.toNat<=57):bM l<10^l.length:=by
 induction l with
 | nil=>simp[bM]
 | cons x l a=>
  have d:=h x (by simp);have c:=a (λy b=>h y (by simp[b]))
  have e:bM (x::l)=(x.toNat-48)*10^l.length+bM l:=by
   have:=jJ [x] l
   simpa[bM]using this
  rw[e,H,E];have:(x.toNat-48)*10^l.length<=9*10^l.length:=Nat.mul_le_mul_right _ (by omega);omega
def isD(c:UInt8):Bool:=decide (48<=c.toNat)&&decide (c.toNat<=57)
structure Lit where
 neg:Bool
 whole:List UInt8
 behind:List UInt8
 under:Bool
 exp:List UInt8
def bY(t:List UInt8):Bool×List UInt8:=match t with
 | c::a=>if c=43\/c=45 then(c==45,a)else(N,c::a)
 | []=>(N,[])
def cT(neg:Bool)(b a r:List UInt8):Option Lit:=match r with
 | []=>I ⟨neg,b,a,N,[]⟩
 | e::t=>if e=101\/e=69 then
  (if(bY t).2.takeWhile isD= []\/(bY t).2.dropWhile isD≠ []then J else I ⟨neg,b,a,(bY t).1,(bY t).2.takeWhile isD⟩)
  else J
def bC(neg:Bool)(a r:List UInt8):Option Lit:=match r with
 | []=>cT neg a [] []
 | c::t=>if c=46 then(if t.takeWhile isD= []then J else cT neg a (t.takeWhile isD) (t.dropWhile isD))else cT neg a [] (c::t)
def cN(neg:Bool)(r:List UInt8):Option Lit:=match r with
 | []=>J
 | c::t=>if isD c then(if c=48 then bC neg [48] t else bC neg ((c::t).takeWhile isD) ((c::t).dropWhile isD))else J
def bG(s:List UInt8):Option Lit:=match s with
 | []=>J
 | c::t=>if c=45 then cN K t else cN N (c::t)
structure Dml where
 neg:Bool
 digits:List UInt8
 exp:Int
def cX(a:Nat)(c:UInt8):Nat:=if a<35184372088832 then 10*a+(c.toNat-48)else a
def fE(l:List UInt8):Nat:=l.foldl cX 0
def bZ(neg:Bool)(a:List UInt8)(e:Int):Dml:=
 if aj (ag a 48) 48= []then⟨N,[],0⟩
 else⟨neg,aj (ag a 48) 48,e+(ag a 48).length-(aj (ag a 48) 48).length⟩
def cU(l:Lit):Dml:=bZ l.neg (l.whole++l.behind) ((if l.under then -(fE l.exp:Int)else fE l.exp)-l.behind.length)
structure Cut where
 bits:Nat
 half:Int
 exact:Bool
def aJ:Nat:=9218868437227405311
def mZ(a b:Nat):Int:=66-((ak a:Int)-ak b)
def j4(q b:Nat)(c:Int):Cut:=
 let k:Int:=max ((ak q:Int)-53-c) (-1074)
 let j:=(k+c).toNat
 let a:=(k+1074).toNat*4503599627370496+q/2^j
 if aJ<a then⟨aJ,1,N⟩
 else⟨a,if q/2^(j-1)%2=1 then(if q%2^(j-1)≠0\/b≠0 then 1 else 0)else -1, !(decide (q%2^j≠0)||decide (b≠0))⟩
def bF(a b:Nat):Cut:=
 let n:=a*2^(mZ a b).toNat
 let d:=b*2^(- mZ a b).toNat
 j4 (n/d) (n%d) (mZ a b)
def bD(a:List UInt8):List UInt8:=if 800<a.length then a.take 800++ [49]else a
def dX(a:List UInt8)(e:Int):Int:=if 800<a.length then e+(a.length-801)else e
def bP(d:Dml):Cut:=
 if d.digits= []then⟨0,0,K⟩
 else if 310<(d.digits.length:Int)+d.exp then⟨aJ,1,N⟩
 else if(d.digits.length:Int)+d.exp< -330 then⟨0,-1,N⟩
 else if 0<=dX d.digits d.exp then bF (bM (bD d.digits)*10^(dX d.digits d.exp).toNat) 1
 else bF (bM (bD d.digits)) (10^(- dX d.digits d.exp).toNat)
def b8(c:Cut):Nat:=if c.half=0/\c.bits%2=0 then c.bits else if 0<=c.half/\c.exact=N then c.bits+1 else c.bits
def cD(d:Dml):Option Nat:=
 if aJ<b8 (bP d)then J else I (if d.neg=K/\0<b8 (bP d)then b8 (bP d)+9223372036854775808 else b8 (bP d))
def bitsOf(s:List UInt8):Option Nat:=(bG s).bind λl=>cD (cU l)
example:bitsOf [49]=I 4607182418800017408:=by decide
example:bitsOf [55]=I 4619567317775286272:=by decide
example:bitsOf [49,46,53,101,45,51]=I 4564560351926583034:=by decide
structure Form where
 wide:Nat
 low:Nat
 high:Nat
def aC(c:UInt8):Form:=
 if c.toNat<128 then⟨1,0,0⟩else if c.toNat<194 then⟨0,0,0⟩else if c.toNat<224 then⟨2,128,191⟩else if c.toNat=224 then⟨3,160,191⟩
 else if c.toNat=237 then⟨3,128,159⟩else if c.toNat<240 then⟨3,128,191⟩else if c.toNat=240 then⟨4,144,191⟩else if c.toNat<244 then⟨4,128,191⟩
 else if c.toNat=244 then⟨4,128,143⟩else⟨0,0,0⟩
def Form.D5(f:Form)(i:Nat)(c:UInt8):Bool:=if i=1 then decide (f.low<=c.toNat)&&decide (c.toNat<=f.high)else decide (128<=c.toNat)&&decide (c.toNat<=191)
def aK(held:List UInt8)(c:UInt8):Option (List UInt8):=match held with
 | []=>if(aC c).wide=0 then J else if 1<(aC c).wide then I [c]else I []
 | h::t=>if(aC h).D5 (h::t).length c then(if(h::t).length+1=(aC h).wide then I []else I ((h::t)++ [c]))else J
def aP(held:List UInt8)(l:List UInt8):Option (List UInt8):=l.foldl (λa c=>a.bind λh=>aK h c) (I held)
def aT(l:List UInt8):Bool:=aP [] l==I []
def aS(r:Nat):List UInt8:=
 if r<128 then [W r]
 else if r<2048 then [W (192+r/64),W (128+r%64)]
 else if r<65536 then [W (224+r/4096),W (128+r/64%64),W (128+r%64)]
 else [W (240+r/262144),W (128+r/4096%64),W (128+r/64%64),W (128+r%64)]
inductive St|outside|letter|numeral|within|escape|digit|slash|letterU
deriving DecidableEq
structure Lx where
 place:Nat
 st:St
 isIn:Bool
 start:Nat
 raw:List UInt8
 number:Nat
 held:List UInt8
 says:List UInt8
 digits:Nat
 code:Nat
 high:Nat
inductive Tok|mark(at_:Nat)(sign:UInt8)|term(at_ size:Nat)(name:List UInt8)|num(at_ size bits:Nat)|str(at_ size:Nat)(text:List UInt8)
def aQ(s:Nat)(c:UInt8):Option Nat:=
 if s=0/\c=45 then I 1
 else if(s=0\/s=1)/\c=48 then I 2
 else if(s=0\/s=1\/s=3)/\isD c then I 3
 else if(s=2\/s=3)/\c=46 then I 4
 else if(s=4\/s=5)/\isD c then I 5
 else if(s=2\/s=3\/s=5)/\(c=101\/c=69)then I 6
 else if s=6/\(c=43\/c=45)then I 7
 else if(s=6\/s=7\/s=8)/\isD c then I 8 else J
def bI(s:Nat):Bool:=s=2||s=3||s=5||s=8
def aX(c:UInt8):Bool:=c=32||c=9||c=10||c=13
def bJ(c:UInt8):Bool:=c=123||c=125||c=91||c=93||c=58||c=44
def aN(c:UInt8):List UInt8:=if c=110 then [110,117,108,108]else if c=116 then [116,114,117,101]else if c=102 then [102,97,108,115,101]else []
def cO(c:UInt8):Option UInt8:=
 if c=34\/c=92\/c=47 then I c else if c=98 then I 8 else if c=102 then I 12 else if c=110 then I 10 else if c=114 then I 13 else if c=116 then I 9 else J
def hexOf(c:UInt8):Option Nat:=
 if 48<=c.toNat/\c.toNat<=57 then I (c.toNat-48)else if 97<=c.toNat/\c.toNat<=102 then I (c.toNat-87)else if 65<=c.toNat/\c.toNat<=70 then I (c.toNat-55)else J
structure mW where
 lx:Lx
 toks:List Tok
 no:Nat
def Lx.F3(x:Lx):Lx:={x with isIn:=N,st:=.outside}
def kO(x:Lx)(c:UInt8):mW:=match aQ 0 c with
 | some s=>⟨{x with st:=.numeral,number:=s,raw:= [c]},[],0⟩
 | none=>⟨{x with st:=.numeral},[],94⟩
def aO(x:Lx)(c:UInt8):mW:=
 if aX c then⟨x,[],0⟩
 else
  let y:Lx:={x with isIn:=K,start:=x.place,raw:= [],number:=0}
  if bJ c then⟨y.F3,[.mark x.place c],0⟩
  else if c=34 then⟨{y with st:=.within,held:= [],says:= [],digits:=0,code:=0,high:=0},[],0⟩
  else if c=45\/isD c then kO y c
  else if aN c≠ []then⟨{y with st:=.letter,raw:= [c]},[],0⟩
  else⟨y,[],94⟩
def cJ(x:Lx)(c:UInt8):mW:=
 let a:=aN (x.raw.headD 0)
 if a[x.raw.length]?=I c then
  (if x.raw.length+1=a.length then⟨{x with raw:=x.raw++ [c]}.F3,[.term x.start (x.place+1-x.start) a],0⟩else⟨{x with raw:=x.raw++ [c]},[],0⟩)
 else⟨x,[],94⟩
def Lx.C0(x:Lx):Option (Lx×Tok):=(bitsOf x.raw).map λb=>(x.F3,.num x.start (x.place-x.start) b)
def bV(x:Lx)(c:UInt8):mW:=match aQ x.number c with
 | some s=>⟨{x with number:=s,raw:=x.raw++ [c]},[],0⟩
 | none=>if bI x.number then(match x.C0 with
  | none=>⟨x,[],41⟩
  | some (y,t)=>let r:=aO y c;⟨r.lx,t::r.toks,r.no⟩)
  else⟨x,[],94⟩
def bW(x:Lx)(c:UInt8):mW:=
 if x.held= []/\c=34 then⟨x.F3,[.str x.start (x.place+1-x.start) x.says],0⟩
 else if x.held= []/\c=92 then⟨{x with st:=.escape},[],0⟩
 else if x.held= []/\c.toNat<32 then⟨x,[],91⟩
 else match aK x.held c with
  | none=>⟨x,[],90⟩
  | some h=>⟨{x with held:=h,says:=x.says++ [c]},[],0⟩
def dK(x:Lx)(c:UInt8):mW:=
 if c=117 then⟨{x with digits:=0,code:=0,st:=.digit},[],0⟩
 else match cO c with
  | none=>⟨x,[],92⟩
  | some b=>⟨{x with says:=x.says++ [b],st:=.within},[],0⟩
def Lx.M5(x:Lx)(v:Nat):Bool:=
 if x.high≠0/\x.digits=0 then v≠13 else if x.high≠0/\x.digits=1 then v<12 else x.high=0&&x.digits=1&&x.code=13&&12<=v
def Lx.F5(x:Lx):Lx:=
 if x.high≠0 then{x with high:=0,says:=x.says++aS (65536+(x.high-55296)*1024+x.code-56320),st:=.within}
 else if 55296<=x.code/\x.code<=56319 then{x with high:=x.code,st:=.slash}
 else{x with says:=x.says++aS x.code,st:=.within}
def dC(x:Lx)(c:UInt8):mW:=match hexOf c with
 | none=>⟨x,[],if x.high=0 then 92 else 93⟩
 | some v=>if x.M5 v then⟨x,[],93⟩
  else
   let y:Lx:={x with code:=x.code*16+v,digits:=x.digits+1}
   ⟨if x.digits+1=4 then y.F5 else y,[],0⟩
def fA(x:Lx)(c:UInt8):mW:=if c=92 then⟨{x with st:=.letterU},[],0⟩else⟨x,[],93⟩
def dO(x:Lx)(c:UInt8):mW:=if c=117 then⟨{x with digits:=0,code:=0,st:=.digit},[],0⟩else⟨x,[],93⟩
def Lx.B4(x:Lx)(c:UInt8):mW:=match x.st with
 | .outside=>aO x c
 | .letter=>cJ x c
 | .numeral=>bV x c
 | .within=>bW x c
 | .escape=>dK x c
 | .digit=>dC x c
 | .slash=>fA x c
 | .letterU=>dO x c
def Lx.B0(x:Lx)(c:UInt8):Lx×List Tok×Nat×Nat:=
 if x.place=16777216 then(x,[],3,x.place)
 else
  let r:=x.B4 c
  if r.no=0 then({r.lx with place:=x.place+1},r.toks,0,0)else(r.lx,r.toks,r.no,if r.no=41 then r.lx.start else x.place)
def Lx.C6(x:Lx):Lx×List Tok×Nat×Nat:=
 if x.isIn=N then(x,[],0,0)
 else if bI x.number=N then(x,[],95,x.place)
 else match x.C0 with
  | none=>(x,[],41,x.start)
  | some (y,t)=>(y,[t],0,0)
def Lx.I0:Lx:=⟨0,.outside,N,0,[],0,[],[],0,0,0⟩
section
inductive Tr|null|flag(b:Bool)|num(bits:Nat)|text(s:List UInt8)|list(l:List Tr)|object(keys:List (List UInt8))(l:List Tr)
structure Sz where
 nodes:Nat
 bytes:Nat
 depth:Nat
def Sz.C3(s:Sz):Bool:=decide (s.nodes<=65536)&&decide (s.bytes<=2097152)&&decide (s.depth<=512)
def fX(bytes:Nat)(l:List Sz):Sz:=let s:Sz:=l.foldl (λ(a z:Sz)=>(⟨a.nodes+z.nodes,a.bytes+z.bytes,max a.depth z.depth⟩:Sz)) ⟨1,bytes,0⟩;{s with depth:=s.depth+1}
def bA(keys:List (List UInt8)):Nat:=keys.foldl (λa k=>a+k.length) 0
def Tr.A7:Tr->Sz
 | .null| .flag _| .num _=>⟨1,0,1⟩
 | .text s=>⟨1,s.length,1⟩
 | .list l=>fX 0 (l.attach.map λx=>Tr.A7 x.1)
 | .object keys l=>fX (bA keys) (l.attach.map λx=>Tr.A7 x.1)
termination_by t=>t
decreasing_by all_goals(simp_wf;have:=List.sizeOf_lt_of_mem x.2;omega)
def oL(items:List Tr)(x:Tr):List Tr:=if x.A7.C3 then items++ [x]else items
def aY(items:List Tr)(x:Tr):List Tr:=if 65536<=items.length then items else oL items x
def dY(a:Nat):Nat:=if a=9223372036854775808 then 0 else a
def iO(items:List Tr)(a:Nat):List Tr:=aY items (.num (dY a))
def gC(items:List Tr)(s:List UInt8):List Tr:=if aT s then aY items (.text s)else items
def fY(items:List Tr)(n:Nat)(x:Tr):List Tr:=if x.A7.C3 then items.take (items.length-n)++ [x]else items
def eD(items:List Tr)(n:Nat):List Tr:=if items.length<n then items else fY items n (.list (items.drop (items.length-n)))
inductive Fr|list(many:Nat)|object(keys:List (List UInt8))
structure Ps where
 depth:Nat
 place:Nat
 lex:Lx
 items:List Tr
 pile:List Fr
 want:Nat
 nodes:Nat
 bytes:Nat
abbrev Out:=Except (Nat×Nat) Ps
def Ps.D0(p:Ps)(a:Nat):Out:=
 if p.want≠0/\p.want≠1 then O (120,a)else if p.pile.length=p.depth then O (121,a)else if p.nodes=65536 then O (3,a)else U {p with nodes:=p.nodes+1}
def Ps.E2(p:Ps)(c:UInt8):Out:=if c=34/\(p.want=2\/p.want=3)then U p else p.D0 p.place
def more(l:List Fr):List Fr:=match l.getLast? with
 | some (.list n)=>l.dropLast++ [.list (n+1)]
 | _=>l
def Ps.C7(p:Ps):Ps:={p with want:=if p.pile= []then 6 else 5,pile:=more p.pile}
def Ps.F4(p:Ps)(s:List UInt8)(a:Nat):Out:=if 2097152<p.bytes+s.length then O (3,a)else U {p with bytes:=p.bytes+s.length}
def fO(l:List Fr):List (List UInt8):=match l.getLast? with
 | some (.object k)=>k
 | _=> []
def iU(l:List Fr):Bool:=match l.getLast? with
 | some (.object _)=>K
 | _=>N
def Ps.F7(p:Ps)(a:Nat)(s:List UInt8):Out:=
 if p.want≠2/\p.want≠3 then(p.F4 s a).map λp=>Ps.C7 {p with items:=gC p.items s}
 else if s∈fO p.pile then O (101,a)
 else(Ps.F4 {p with pile:=p.pile.dropLast++ [.object (fO p.pile++ [s])]} s a).map λp=>{p with want:=4}
def uV:Fr->UInt8
 | .list _=>93
 | .object _=>125
def Ps.D9(p:Ps)(a:UInt8):Bool:=(match p.pile.getLast? with
 | some f=>uV f=a
 | none=>N)&&(p.want=5||p.want=1||p.want=2)
def Ps.G0(p:Ps)(x:Tr):Ps:=Ps.C7 {p with items:=aY p.items x}
def jY(a:List UInt8):Tr:=if a= [110,117,108,108]then .null else .flag (a= [116,114,117,101])
section
variable (putObject:List Tr->List (List UInt8)->List Tr)
def Ps.C5(p:Ps):Ps:=match p.pile.getLast? with
 | some (.list n)=>Ps.C7 {p with pile:=p.pile.dropLast,items:=eD p.items n}
 | some (.object k)=>Ps.C7 {p with pile:=p.pile.dropLast,items:=putObject p.items k}
 | none=>p
def Ps.D3(p:Ps)(b:Nat)(a:UInt8):Out:=
 if a=91 then(p.D0 b).map λp=>{p with pile:=p.pile++ [.list 0],want:=1}
 else if a=123 then(p.D0 b).map λp=>{p with pile:=p.pile++ [.object []],want:=2}
 else if a=58/\p.want=4 then U {p with want:=0}
 else if a=44/\p.want=5 then U {p with want:=if iU p.pile then 3 else 0}
 else if p.D9 a then U (p.C5 putObject)
 else O (120,b)
def Ps.E8(p:Ps):Tok->Out
 | .mark a s=>p.D3 putObject a s
 | .str a _ s=>p.F7 a s
 | .term _ _ n=>U (p.G0 (jY n))
 | .num _ _ b=>U (Ps.C7 {p with items:=iO p.items b})
def Ps.D4(p:Ps)(l:List Tok):Out:=l.foldlM (λp t=>p.E8 putObject t) p
def nG(no:Nat):Nat:=if no=94 then 120 else no
def Lx.F0(x:Lx):Nat:=if x.isIn then x.place-x.start else 0
def Ps.B0(p:Ps)(c:UInt8):Out:=
 let r:=p.lex.B0 c
 match Ps.D4 putObject {p with lex:=r.1} r.2.1 with
 | .error e=>O e
 | .ok q=>
  if r.2.2.1≠0 then O (nG r.2.2.1,r.2.2.2)
  else match(if r.1.F0=1 then q.E2 c else U q)with
   | .error e=>O e
   | .ok q=>U {q with place:=q.place+1}
def Ps.D7(p:Ps)(l:List UInt8):Out:=l.foldlM (λp c=>p.B0 putObject c) p
def Ps.C0(p:Ps):Out:=
 let r:=p.lex.C6
 match Ps.D4 putObject {p with lex:=r.1} r.2.1 with
 | .error e=>O e
 | .ok q=>if r.2.2.1≠0 then O (nG r.2.2.1,r.2.2.2)else if q.want≠6 then O (95,q.place)else U q
def Ps.I0(depth:Nat):Ps:=⟨depth,0,Lx.I0,[],[],0,0,0⟩
def Ps.J7(l:List UInt8)(depth:Nat):Out:=match(Ps.I0 depth).D7 putObject l with
 | .error e=>O e
 | .ok p=>p.C0 putObject
end
end
end Go.Proofs.YtakkmiomhackiaaGreatDoor
namespace Go.Proofs.YtakkmiomhackiaaGreatDoor.Fig
def val:List Nat->Nat
 | []=>0
 | x::a=>x+10000*val a
def figs(n:Nat):List Nat:=if h:n=0 then []else n%10000::figs (n/10000)
termination_by n
decreasing_by omega
theorem figs_zero:figs 0= []:=by rw[figs];simp
theorem figs_pos{n:Nat}(h:n≠0):figs n=n%10000::figs (n/10000):=by rw[figs];simp[h]
theorem val_figs(n:Nat):val (figs n)=n:=by
 induction n using bh with
 | ind n a=>
  by_cases h:n=0
  .subst h;rw[figs_zero];rfl
  .rw[figs_pos h];simp only[val];rw[a (n/10000) (by omega)];omega
def Small(l:List Nat):Prop:=∀x∈l,x<10000
theorem small_figs(n:Nat):Small (figs n):=by
 induction n using bh with
 | ind n b=>
  by_cases h:n=0
  .subst h;rw[figs_zero];intro x a;cases a
  .rw[figs_pos h];intro x a;rcases List.mem_cons.1 a with rfl|a
   .exact Nat.mod_lt _ (by decide)
   .exact b (n/10000) (by omega) x a
theorem small_cons{x:Nat}{l:List Nat}:Small (x::l)<->x<10000/\Small l:=by
 unfold Small;simp
theorem small_append{a b:List Nat}:Small (a++b)<->Small a/\Small b:=by
 unfold Small;simp only[List.mem_append];exact⟨λh=>⟨λx c=>h x (Y c),λx c=>h x (S c)⟩,λh x c=>c.elim (h.1 x) (h.2 x)⟩
theorem small_take{l:List Nat}(h:Small l)(n:Nat):Small (l.take n):=λx a=>h x (List.mem_of_mem_take a)
theorem val_append(a b:List Nat):val (a++b)=val a+10000^a.length*val b:=by
 induction a with
 | nil=>simp[val]
 | cons x a c=>simp only[bg,val,c,H,E];rw[Nat.mul_add,<-ba,af 10000 (10000^a.length)];omega
theorem val_lt{l:List Nat}(h:Small l):val l<10000^l.length:=by
 induction l with
 | nil=>simp[val]
 | cons x l a=>
  obtain⟨c,b⟩:=small_cons.1 h;have:=a b;simp only[val,H,E]
  omega
theorem figs_val{l:List Nat}(h:Small l)(c:l.getLast?≠I 0):figs (val l)=l:=by
 induction l with
 | nil=>exact figs_zero
 | cons x l d=>
  obtain⟨m,e⟩:=small_cons.1 h;have k:(x+10000*val l)/10000=val l:=by omega
  have i:(x+10000*val l)%10000=x:=by omega
  have g:x+10000*val l≠0:=by
   intro g;have b:x=0:=by omega
   have a:val l=0:=by omega
   cases l with
   | nil=>subst b;exact c rfl
   | cons y j=>
    have f:=d e (by simpa[bj]using c);rw[a,figs_zero]at f;cases f
  simp only[val];rw[figs_pos g,k,i];cases l with
  | nil=>simp[val,figs_zero]
  | cons y j=>rw[d e (by simpa[bj]using c)]
theorem figs_take{l:List Nat}(h:Small l){k:Nat}(d:k<=l.length)(n:∀i,k<=i->l.getD i 0=0)(a:k=0\/l.getD (k-1) 0≠0):
 figs (val l)=l.take k:=by
 have f:val l=val (l.take k):=by
  have e:=val_append (l.take k) (l.drop k);rw[List.take_append_drop]at e
  have j:val (l.drop k)=0:=by
   have:∀m:List Nat,(∀i,m.getD i 0=0)->val m=0:=by
    intro m;induction m with
    | nil=>intro _;rfl
    | cons y m g=>intro c;simp only[val];rw[g (λi=>by simpa using c (i+1))];have:=c 0;simp at this;omega
   refine this _ (λi=>?_);have:=n (k+i) (by omega)
   simpa[ao,List.getElem?_drop]using this
  rw[j]at e;simpa using e
 rw[f];refine figs_val (small_take h k) ?_;rcases a with rfl|a
 .simp
 .intro b;rcases Nat.eq_zero_or_pos k with rfl|o
  .simp at b
  .rw[List.getLast?_eq_getElem?,List.length_take,Nat.min_eq_left d,av,if_pos (by omega)]at b;exact a (by simp[ao,b])
theorem figs_length_le{n k:Nat}(h:n<10000^k):(figs n).length<=k:=by
 induction k generalizing n with
 | zero => have : n = 0 := by simpa using h
           subst this;simp[figs_zero]
 | succ k b=>
  by_cases a:n=0
  .subst a;simp[figs_zero]
  .rw[figs_pos a];simp only[H];have:=b (n:=n/10000) (by rw[E]at h;exact Nat.div_lt_of_lt_mul (by rw[af];exact h));omega
theorem lt_of_figs_length{n k:Nat}(h:(figs n).length<=k):n<10000^k:=by
 have:=val_lt (small_figs n);rw[val_figs]at this;exact ae this (Nat.pow_le_pow_right (by decide) h)
theorem figs_getD(n i:Nat):(figs n).getD i 0=n/10000^i%10000:=by
 induction i generalizing n with
 | zero=>
  by_cases h:n=0
  .subst h;simp[figs_zero]
  .rw[figs_pos h];simp
 | succ i a=>
  by_cases h:n=0
  .subst h;simp[figs_zero]
  .rw[figs_pos h];have:(n%10000::figs (n/10000)).getD (i+1) 0=(figs (n/10000)).getD i 0:=by simp[ao]
   rw[this,a,Nat.div_div_eq_div_mul,E,af 10000]
end Go.Proofs.YtakkmiomhackiaaGreatDoor.Fig
