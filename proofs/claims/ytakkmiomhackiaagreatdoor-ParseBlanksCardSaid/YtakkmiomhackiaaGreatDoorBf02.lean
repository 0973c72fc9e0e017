/-
  The program, one part of its walk. Conditions: none.
-/
import Derived.Test.YtakkmiomhackiaaGreatDoorBf01
import Derived.Lib.TrimByte
import Derived.Scope
import Derived.WalkMore
set_option linter.all false
set_option maxRecDepth 100000
set_option maxHeartbeats 16000000
open Go.Proofs.Tryz
open Array renaming length_toList->av
open Bool renaming false->J,true->U
open Except renaming error->ag,ok->ai
open Go renaming Act->L,Exit->cu,Value->af,World->S,bodyPost_ret->dx,findLabel->bm,heap_alloc_new->gm,lt_of_block->em,results->dy,step_inScope->fu,step_scope->bz,undef->R
open Go.Arrives renaming of_steps->dh
open Go.Code renaming scope->fm,skip->dt
open Go.Ending renaming returned->di
open Go.FloatKind renaming f64->ep
open Go.IntKind renaming i64->H
open Go.Item renaming inScope->cw
open Go.Lib renaming trimLeftB->dp,trimRightB->ek
open Go.Obj renaming cells->aj
open Go.Proofs.Tryz renaming func228->ev,ntmps228->ew,prog->cv,results208->ee
open Go.Proofs.YtakkmiomhackiaaGreatDoor.Lim renaming bitlen->ct,bitlen_gt->gl
open Go.RowKit renaming Below->h,Hid->ba,intOf->ak
open Go.RowKit.Below renaming heap_alloc->fg
open Go.Steps renaming one->cz,trans->ft
open Go.Value renaming agg->dj,bool->E,int->W,pointer->aw,slice->ar,string->ac,tuple->bp
open Go.World renaming block_lt_of_cell?->fi,setCell->fh
open Ieee renaming double->ah,signed->bh
open Ieee.Datum renaming number->eo,order->cg
open Ieee.Format renaming read->gn
open Int.ofNat renaming inj->gq
open List renaming drop_eq_nil_of_le->bk,drop_zero->ez,foldl_append->fe,foldl_cons->ei,getElem?_eq_some_iff->fj,getElem?_map->fk,length->eh,length_cons->ej,take_zero->dm
open Nat renaming add_assoc->fc,add_comm->ga,add_mul->bc,add_sub_cancel->du,div_add_mod->gd,div_eq_of_lt->fw,le_antisymm->gk,le_of_eq->dv,le_refl->V,le_succ->T,le_trans->bx,lt_of_le_of_lt->fv,lt_of_lt_of_le->dq,lt_or_ge->ge,mod_eq_of_lt->cj,mod_lt->gc,mul_assoc->bu,mul_comm->cr,mul_le_mul_right->bw,mul_le_mul_right_iff->gh,mul_mul_mul_comm->et,mul_right_comm->eu,not_le->gj,not_lt->dw,one_mul->ck,pow_add->bj,pow_succ->co,shiftLeft_eq->fz,strongRecOn->fq,sub_self->dl,two_pow_pos->au,zero_add->fa
open Option renaming none->O,some->I
open Option.some renaming inj->go,injEq->gp
open Or renaming inl->ae,inr->Z
open UInt8 renaming ofNat->ao
namespace Go.Proofs.YtakkmiomhackiaaGreatDoor
open Go.RowKit
variable {X Y b f k n p p' q q':Nat}{d r t:Oo}{c:UInt8}{s:ByteArray}{neg:Bool}
def bO(l:List UInt8):Nat:=l.foldl (λa b=>10*a+(b.toNat-48)) 0
def aG7(l:Oo)(a:Nat):l.foldl (λa b=>10*a+(b.toNat-48)) a=a*10^l.length+bO l:=by
 unfold bO
 induction l generalizing a with
 | nil=>simp
 | cons x l c=>
  rw[ei,ei,c,c (10*0+(x.toNat-48)),ej,co,bc,bc,Nat.mul_zero,Nat.zero_mul,fa,cr (10^l.length) 10,<-bu,cr a 10,fc]
def jV(l r:Oo):bO (l++r)=bO l*10^r.length+bO r:=by
 rw[bO,fe,aG7];rfl
def tP(l:Oo)(x:UInt8):bO (l++ [x])=10*bO l+(x.toNat-48):=by
 rw[bO,fe];rfl
def aEv(q:Nat)(l:Oo):bO (List.replicate q 48++l)=bO l:=by
 induction q with
 | zero=>rfl
 | succ q a=>rw[List.replicate_succ,List.cons_append,bO,ei,<-a];rfl
def kH{l:Oo}(f:∀x∈l,x.toNat<=57):bO l<10^l.length:=by
 induction l with
 | nil=>simp[bO]
 | cons x l a=>
  have d:=f x (by simp);have c:=a (λy b=>f y (by simp[b]))
  have e:bO (x::l)=(x.toNat-48)*10^l.length+bO l:=by
   have:=jV [x] l
   simpa[bO]using this
  rw[e,ej,co];have:(x.toNat-48)*10^l.length<=9*10^l.length:=bw _ (by omega);omega
def isD(c:UInt8):Bool:=decide (48<=c.toNat)&&decide (c.toNat<=57)
structure Lit where
 a:Bool
 whole:List UInt8
 b:List UInt8
 d:Bool
 c:List UInt8
def cA(t:List UInt8):Bool×List UInt8:=match t with
 | c::a=>if c=43\/c=45 then(c==45,a)else(J,c::a)
 | []=>(J,[])
def cZ(neg:Bool)(b a r:List UInt8):Option Lit:=match r with
 | []=>I ⟨neg,b,a,J,[]⟩
 | e::t=>if e=101\/e=69 then
  (if(cA t).2.takeWhile isD= []\/(cA t).2.dropWhile isD≠ []then O else I ⟨neg,b,a,(cA t).1,(cA t).2.takeWhile isD⟩)
  else O
def bF(neg:Bool)(a r:List UInt8):Option Lit:=match r with
 | []=>cZ neg a [] []
 | c::t=>if c=46 then(if t.takeWhile isD= []then O else cZ neg a (t.takeWhile isD) (t.dropWhile isD))else cZ neg a [] (c::t)
def cR(neg:Bool)(r:List UInt8):Option Lit:=match r with
 | []=>O
 | c::t=>if isD c then(if c=48 then bF neg [48] t else bF neg ((c::t).takeWhile isD) ((c::t).dropWhile isD))else O
def bI(s:List UInt8):Option Lit:=match s with
 | []=>O
 | c::t=>if c=45 then cR U t else cR J (c::t)
structure Dml where
 a:Bool
 b:List UInt8
 c:Int
def dD(a:Nat)(c:UInt8):Nat:=if a<35184372088832 then 10*a+(c.toNat-48)else a
def fH(l:List UInt8):Nat:=l.foldl dD 0
def cB(neg:Bool)(a:List UInt8)(e:Int):Dml:=
 if ek (dp a 48) 48= []then⟨J,[],0⟩
 else⟨neg,ek (dp a 48) 48,e+(dp a 48).length-(ek (dp a 48) 48).length⟩
def dA(l:Lit):Dml:=cB l.a (l.whole++l.b) ((if l.d then -(fH l.c:Int)else fH l.c)-l.b.length)
structure Cut where
 bits:Nat
 a:Int
 exact:Bool
def aM:Nat:=9218868437227405311
def nM(a b:Nat):Int:=66-((ct a:Int)-ct b)
def kD(q b:Nat)(c:Int):Cut:=
 let k:Int:=max ((ct q:Int)-53-c) (-1074)
 let j:=(k+c).toNat
 let a:=(k+1074).toNat*4503599627370496+q/2^j
 if aM<a then⟨aM,1,J⟩
 else⟨a,if q/2^(j-1)%2=1 then(if q%2^(j-1)≠0\/b≠0 then 1 else 0)else -1, !(decide (q%2^j≠0)||decide (b≠0))⟩
def bH(a b:Nat):Cut:=
 let n:=a*2^(nM a b).toNat
 let d:=b*2^(- nM a b).toNat
 kD (n/d) (n%d) (nM a b)
def bG(a:List UInt8):List UInt8:=if 800<a.length then a.take 800++ [49]else a
def eD(a:List UInt8)(e:Int):Int:=if 800<a.length then e+(a.length-801)else e
def bQ(d:Dml):Cut:=
 if d.b= []then⟨0,0,U⟩
 else if 310<(d.b.length:Int)+d.c then⟨aM,1,J⟩
 else if(d.b.length:Int)+d.c< -330 then⟨0,-1,J⟩
 else if 0<=eD d.b d.c then bH (bO (bG d.b)*10^(eD d.b d.c).toNat) 1
 else bH (bO (bG d.b)) (10^(- eD d.b d.c).toNat)
def cC(c:Cut):Nat:=if c.a=0/\c.bits%2=0 then c.bits else if 0<=c.a/\c.exact=J then c.bits+1 else c.bits
def cF(d:Dml):Option Nat:=
 if aM<cC (bQ d)then O else I (if d.a=U/\0<cC (bQ d)then cC (bQ d)+9223372036854775808 else cC (bQ d))
def bitsOf(s:List UInt8):Option Nat:=(bI s).bind λl=>cF (dA l)
example:bitsOf [49]=I 4607182418800017408:=by decide
example:bitsOf [55]=I 4619567317775286272:=by decide
example:bitsOf [49,46,53,101,45,51]=I 4564560351926583034:=by decide
structure Form where
 a:Nat
 low:Nat
 h:Nat
def aC(c:UInt8):Form:=
 if c.toNat<128 then⟨1,0,0⟩else if c.toNat<194 then⟨0,0,0⟩else if c.toNat<224 then⟨2,128,191⟩else if c.toNat=224 then⟨3,160,191⟩
 else if c.toNat=237 then⟨3,128,159⟩else if c.toNat<240 then⟨3,128,191⟩else if c.toNat=240 then⟨4,144,191⟩else if c.toNat<244 then⟨4,128,191⟩
 else if c.toNat=244 then⟨4,128,143⟩else⟨0,0,0⟩
def Form.B9(f:Form)(i:Nat)(c:UInt8):Bool:=if i=1 then decide (f.low<=c.toNat)&&decide (c.toNat<=f.h)else decide (128<=c.toNat)&&decide (c.toNat<=191)
def aO(held:List UInt8)(c:UInt8):Option (List UInt8):=match held with
 | []=>if(aC c).a=0 then O else if 1<(aC c).a then I [c]else I []
 | a::t=>if(aC a).B9 (a::t).length c then(if(a::t).length+1=(aC a).a then I []else I ((a::t)++ [c]))else O
def aX(held:List UInt8)(l:List UInt8):Option (List UInt8):=l.foldl (λa c=>a.bind λb=>aO b c) (I held)
def aV(l:List UInt8):Bool:=aX [] l==I []
def aT(r:Nat):List UInt8:=
 if r<128 then [ao r]
 else if r<2048 then [ao (192+r/64),ao (128+r%64)]
 else if r<65536 then [ao (224+r/4096),ao (128+r/64%64),ao (128+r%64)]
 else [ao (240+r/262144),ao (128+r/4096%64),ao (128+r/64%64),ao (128+r%64)]
inductive St|outside|letter|numeral|within|escape|digit|slash|letterU
deriving DecidableEq
structure Lx where
 c:Nat
 j:St
 e:Bool
 a:Nat
 g:List UInt8
 number:Nat
 d:List UInt8
 f:List UInt8
 b:Nat
 code:Nat
 h:Nat
inductive Tok|mark(at_:Nat)(sign:UInt8)|term(at_ size:Nat)(name:List UInt8)|num(at_ size bits:Nat)|str(at_ size:Nat)(text:List UInt8)
def aR(s:Nat)(c:UInt8):Option Nat:=
 if s=0/\c=45 then I 1
 else if(s=0\/s=1)/\c=48 then I 2
 else if(s=0\/s=1\/s=3)/\isD c then I 3
 else if(s=2\/s=3)/\c=46 then I 4
 else if(s=4\/s=5)/\isD c then I 5
 else if(s=2\/s=3\/s=5)/\(c=101\/c=69)then I 6
 else if s=6/\(c=43\/c=45)then I 7
 else if(s=6\/s=7\/s=8)/\isD c then I 8 else O
def bL(s:Nat):Bool:=s=2||s=3||s=5||s=8
def aI(c:UInt8):Bool:=c=32||c=9||c=10||c=13
def aY(c:UInt8):Bool:=c=123||c=125||c=91||c=93||c=58||c=44
def aH(c:UInt8):List UInt8:=if c=110 then [110,117,108,108]else if c=116 then [116,114,117,101]else if c=102 then [102,97,108,115,101]else []
def cO(c:UInt8):Option UInt8:=
 if c=34\/c=92\/c=47 then I c else if c=98 then I 8 else if c=102 then I 12 else if c=110 then I 10 else if c=114 then I 13 else if c=116 then I 9 else O
def hexOf(c:UInt8):Option Nat:=
 if 48<=c.toNat/\c.toNat<=57 then I (c.toNat-48)else if 97<=c.toNat/\c.toNat<=102 then I (c.toNat-87)else if 65<=c.toNat/\c.toNat<=70 then I (c.toNat-55)else O
structure nH where
 c:Lx
 a:List Tok
 b:Nat
def Lx.E2(x:Lx):Lx:={x with e:=J,j:=.outside}
def kX(x:Lx)(c:UInt8):nH:=match aR 0 c with
 | some s=>⟨{x with j:=.numeral,number:=s,g:= [c]},[],0⟩
 | none=>⟨{x with j:=.numeral},[],94⟩
def aP(x:Lx)(c:UInt8):nH:=
 if aI c then⟨x,[],0⟩
 else
  let y:Lx:={x with e:=U,a:=x.c,g:= [],number:=0}
  if aY c then⟨y.E2,[.mark x.c c],0⟩
  else if c=34 then⟨{y with j:=.within,d:= [],f:= [],b:=0,code:=0,h:=0},[],0⟩
  else if c=45\/isD c then kX y c
  else if aH c≠ []then⟨{y with j:=.letter,g:= [c]},[],0⟩
  else⟨y,[],94⟩
def cP(x:Lx)(c:UInt8):nH:=
 let a:=aH (x.g.headD 0)
 if a[x.g.length]?=I c then
  (if x.g.length+1=a.length then⟨{x with g:=x.g++ [c]}.E2,[.term x.a (x.c+1-x.a) a],0⟩else⟨{x with g:=x.g++ [c]},[],0⟩)
 else⟨x,[],94⟩
def Lx.C0(x:Lx):Option (Lx×Tok):=(bitsOf x.g).map λb=>(x.E2,.num x.a (x.c-x.a) b)
def bX(x:Lx)(c:UInt8):nH:=match aR x.number c with
 | some s=>⟨{x with number:=s,g:=x.g++ [c]},[],0⟩
 | none=>if bL x.number then(match x.C0 with
  | none=>⟨x,[],41⟩
  | some (y,t)=>let r:=aP y c;⟨r.c,t::r.a,r.b⟩)
  else⟨x,[],94⟩
def bY(x:Lx)(c:UInt8):nH:=
 if x.d= []/\c=34 then⟨x.E2,[.str x.a (x.c+1-x.a) x.f],0⟩
 else if x.d= []/\c=92 then⟨{x with j:=.escape},[],0⟩
 else if x.d= []/\c.toNat<32 then⟨x,[],91⟩
 else match aO x.d c with
  | none=>⟨x,[],90⟩
  | some a=>⟨{x with d:=a,f:=x.f++ [c]},[],0⟩
def dN(x:Lx)(c:UInt8):nH:=
 if c=117 then⟨{x with b:=0,code:=0,j:=.digit},[],0⟩
 else match cO c with
  | none=>⟨x,[],92⟩
  | some b=>⟨{x with f:=x.f++ [b],j:=.within},[],0⟩
def Lx.I9(x:Lx)(v:Nat):Bool:=
 if x.h≠0/\x.b=0 then v≠13 else if x.h≠0/\x.b=1 then v<12 else x.h=0&&x.b=1&&x.code=13&&12<=v
def Lx.whole(x:Lx):Lx:=
 if x.h≠0 then{x with h:=0,f:=x.f++aT (65536+(x.h-55296)*1024+x.code-56320),j:=.within}
 else if 55296<=x.code/\x.code<=56319 then{x with h:=x.code,j:=.slash}
 else{x with f:=x.f++aT x.code,j:=.within}
def dH(x:Lx)(c:UInt8):nH:=match hexOf c with
 | none=>⟨x,[],if x.h=0 then 92 else 93⟩
 | some v=>if x.I9 v then⟨x,[],93⟩
  else
   let y:Lx:={x with code:=x.code*16+v,b:=x.b+1}
   ⟨if x.b+1=4 then y.whole else y,[],0⟩
def fD(x:Lx)(c:UInt8):nH:=if c=92 then⟨{x with j:=.letterU},[],0⟩else⟨x,[],93⟩
def dS(x:Lx)(c:UInt8):nH:=if c=117 then⟨{x with b:=0,code:=0,j:=.digit},[],0⟩else⟨x,[],93⟩
def Lx.B4(x:Lx)(c:UInt8):nH:=match x.j with
 | .outside=>aP x c
 | .letter=>cP x c
 | .numeral=>bX x c
 | .within=>bY x c
 | .escape=>dN x c
 | .digit=>dH x c
 | .slash=>fD x c
 | .letterU=>dS x c
def Lx.take(x:Lx)(c:UInt8):Lx×List Tok×Nat×Nat:=
 if x.c=16777216 then(x,[],3,x.c)
 else
  let r:=x.B4 c
  if r.b=0 then({r.c with c:=x.c+1},r.a,0,0)else(r.c,r.a,r.b,if r.b=41 then r.c.a else x.c)
def Lx.B8(x:Lx):Lx×List Tok×Nat×Nat:=
 if x.e=J then(x,[],0,0)
 else if bL x.number=J then(x,[],95,x.c)
 else match x.C0 with
  | none=>(x,[],41,x.a)
  | some (y,t)=>(y,[t],0,0)
def Lx.G5:Lx:=⟨0,.outside,J,0,[],0,[],[],0,0,0⟩
section
inductive Tr|null|flag(b:Bool)|num(bits:Nat)|text(s:List UInt8)|list(l:List Tr)|object(keys:List (List UInt8))(l:List Tr)
structure Sz where
 g:Nat
 bytes:Nat
 h:Nat
def Sz.A9(s:Sz):Bool:=decide (s.g<=65536)&&decide (s.bytes<=2097152)&&decide (s.h<=512)
def fY(bytes:Nat)(l:List Sz):Sz:=let s:Sz:=l.foldl (λ(a z:Sz)=>(⟨a.g+z.g,a.bytes+z.bytes,max a.h z.h⟩:Sz)) ⟨1,bytes,0⟩;{s with h:=s.h+1}
def bD(keys:List (List UInt8)):Nat:=keys.foldl (λa k=>a+k.length) 0
def Tr.A5:Tr->Sz
 | .null| .flag _| .num _=>⟨1,0,1⟩
 | .text s=>⟨1,s.length,1⟩
 | .list l=>fY 0 (l.attach.map λx=>Tr.A5 x.1)
 | .object keys l=>fY (bD keys) (l.attach.map λx=>Tr.A5 x.1)
termination_by t=>t
decreasing_by all_goals(simp_wf;have:=List.sizeOf_lt_of_mem x.2;omega)
def pA(a:List Tr)(x:Tr):List Tr:=if x.A5.A9 then a++ [x]else a
def bB(a:List Tr)(x:Tr):List Tr:=if 65536<=a.length then a else pA a x
def dW(a:Nat):Nat:=if a=9223372036854775808 then 0 else a
def iR(a:List Tr)(b:Nat):List Tr:=bB a (.num (dW b))
def gE(a:List Tr)(s:List UInt8):List Tr:=if aV s then bB a (.text s)else a
def fZ(a:List Tr)(n:Nat)(x:Tr):List Tr:=if x.A5.A9 then a.take (a.length-n)++ [x]else a
def eI(a:List Tr)(n:Nat):List Tr:=if a.length<n then a else fZ a n (.list (a.drop (a.length-n)))
inductive Fr|list(many:Nat)|object(keys:List (List UInt8))
structure Ps where
 h:Nat
 c:Nat
 d:Lx
 b:List Tr
 e:List Fr
 a:Nat
 g:Nat
 bytes:Nat
abbrev Out:=Except (Nat×Nat) Ps
def Ps.D0(p:Ps)(a:Nat):Out:=
 if p.a≠0/\p.a≠1 then ag (120,a)else if p.e.length=p.h then ag (121,a)else if p.g=65536 then ag (3,a)else ai {p with g:=p.g+1}
def Ps.F9(p:Ps)(c:UInt8):Out:=if c=34/\(p.a=2\/p.a=3)then ai p else p.D0 p.c
def more(l:List Fr):List Fr:=match l.getLast? with
 | some (.list n)=>l.dropLast++ [.list (n+1)]
 | _=>l
def Ps.C9(p:Ps):Ps:={p with a:=if p.e= []then 6 else 5,e:=more p.e}
def Ps.F3(p:Ps)(s:List UInt8)(a:Nat):Out:=if 2097152<p.bytes+s.length then ag (3,a)else ai {p with bytes:=p.bytes+s.length}
def fP(l:List Fr):List (List UInt8):=match l.getLast? with
 | some (.object k)=>k
 | _=> []
def jB(l:List Fr):Bool:=match l.getLast? with
 | some (.object _)=>U
 | _=>J
def Ps.J0(p:Ps)(a:Nat)(s:List UInt8):Out:=
 if p.a≠2/\p.a≠3 then(p.F3 s a).map λp=>Ps.C9 {p with b:=gE p.b s}
 else if s∈fP p.e then ag (101,a)
 else(Ps.F3 {p with e:=p.e.dropLast++ [.object (fP p.e++ [s])]} s a).map λp=>{p with a:=4}
def wQ:Fr->UInt8
 | .list _=>93
 | .object _=>125
def Ps.J5(p:Ps)(a:UInt8):Bool:=(match p.e.getLast? with
 | some f=>wQ f=a
 | none=>J)&&(p.a=5||p.a=1||p.a=2)
def Ps.F7(p:Ps)(x:Tr):Ps:=Ps.C9 {p with b:=bB p.b x}
def jE(a:List UInt8):Tr:=if a= [110,117,108,108]then .null else .flag (a= [116,114,117,101])
section
variable (putObject:List Tr->List (List UInt8)->List Tr)
def Ps.C4(p:Ps):Ps:=match p.e.getLast? with
 | some (.list n)=>Ps.C9 {p with e:=p.e.dropLast,b:=eI p.b n}
 | some (.object k)=>Ps.C9 {p with e:=p.e.dropLast,b:=putObject p.b k}
 | none=>p
def Ps.J6(p:Ps)(b:Nat)(a:UInt8):Out:=
 if a=91 then(p.D0 b).map λp=>{p with e:=p.e++ [.list 0],a:=1}
 else if a=123 then(p.D0 b).map λp=>{p with e:=p.e++ [.object []],a:=2}
 else if a=58/\p.a=4 then ai {p with a:=0}
 else if a=44/\p.a=5 then ai {p with a:=if jB p.e then 3 else 0}
 else if p.J5 a then ai (p.C4 putObject)
 else ag (120,b)
def Ps.C5(p:Ps):Tok->Out
 | .mark a s=>p.J6 putObject a s
 | .str a _ s=>p.J0 a s
 | .term _ _ n=>ai (p.F7 (jE n))
 | .num _ _ b=>ai (Ps.C9 {p with b:=iR p.b b})
def Ps.D3(p:Ps)(l:List Tok):Out:=l.foldlM (λp t=>p.C5 putObject t) p
def nO(no:Nat):Nat:=if no=94 then 120 else no
def Lx.D4(x:Lx):Nat:=if x.e then x.c-x.a else 0
def Ps.take(p:Ps)(c:UInt8):Out:=
 let r:=p.d.take c
 match Ps.D3 putObject {p with d:=r.1} r.2.1 with
 | .error e=>ag e
 | .ok q=>
  if r.2.2.1≠0 then ag (nO r.2.2.1,r.2.2.2)
  else match(if r.1.D4=1 then q.F9 c else ai q)with
   | .error e=>ag e
   | .ok q=>ai {q with c:=q.c+1}
def Ps.E4(p:Ps)(l:List UInt8):Out:=l.foldlM (λp c=>p.take putObject c) p
def Ps.C0(p:Ps):Out:=
 let r:=p.d.B8
 match Ps.D3 putObject {p with d:=r.1} r.2.1 with
 | .error e=>ag e
 | .ok q=>if r.2.2.1≠0 then ag (nO r.2.2.1,r.2.2.2)else if q.a≠6 then ag (95,q.c)else ai q
def Ps.G5(a:Nat):Ps:=⟨a,0,Lx.G5,[],[],0,0,0⟩
def Ps.K8(l:List UInt8)(a:Nat):Out:=match(Ps.G5 a).E4 putObject l with
 | .error e=>ag e
 | .ok p=>p.C0 putObject
end
end
section
structure Keeps(F:Nat->Prop)(w w':S):Prop where
 os:w'.os=w.os
 tape:w'.tape=w.tape
 output:w'.output=w.output
 size:w.heap.size<=w'.heap.size
 block:∀k,k<w.heap.size->¬F k->w'.heap[k]?=w.heap[k]?
def Since(F:Nat->Prop)(w w':S)(k:Nat):Prop:=F k\/(w.heap.size<=k/\k<w'.heap.size)
section
variable {F G:Nat->Prop} {w w1 w2 w':S}
def Keeps.A8(F:Nat->Prop)(w:S):Keeps F w w:=⟨rfl,rfl,rfl,V _,λ_ _ _=>rfl⟩
def Keeps.mono(e:Keeps F w w')(a:∀k,F k->G k):Keeps G w w':=⟨e.os,e.tape,e.output,e.size,λk b c=>e.block k b (λd=>c (a k d))⟩
def Keeps.trans(g:Keeps F w w1)(a:Keeps G w1 w2)(e:∀k,G k->F k\/w.heap.size<=k):Keeps F w w2:=
 ⟨a.os.trans g.os,a.tape.trans g.tape,a.output.trans g.output,bx g.size a.size,λk b c=>
  (a.block k (dq b g.size) (λf=>(e k f).elim c (λd=>by omega))).trans (g.block k b c)⟩
def Keeps.O9(c:Keeps F w w1)(b:Keeps (Since F w w1) w1 w2):Keeps F w w2:=c.trans b λ_ a=>a.elim ae (λc=>Z c.1)
def Keeps.same(c:Keeps F w w1)(b:Keeps F w1 w2):Keeps F w w2:=c.trans b λ_ a=>ae a
def Keeps.A6(c:Keeps F w w1)(o:Obj):Keeps F w (w1.alloc o):=
 ⟨c.os,c.tape,c.output,bx c.size (by simp),λk a b=>(fg _ _ _ (dq a c.size)).trans (c.block k a b)⟩
def Keeps.A3(d:Keeps F w w1){p:Addr}(a:F p.block\/w.heap.size<=p.block)(u:af):Keeps F w (w1.setCell p u):=
 ⟨d.os,d.tape,d.output,bx d.size (by simp[fh]),λk c b=>(Below.heap_setCell _ _ _ _ (λe=>a.elim (λa=>b (by rw[e];exact a)) (λa=>by omega))).trans (d.block k c b)⟩
def Keeps.B0(a:Keeps F w w1):Keeps F w w1.drew:=⟨a.os,a.tape,a.output,a.size,a.block⟩
def Keeps.D7{a:Option Nat}(i:Keeps F w w1)(b:w1.grownBy w2 a)(f:∀k,a=I k->F k\/w.heap.size<=k):Keeps F w w2:=
 ⟨b.os.trans i.os,b.tape.trans i.tape,b.output.trans i.output,bx i.size b.size,λk c d=>
  (b.block k (dq c i.size) (λe=>(f k e.symm).elim d (λg=>by omega))).trans (i.block k c d)⟩
def Keeps.A4(d:Keeps F w w1)(a:h w1 w1 w2):Keeps F w w2:=
 ⟨a.os.trans d.os,a.tape.trans d.tape,a.output.trans d.output,bx d.size a.size,λk b c=>(a.block k (dq b d.size)).trans (d.block k b c)⟩
def Keeps.A0(F:Nat->Prop)(a:h w w w'):Keeps F w w':=(Keeps.A8 F w).A4 a
def Keeps.C6(e:Keeps F w w'){n:Nat}(d:n<=w.heap.size)(b:∀k,F k->n<=k):h n w w':=
 ⟨e.os,e.tape,e.output,e.size,λk c=>e.block k (by omega) (λa=>by have:=b k a;omega)⟩
def Keeps.B7(c:Keeps F w w'){k:Nat}{o:Obj}(a:w.heap[k]?=I o)(b:¬F k):w'.heap[k]?=I o:=(c.block k (em a) b).trans a
def Keeps.B3(c:Keeps F w w'){p:Addr}{v:af}(a:w.cell? p=I v)(b:¬F p.block):w'.cell? p=I v:=
 (World.cell?_of_block (c.block _ (fi w p a) b)).trans a
def Since.N6(b:Since F w w1 k)(a:w1.heap.size<=w2.heap.size):Since F w w2 k:=b.elim ae (λb=>Z ⟨b.1,by omega⟩)
def Since.trans(e:Since (Since F w w1) w1 w2 k)(d:w.heap.size<=w1.heap.size)(b:w1.heap.size<=w2.heap.size):Since F w w2 k:=by
 rcases e with e|⟨c,a⟩
 .exact e.N6 b
 .exact Z ⟨by omega,a⟩
def Row.A2{j:Type}{B e:Nat}{enc:j->af}{v:af}{l:List j}(m:Row B e enc w v l)(d:Keeps F w w')(f:∀k,v.ownBlock=I k->¬F k):Row B e enc w' v l:=by
 refine⟨m.1,?_⟩;rcases m.2 with i|⟨g,cap,a,rfl,c,b,rest⟩
 .exact ae i
 .exact Z ⟨g,cap,a,rfl,c,d.B7 b (f g rfl),rest⟩
end
def Win{b:Type}(e:Nat)(enc:b->af)(w:S)(v:af)(l:List b):Prop:=
 (v=ar O 0 0/\l= [])\/
 ∃g off cap a,v=ar (I ⟨g,off,O⟩) l.length cap/\w.heap[g]?=I (aj a e (0,0))/\l.length<=cap/\off+cap<=a.size/\cap<=maxLen/\∀i x,l[i]?=I x->a[off+i]?=I (enc x)
section
variable {α:Type} {e:Nat} {enc:α->af} {w:S} {v:af} {l:List α}
def Win.nil(e:Nat)(enc:α->af)(w:S):Win e enc w (ar O 0 0) []:=ae ⟨rfl,rfl⟩
def Win.A2{F:Nat->Prop}{w':S}(i:Win e enc w v l)(b:Keeps F w w')(f:∀k,v.ownBlock=I k->¬F k):Win e enc w' v l:=by
 rcases i with d|⟨g,off,cap,a,rfl,c,rest⟩
 .exact ae d
 .exact Z ⟨g,off,cap,a,rfl,b.B7 c (f g rfl),rest⟩
def Win.E3{B:Nat}(m:Row B e enc w v l):Win e enc w v l:=by
 rcases m.B6 with⟨rfl,rfl⟩|⟨g,cap,rfl,_,_,j,f,⟨b,d,k,c⟩,_⟩
 .exact .nil _ _ _
 .refine Z ⟨g,0,cap,b,rfl,d,j,by omega,f,λi x hi=>?_⟩;have:=congrArg (λx=>x[i]?) c;have a:i<l.length:=(fj.1 hi).1;simp only[List.getElem?_take,fk,if_pos a,Array.getElem?_toList,hi]at this
  simpa using this
def Win.A7(d:Win e enc w v l):∃a c,v=ar a l.length c:=by
 rcases d with⟨rfl,rfl⟩|⟨g,off,cap,b,rfl,_⟩
 .exact⟨O,0,rfl⟩
 .exact⟨_,_,rfl⟩
def Win.M5{x:α}{g off cap:Nat}(p:Win e enc w (ar (g,off) (l.length+1) cap) (x::l)):Win e enc w (ar (g,off+1) l.length (cap-1)) l:=by
 rcases p with⟨b,_⟩|⟨m,c,d,a,b,f,k,n,o,hi⟩
 .cases b
 .cases b;simp only[ej]at k;refine Z ⟨g,off+1,cap-1,a,rfl,f,by omega,by omega,by omega,λi y j=>?_⟩;have:=hi (i+1) y (by simpa using j);rw[show off+1+i=off+(i+1) by omega];exact this
def Win.B3{g off cap:Nat}(q:Win e enc w (ar (g,off) n cap) l){i:Nat}{x:α}(j:l[i]?=I x):w.cell? ⟨g,off+i,O⟩=I (enc x):=by
 rcases q with⟨a,_⟩|⟨k,b,c,f,a,d,p,m,o,hi⟩
 .cases a
 .cases a;rw[aA d];exact hi i x j
def dE{t bytes:Nat}{X:Array Oper}{rest:List Oper}{o:Oper}{a:L}{a1:cu->L->S->Prop}(a2:Elem t e bytes)(Y:o.guard=O)(s x:Operand)
 (ho:o.op=.call {callee:=.builtin .append,args:= #[s,x],argTypes:= #[t,t]})(hs:a.eval s=v)(g0:Win e enc w v l)(C:Addr)(c:Nat)(y:α)(hx:a.eval x=ar (I C) 1 c)
 (hy:w.cell? C=I (enc y))(h1:(enc y).oneCell'=U)(hb:(l.length+1)*bytes<=140737488355328)(hm:l.length+1<=maxLen)
 (a0:∀g off cap w',Win e enc w' (ar (I ⟨g,off,O⟩) (l.length+1) cap) (l++ [y])->(v.ownBlock=I g\/(w.heap.size<=g/\g<w'.heap.size))->w.grownBy w' v.ownBlock->wpList cv X a1 rest (a.put o.dst (ar (I ⟨g,off,O⟩) (l.length+1) cap)) w'):
 wpList cv X a1 (o::rest) a w:=by
 obtain⟨ht,i,z,hi,hz,g1,g2,g3⟩:=a2
 have m:∀(j:Nat) u,[enc y][j]?=I u->w.cell? (C.add j)=I u:=by
  intro j u d
  match j,d with
  | 0,d=>
   simp at d;subst d;have:C.add 0=C:=by obtain⟨b,o,s⟩:=C;cases s<;>simp[Addr.add]
   rw[this];exact hy
  | j+1,d=>simp at d
 have D:∀u∈ [enc y],u.oneCell'=U:=by intro u hu;simp at hu;subst hu;exact h1
 rcases g0 with⟨rfl,rfl⟩|⟨g,off,cap,F,rfl,G,hc,g5,g6,n⟩
 .refine wpList_append_grows w Y s x t ho e i z 1 bytes ht hi hz g1 g2 g3 (by decide) O 0 0 [] hs (λ_=>⟨rfl,rfl⟩) rfl (by intro b hb;cases hb) C 1 c [enc y] hx rfl m D (by omega) (by simp at hm;omega) (by simp at hb;omega) ?_;intro v' w' p f;rcases p.2 with⟨_,hn⟩|⟨g,cap,F,rfl,q,G,K,N,P,Q⟩
  .omega
  .refine a0 g 0 cap w' (Win.E3 (B:=w.heap.size) ⟨by simp,Z ⟨g,cap,F,rfl,q,G,by simpa using K,N,by simpa using P,by simpa using Q⟩⟩) (Z ⟨q,em G⟩) f
 .refine wpList_append_arg w Y s x t ho e i z 1 bytes ht hi hz g1 g2 g3 (by decide) g off l.length cap (l.map enc) hs (by simp) ?_ C 1 c [enc y] hx rfl m D ?_ hm hb ?_ ?_
  .intro j u d;rw[aA G];rw[fk]at d;cases r:l[j]? with
   | none=>rw[r]at d;cases d
   | some z=>rw[r]at d;simp at d;subst d;exact n j z r
  .intro r j d;simp at d;subst d;refine⟨?_,free_at G _⟩;rw[aA G,Array.getElem?_eq_getElem (by simp;omega)];rfl
  .intro r;have g4:w.setCells g (off+l.length*1) [enc y]=w.setCell ⟨g,off+l.length,O⟩ (enc y):=by simp[World.setCells]
   rw[g4];refine a0 g off cap _ (Z ⟨g,off,cap,F.setIfInBounds (off+l.length) (enc y),by simp,aB G _,by simpa using r,by simpa using g5,g6,?_⟩) (ae rfl) ?_
   .intro j z d;rw[Array.getElem?_setIfInBounds]
    by_cases g7:j<l.length
    .rw[if_neg (by omega)];rw[List.getElem?_append_left g7]at d;exact n j z d
    .rw[List.getElem?_append_right (by omega)]at d
     have:j=l.length:=by
      have:=(fj.1 d).1;simp at this;omega
     subst this;simp at d;subst d;rw[if_pos rfl,if_pos (by omega)]
   .exact⟨rfl,rfl,rfl,by simp[fh],λk hk d=>aE _ (λe=>d (by subst e;rfl))⟩
  .intro g7 v' w' p f;rcases p.2 with⟨_,hn⟩|⟨g',d,r,rfl,q,g4,K,N,P,Q⟩
   .omega
   .refine a0 g' 0 d w' (Win.E3 (B:=w.heap.size) ⟨by simp,Z ⟨g',d,r,by simp,q,g4,by simpa using K,N,by simpa using P,by simpa using Q⟩⟩) (Z ⟨q,em g4⟩) ⟨f.os,f.tape,f.output,f.size,λk hk _=>f.block k hk (by simp)⟩
end
end
section
open Go
def Exit.E5(b:Nat->L->S->Prop)(Q:cu->L->S->Prop):cu->L->S->Prop
 | .goto l,a,w=>b l a w
 | e,a,w=>Q e a w
def Exit.E7(b:Nat->L->S->Prop)(Q:cu->L->S->Prop)(a:L)(w:S):Exit.E5 b Q .ret a w=Q .ret a w:=rfl
section
variable {P:Program} {a:L} {w:S} {Q:cu->L->S->Prop}
def rT{c:Code}{n f:Nat->L->S->Prop}(o:c.wp P (Exit.E5 n Q) a w)(m:∀l a w,n l a w->f l a w):c.wp P (Exit.E5 f Q) a w:=by
 intro b k j;obtain⟨e,a₁,i,g,d⟩:=o b k j;refine⟨e,a₁,i,?_,d⟩;cases e<;>first|exact g|exact m _ _ _ g
def aAa{c:Code}(G:Nat->L->S->Prop)(j:Nat->Nat)
 (r:∀l a w,G l a w->∃rest,bm c l=I rest/\rest.wp P (Exit.E5 (λq s w'=>G q s w'/\j q<j l) Q) a w)
 (first:c.wp P (Exit.E5 G Q) a w):(fm c).wp P Q a w:=by
 intro b k t;have F:∀l rest,bm c l=I rest->gotoIn l (cw c::k)=I (.code rest::cw c::k):=λl rest u=>by simp[gotoIn,u]
 have v:∀n l a w,j l=n->G l a w->∃rest,bm c l=I rest/\∃e s w',Q e s w'/\Arrives P (lone (b.at a (.code rest::cw c::k)) t w) b k t e s w':=by
  intro n
  induction n using fq with
  | _ n K=>
   intro l a w hn N;obtain⟨rest,u,X⟩:=r l a w N;refine⟨rest,u,?_⟩;obtain⟨e,a₁,g,i,d⟩:=X b (cw c::k) t;cases e with
   | normal=>exact⟨.normal,a₁,g,i,ft d (cz fu)⟩
   | exit id=>exact⟨.exit id,a₁,g,i,λx y=>d x (by simp[exitTo,y])⟩
   | goto q=>
    obtain⟨z,Y⟩:=i;obtain⟨m,o,B,C,D,p,f⟩:=K _ (by omega) q a₁ g rfl z;exact⟨B,C,D,p,dh (d _ (F _ _ o)) f⟩
   | ret=>exact⟨_,a₁,g,i,d⟩
   | panic z=>exact⟨_,a₁,g,i,d⟩
   | outgrown=>exact⟨_,a₁,g,i,d⟩
 obtain⟨e,a₁,g,i,d⟩:=first b (cw c::k) t
 cases e with
 | normal=>exact⟨.normal,a₁,g,i,.head bz (ft d (cz fu))⟩
 | exit id=>exact⟨.exit id,a₁,g,i,λx y=>.head bz (d x (by simp[exitTo,y]))⟩
 | goto q=>
  obtain⟨m,o,B,C,D,p,f⟩:=v _ q a₁ g rfl i;exact⟨B,C,D,p,dh (.head bz (d _ (F _ _ o))) f⟩
 | ret=>exact⟨_,a₁,g,i,dh (cz bz) d⟩
 | panic z=>exact⟨_,a₁,g,i,dh (cz bz) d⟩
 | outgrown=>exact⟨_,a₁,g,i,dh (cz bz) d⟩
def wU{c:Code}(s:Nat->L->S->Prop)(b:Nat->Nat)
 (f:∀l,(∀d rest a w,b d<b l->bm c d=I (dt.seq rest)->s d a w->rest.wp P (Exit.E5 (λm g w'=>s m g w'/\b m<b l) Q) a w)->
  ∀a w,s l a w->∃rest,bm c l=I (dt.seq rest)/\rest.wp P (Exit.E5 (λd g w'=>s d g w'/\b d<b l) Q) a w)
 (first:(∀d rest a w,bm c d=I (dt.seq rest)->s d a w->rest.wp P (Exit.E5 s Q) a w)->c.wp P (Exit.E5 s Q) a w):(fm c).wp P Q a w:=by
 have k:∀n l,b l=n->∀a w,s l a w->∃rest,bm c l=I (dt.seq rest)/\rest.wp P (Exit.E5 (λd g w'=>s d g w'/\b d<b l) Q) a w:=by
  intro n
  induction n using fq with
  | _ n p=>
   intro l q;refine f l λd rest a w o i j=>?_
   obtain⟨r,e,t⟩:=p (b d) (by omega) d rfl a w j;rw[i]at e;cases e;exact rT t λ_ _ _ t=>⟨t.1,Nat.lt_trans t.2 o⟩
 refine aAa s b (λl a w j=>?_) (first λd rest a w i j=>?_)
 .obtain⟨rest,i,t⟩:=k _ l rfl a w j;exact⟨_,i,wp_seq (wp_skip t)⟩
 .obtain⟨r,o,t⟩:=k _ d rfl a w j;rw[i]at o;cases o;exact rT t λ_ _ _ t=>t.1
end
end
def gO(b:Nat):Prop:=b<=aM\/(9223372036854775808<=b/\b<=9223372036854775808+aM)
def nZ(g:b%9223372036854775808<=aM):∃m i:Nat,m<9007199254740992/\i<=2045/\(m=0<->b%9223372036854775808=0)/\ah.read b=eo (b/9223372036854775808%2==1) m (-1074+i):=by
 have c:ah.signWeight=9223372036854775808:=by decide
 have f:ah.binade=4503599627370496:=by decide
 have d:ah.infRung=9218868437227405312:=by decide
 have e:ah.leastPlace= -1074:=by decide
 unfold aM at g;unfold gn;simp only[c,f,d,e];generalize b%9223372036854775808=r at*
 by_cases a:r<4503599627370496
 .rw[if_pos a];exact⟨r,0,by omega,by omega,Iff.rfl,by simp⟩
 .rw[if_neg a,if_pos (by omega)];exact⟨4503599627370496+r%4503599627370496,r/4503599627370496-1,by omega,by omega,by omega,rfl⟩
def aED(c:b%9223372036854775808<=aM):ep.format.order b b=I .eq:=by
 obtain⟨m,i,_,_,_,a⟩:=nZ c
 show cg (ah.read b) (ah.read b)=_
 rw[a];simp[cg]
def aEE(p:b<=aM):ep.format.order b aM≠I .gt:=by
 have k:b%9223372036854775808=b:=cj (fv p (by decide));obtain⟨m,i,o,hi,_,d⟩:=nZ (b:=b) (by rw[k];exact p)
 have l:(b/9223372036854775808%2==1)=J:=by
  have:b/9223372036854775808=0:=fw (fv p (by decide));rw[this];rfl
 rw[l]at d;have a:ah.read aM=eo J 9007199254740991 (-1074+2045):=by decide
 show cg (ah.read b) (ah.read aM)≠_
 rw[d,a];have c:min (-1074+(i:Int)) (-1074+2045)= -1074+(i:Int):=by omega
 simp only[cg,c];have e:((-1074+(i:Int))-(-1074+(i:Int))).toNat=0:=by omega
 have g:((-1074+2045:Int)-(-1074+(i:Int))).toNat=2045-i:=by omega
 rw[e,g]
 have j:bh J m 0<=bh J 9007199254740991 (2045-i):=by
  simp only[bh,fz];have:1<=2^(2045-i):=Nat.one_le_two_pow;have f:m*2^0<=9007199254740991*2^(2045-i):=by simp;omega
  rw[if_neg (by decide),if_neg (by decide)]
  exact_mod_cast f
 intro n;have:=go n;rw[Int.compare_eq_gt]at this;omega
def aEF(x:b%9223372036854775808<=aM):(ep.format.order b 0==I .eq)=decide (b%9223372036854775808=0):=by
 obtain⟨m,i,w,hi,l,r⟩:=nZ x;have n:ah.read 0=eo J 0 (-1074):=by decide
 show(cg (ah.read b) (ah.read 0)==I .eq)=_
 rw[r,n];have c:min (-1074+(i:Int)) (-1074)= -1074:=by omega
 simp only[cg,c];have t:((-1074+(i:Int))-(-1074)).toNat=i:=by omega
 have q:((-1074:Int)-(-1074)).toNat=0:=by omega
 rw[t,q];have p:bh J 0 0=0:=by decide
 rw[p];have v:0<2^i:=au i
 have j:bh (b/9223372036854775808%2==1) m i=0<->m=0:=by
  simp only[bh,fz];constructor
  .intro x
   have s:((m*2^i:Nat):Int)=0:=by
    split at x
    .omega
    .exact x
   have o:m*2^i=0:=by exact_mod_cast s
   rcases Nat.mul_eq_zero.1 o with k|k
   .exact k
   .omega
  .intro x;subst x;simp
 by_cases a:m=0
 .have d:b%9223372036854775808=0:=l.1 a;rw[j.2 a,d];decide
 .have d:¬b%9223372036854775808=0:=λe=>a (l.2 e)
  have f:bh (b/9223372036854775808%2==1) m i≠0:=λe=>a (j.1 e)
  have u:compare (bh (b/9223372036854775808%2==1) m i) 0≠ .eq:=λe=>f (Int.compare_eq_eq.1 e)
  rw[decide_eq_false d];cases g:compare (bh (b/9223372036854775808%2==1) m i) 0 with
  | eq=>exact absurd g u
  | lt=>decide
  | gt=>decide
def l0{l:Oo}(d:bitsOf l=I b):gO b:=by
 unfold bitsOf at d;cases a:bI l with
 | none=>rw[a]at d;cases d
 | some t=>
  rw[a]at d;simp only[Option.bind_some]at d;unfold cF at d;split at d
  .cases d
  .rename_i c;simp only[gp]at d;subst d;unfold gO;split
   .right;omega
   .left;omega
def fN(b:Nat):Nat:=if b/4503599627370496%2048=0 then b%4503599627370496 else b%4503599627370496+4503599627370496
def nN(b:Nat):Nat:=b/4503599627370496%2048-1
def iQ(b:Nat):Nat:=fN b*2^nN b
def xS{C e m:Nat}(b:m<C):(e*C+m)/C=e/\(e*C+m)%C=m:=by
 have a:0<C:=by omega
 rw[ga,Nat.add_mul_div_right _ _ a,fw b,fa,Nat.add_mul_mod_self_right,cj b];exact⟨rfl,rfl⟩
def aAR(o:b<9218868437227405312):iQ (b+1)=iQ b+2^nN b:=by
 unfold iQ fN nN;obtain⟨e,m,g,rfl⟩:∃e m,m<4503599627370496/\b=e*4503599627370496+m:=⟨b/4503599627370496,b%4503599627370496,gc _ (by decide),by rw[cr];exact(gd _ _).symm⟩;have l:e<2047:=by omega
 obtain⟨j,i⟩:=xS (e:=e) g;rw[j,i,cj (show e<2048 by omega)]
 by_cases n:m+1=4503599627370496
 .have a:=xS (C:=4503599627370496) (e:=e+1) (m:=0) (by decide);rw[show(e+1)*4503599627370496+0=e*4503599627370496+m+1 by omega]at a;obtain⟨f,d⟩:=a;rw[f,d,cj (show e+1<2048 by omega),if_neg (by omega)]
  by_cases c:e=0
  .subst c;rw[if_pos rfl];simp;omega
  .rw[if_neg c];obtain⟨k,rfl⟩:∃k,e=k+1:=⟨e-1,by omega⟩;rw[du,du,co];have:m=4503599627370495:=by omega
   subst this;omega
 .have a:=xS (C:=4503599627370496) (e:=e) (m:=m+1) (by omega);rw[<-fc]at a;obtain⟨f,d⟩:=a;rw[f,d,cj (show e<2048 by omega)]
  by_cases c:e=0
  .subst c;simp
  .rw[if_neg c,if_neg c,Nat.add_right_comm,bc _ 1,ck]
def aGJ{a:Nat}(i:a<b)(f:b<=9218868437227405312):iQ a<iQ b:=by
 induction b with
 | zero=>omega
 | succ b d=>
  have g:=aAR (b:=b) (by omega);have e:0<2^nN b:=au _;rcases ge a b with c|c
  .have:=d c (by omega);omega
  .have:a=b:=by omega
   subst this;omega
def aBF{a:Nat}(e:a<=b)(d:b<=9218868437227405312):iQ a<=iQ b:=by
 rcases ge a b with c|c
 .exact Nat.le_of_lt (aGJ c d)
 .have:a=b:=by omega
  subst this;exact V _
def aHw{N D a:Nat}(g:a<=9218868437227405311)(k:b<=9218868437227405311)(i:iQ a*D<=N)(d:a=9218868437227405311\/N<iQ (a+1)*D)(j:iQ b*D<=N)(e:b=9218868437227405311\/N<iQ (b+1)*D):a=b:=by
 rcases Nat.lt_trichotomy a b with l|l|l
 .have f:=d.resolve_left (by omega);have c:iQ (a+1)*D<=iQ b*D:=bw _ (aBF (by omega) (by omega));omega
 .exact l
 .have f:=e.resolve_left (by omega);have c:iQ (b+1)*D<=iQ a*D:=bw _ (aBF (by omega) (by omega));omega
def aL2{K:Nat}(g:K<=2045)(i:k<9007199254740992)(j:K=0\/4503599627370496<=k):iQ (K*4503599627370496+k)=k*2^K/\nN (K*4503599627370496+k)=K:=by
 unfold iQ fN nN
 by_cases d:k<4503599627370496
 .have f:K=0:=j.resolve_right (by omega);subst f;obtain⟨c,b⟩:=xS (C:=4503599627370496) (e:=0) d;rw[c,b];simp
 .have a:=xS (C:=4503599627370496) (e:=K+1) (m:=k-4503599627370496) (by omega);rw[show(K+1)*4503599627370496+(k-4503599627370496)=K*4503599627370496+k by omega]at a;obtain⟨c,b⟩:=a;rw[c,b,cj (show K+1<2048 by omega),if_neg (by omega),du,Nat.sub_add_cancel (by omega)];exact⟨rfl,rfl⟩
def aBG(c:p+q'=p'+q):X*2^p<=Y*2^q<->X*2^p'<=Y*2^q':=by
 have a:X*2^p<=Y*2^q<->X*2^p*2^q'<=Y*2^q*2^q':=(gh (au _)).symm;have b:X*2^p'<=Y*2^q'<->X*2^p'*2^q<=Y*2^q'*2^q:=(gh (au _)).symm;rw[a,b,bu,bu,bu,bu,<-bj,<-bj,<-bj,<-bj,c,ga q q']
def aJD(a:p+q'=p'+q):X*2^p<Y*2^q<->X*2^p'<Y*2^q':=by
 have:=aBG (X:=Y) (Y:=X) (p:=q) (q:=p) (p':=q') (q':=p') (by omega);rw[<-gj,<-gj,this]
def aL3(c:p+q'=p'+q):X*2^p=Y*2^q<->X*2^p'=Y*2^q':=by
 have b:=aBG (X:=X) (Y:=Y) c;have a:=aBG (X:=Y) (Y:=X) (p:=q) (q:=p) (p':=q') (q':=p') (by omega);constructor
 .intro e;exact gk (b.1 (dv e)) (a.1 (dv e.symm))
 .intro e;exact gk (b.2 (dv e)) (a.2 (dv e.symm))
def gG(a b:Nat):Int:=if a<b then -1 else if a=b then 0 else 1
def xT(a:p+q'=p'+q):gG (X*2^p) (Y*2^q)=gG (X*2^p') (Y*2^q'):=by
 unfold gG;simp only[aJD a,aL3 a]
structure aLQ(num den:Nat)(bits:Nat)(a:Int):Prop where
 low:iQ bits*den<=num*2^1074
 h:num*2^1074<iQ (bits+1)*den
 a:gG (num*2^1075) ((2*fN bits+1)*2^nN bits*den)=a
def aLd{i d a:Nat}{o:Int}(g5:(a:Int)-b=o)(Q:i*2^a=q*(f*2^b)+d)(hl:d<f*2^b)(hq:18014398509481984<=q):
 (kD q d o=⟨aM,1,J⟩/\(∃K l,aM<K*4503599627370496+l/\4503599627370496<=l/\l<9007199254740992/\l*2^K*f<=i*2^1074))\/
  ((kD q d o).bits<=aM/\aLQ i f (kD q d o).bits (kD q d o).a/\(0<=(kD q d o).a->(kD q d o).exact=J)):=by
 have g6:54<ct q:=gl.2 hq;obtain⟨k,hk⟩:∃k:Int,max ((ct q:Int)-53-o) (-1074)=k:=⟨_,rfl⟩;obtain⟨K,hK⟩:∃K:Nat,(k+1074).toNat=K:=⟨_,rfl⟩;obtain⟨j,hj⟩:∃j:Nat,(k+o).toNat=j+1:=⟨(k+o).toNat-1,by omega⟩;have g7:(K:Int)=k+1074:=by omega
 have g8:((j+1:Nat):Int)=k+o:=by omega
 obtain⟨l,y⟩:∃l,q/2^(j+1)=l:=⟨_,rfl⟩
 have z:l*2^(j+1)<=q/\q<(l+1)*2^(j+1):=by
  rw[<-y];exact⟨Nat.div_mul_le_self _ _,by have:=Nat.lt_div_mul_add (a:=q) (au (j+1));rw[bc,ck];exact this⟩
 have u:l<9007199254740992:=by
  rw[<-y,Nat.div_lt_iff_lt_mul (au _)]
  show q<2^53*2^(j+1)
  rw[<-bj];exact Lim.bitlen_le.1 (by omega)
 have B:K=0\/4503599627370496<=l:=by
  by_cases N:K=0
  .exact ae N
  .refine Z ?_;rw[<-y,Nat.le_div_iff_mul_le (au _)]
   show 2^52*2^(j+1)<=q
   rw[<-bj];exact gl.1 (by omega)
 have g4:(j+1)+b+1074=K+a:=by omega
 have hD:0<f*2^b:=by omega
 have v:=(show ∀e,e=1074->l*2^K*f<=i*2^e from λe he=>by
  have t:l*2^(j+1)*(f*2^b)<=i*2^a:=by
   rw[Q];exact bx (bw _ z.1) (Nat.le_add_right _ _)
  rw[et,<-bj]at t;rw[eu];exact(aBG (by omega)).1 t) 1074 rfl
 have p:=(show ∀e,e=1074->i*2^e<(l+1)*2^K*f from λe he=>by
  have t:i*2^a<(l+1)*2^(j+1)*(f*2^b):=by
   rw[Q];have:(q+1)*(f*2^b)<=(l+1)*2^(j+1)*(f*2^b):=bw _ z.2;rw[bc,ck]at this;omega
  rw[et,<-bj]at t;rw[eu];exact(aJD (by omega)).1 t) 1074 rfl
 have m:kD q d o=if aM<K*4503599627370496+l then⟨aM,1,J⟩else⟨K*4503599627370496+l,if q/2^j%2=1 then(if q%2^j≠0\/d≠0 then 1 else 0)else -1, !(decide (q%2^(j+1)≠0)||decide (d≠0))⟩:=by
  unfold kD;simp only[hk,hK,hj,y,du]
 by_cases g:aM<K*4503599627370496+l
 .rw[if_pos g]at m;refine ae ⟨m,K,l,g,B.resolve_left (λn=>?_),u,v⟩;subst n;unfold aM at g;omega
 .rw[if_neg g]at m;rw[m];refine Z ⟨by simp only;omega,?_,?_⟩
  .simp only;have X:K<=2045:=by unfold aM at g;omega
   obtain⟨C,Y⟩:=aL2 X u B;refine⟨by rw[C];exact v,?_,?_⟩
   .rw[aAR (by unfold aM at g;omega),C,Y];rw[bc,ck]at p;exact p
   .have f3:fN (K*4503599627370496+l)=l:=by
     unfold iQ at C;rw[Y]at C;exact Nat.eq_of_mul_eq_mul_right (au _) C
    rw[Y,f3]
    have F:q/2^j=2*l+q/2^j%2:=by
     have:q/2^j/2=l:=by rw[Nat.div_div_eq_div_mul,<-co];exact y
     omega
    have n:=gd q (2^j);have G:=gc q (au j)
    have hs:=(show ∀e,e=1075->gG (i*2^e) ((2*l+1)*2^K*f)=gG (i*2^a) ((2*l+1)*f*2^(j+b))from λe he=>by
     rw[eu (2*l+1)];exact xT (by omega)) 1075 rfl
    rw[hs,show(2*l+1)*f*2^(j+b)=(2*l+1)*2^j*(f*2^b) by rw[bj,et],Q];generalize f*2^b=D at hl hD;generalize 2^j=P at F n G;generalize q/P=s at F n;generalize q%P=r at n G;subst n;unfold gG;rcases Nat.mod_two_eq_zero_or_one s with N|t
    .have w:s=2*l:=by omega
     have h3:(P*s+r+1)*D<=(2*l+1)*P*D:=by
      refine bw _ ?_;rw[w,bc,ck,cr P];omega
     rw[bc,ck]at h3;rw[if_pos (by omega),if_neg (by omega)]
    .rw[if_pos t];have w:s=2*l+1:=by omega
     have h3:(P*s+r)*D=(2*l+1)*P*D+r*D:=by rw[w,bc,cr P]
     rw[h3,if_neg (by omega)]
     by_cases x:r≠0\/d≠0
     .rw[if_pos x,if_neg]
      have:0<r*D+d:=by
       rcases x with x|x
       .have:=Nat.mul_pos (Nat.pos_of_ne_zero x) hD;omega
       .omega
      omega
     .rw[if_neg x,if_pos];have g3:r=0:=by omega
      subst g3;omega
  .simp only;intro n
   by_cases t:q/2^j%2=1
   .have:q%2^(j+1)≠0:=by
     intro N;have w:2^(j+1)∣q:=Nat.dvd_of_mod_eq_zero N;obtain⟨c,x⟩:=w;rw[x,co,bu,Nat.mul_div_cancel_left _ (au j)]at t;omega
    simp[this]
   .rw[if_neg t]at n;omega
def bE{w w':S}{p:Addr}{v:af}(b:h w w w')(a:w.cell? p=I v):w'.cell? p=I v:=(b.cell (fi _ _ a)).trans a
def sT{w w':S}(a:h n w.drew w'):h n w w':=⟨a.os,a.tape,a.output,a.size,a.block⟩
def fA{w w':S}(a:h w.drew w.drew w'):h w w w':=⟨a.os,a.tape,a.output,a.size,a.block⟩
def qW{w w1:S}(a:h n w w1):h n w (w1.drewN k):=⟨a.os,a.tape,a.output,a.size,a.block⟩
def m8{w w1:S}(a:h n w w1):h n w w1.drew:=⟨a.os,a.tape,a.output,a.size,a.block⟩
abbrev bZ(c:UInt8):af:=W .u8 c.toNat
def dO(c:UInt8)(w:S):Calls cv 228 #[bZ c] w λe w'=>e=di (E (isD c))/\w'=w:=by
 by_cases d:48<=c.toNat
 .have g:¬(c.toNat:Int)<48:=by omega
  have i:(48:Int)<=(c.toNat:Int):=by omega
  by_cases b:c.toNat<=57
  .have a:isD c=U:=by simp[isD,d,b]
   have f:(c.toNat:Int)<=57:=by omega
   rw[a];clear a;go_enter ev,ew;go_wp2;go_ret;exact⟨rfl,rfl⟩
  .have a:isD c=J:=by simp[isD,b]
   have f:¬(c.toNat:Int)<=57:=by omega
   rw[a];clear a;go_enter ev,ew;go_wp2;go_ret;exact⟨rfl,rfl⟩
 .have a:isD c=J:=by simp[isD,d]
  have g:¬(48:Int)<=(c.toNat:Int):=by omega
  rw[a];clear a;go_enter ev,ew;go_wp2;go_ret;exact⟨rfl,rfl⟩
def aJa(l:Lit):af:=dj #[l.a,ac ⟨l.whole.toArray⟩,ac ⟨l.b.toArray⟩,l.d,ac ⟨l.c.toArray⟩]
def aGC:af:=dj #[E J,"","",E J,""]
def aBt(o:Option Lit)(e:Ending):Prop:=match o with
 | some l=>e=di (bp #[aJa l,W H (-1)])
 | none=>∃i:Nat,e=di (bp #[aGC,i])
def aGD(n:Nat)(x:Nat->af):L:={tmps:=((List.range n).map x).toArray,defers:= []}
def rU(a:L)(n:Nat)(e:a.tmps.size=n)(b:a.defers= []):a=aGD n (λi=>a.tmps.getD i R):=by
 subst e;rcases a with⟨t,d⟩;simp only at b;subst b;unfold aGD;congr 1;apply Array.ext
 .simp
 .intro i c f;simp[Array.getD,c]
def tU(x:Nat->af):aGD 158 x={tmps:= #[x 0,x 1,x 2,x 3,x 4,x 5,x 6,x 7,x 8,x 9,x 10,x 11,x 12,x 13,x 14,x 15,x 16,x 17,x 18,x 19,x 20,x 21,x 22,x 23,x 24,x 25,x 26,x 27,x 28,x 29,x 30,x 31,x 32,x 33,x 34,x 35,x 36,x 37,x 38,x 39,x 40,x 41,x 42,x 43,x 44,x 45,x 46,x 47,x 48,x 49,x 50,x 51,x 52,x 53,x 54,x 55,x 56,x 57,x 58,x 59,x 60,x 61,x 62,x 63,x 64,x 65,x 66,x 67,x 68,x 69,x 70,x 71,x 72,x 73,x 74,x 75,x 76,x 77,x 78,x 79,x 80,x 81,x 82,x 83,x 84,x 85,x 86,x 87,x 88,x 89,x 90,x 91,x 92,x 93,x 94,x 95,x 96,x 97,x 98,x 99,x 100,x 101,x 102,x 103,x 104,x 105,x 106,x 107,x 108,x 109,x 110,x 111,x 112,x 113,x 114,x 115,x 116,x 117,x 118,x 119,x 120,x 121,x 122,x 123,x 124,x 125,x 126,x 127,x 128,x 129,x 130,x 131,x 132,x 133,x 134,x 135,x 136,x 137,x 138,x 139,x 140,x 141,x 142,x 143,x 144,x 145,x 146,x 147,x 148,x 149,x 150,x 151,x 152,x 153,x 154,x 155,x 156,x 157],defers:= []}:=rfl
def cells5{w:S}{e d c a f:af}{i:TypeId}(g:w.heap[b]?=I (aj #[e,d,c,a,f] i (0,0))):w.cell? b=I e/\w.cell? ⟨b,1,O⟩=I d/\w.cell? ⟨b,2,O⟩=I c/\w.cell? ⟨b,3,O⟩=I a/\w.cell? ⟨b,4,O⟩=I f/\∀o,w.frozen? ⟨b,o,O⟩=J:=
 ⟨aA g,aA g,aA g,aA g,aA g,free_at g⟩
def drop_at{i:Nat}(a:i<s.size):s.data.toList.drop i=s[i]::s.data.toList.drop (i+1):=by
 rw[List.drop_eq_getElem_cons (by rw[av];exact a)];rfl
def nT(s:ByteArray)(f k:Nat):Prop:=∀j(a:j<s.size),f<=j->j<k->isD s[j]=U
def nT.J7(i:nT s f k)(g:k<s.size)(d:isD s[k]=U):nT s f (k+1):=λj e a b=>by
 by_cases c:j=k
 .subst c;exact d
 .exact i j e a (by omega)
def nT.nil(s:ByteArray)(f:Nat):nT s f f:=λj c a b=>by omega
def iT(m:f<=k)(q:k<=s.size)(d:∀j(t:j<s.size),f<=j->j<k->isD s[j]=U)(c:∀t:k<s.size,isD s[k]=J):
 (s.data.toList.drop f).takeWhile isD=(s.data.toList.drop f).take (k-f)/\(s.data.toList.drop f).dropWhile isD=s.data.toList.drop k:=by
 obtain⟨n,rfl⟩:∃n,k=f+n:=⟨k-f,by omega⟩
 induction n generalizing f with
 | zero=>
  rw[Nat.add_zero,dl,dm]
  by_cases t:f<s.size
  .rw[drop_at t,List.takeWhile_cons_of_neg (by simpa using c t),List.dropWhile_cons_of_neg (by simpa using c t)];exact⟨rfl,rfl⟩
  .have:s.data.toList.drop f= []:=bk (by rw[av];exact dw.1 t);rw[this];exact⟨rfl,rfl⟩
 | succ n o=>
  have t:f<s.size:=by omega
  have g:=d f t (V _) (by omega);have e:f+(n+1)=f+1+n:=by omega
  obtain⟨l,i⟩:=o (f:=f+1) (by omega) (by omega) (λj p a b=>d j p (by omega) (by omega)) (λr=>by simpa only[e]using c (by omega));rw[drop_at t,List.takeWhile_cons_of_pos g,List.dropWhile_cons_of_pos g,l,i,e];exact⟨by rw[show f+1+n-f=n+1 by omega,List.take_succ_cons];congr 2;omega,rfl⟩
def f9(l:Nat):Nat:=if l=0 then 0 else if l=2 then 1 else 2
def gT(s:ByteArray)(e:S)(l:Nat)(a:L)(w:S):Prop:=∃(x:Nat->af)(i:Nat),a=aGD 158 x/\x 0=ac s/\x 2=aw e/\x 3=W H 0/\
 x 4=aw (I ⟨e.heap.size+1,0,O⟩)/\x 5=W H i/\i<=s.size/\h e e w/\w.heap[e.heap.size]?=I (aj #[E J,"","",E J,""] 354 (0,0))/\
 ((l=0/\bI s.data.toList=O)\/
  (l=2/\∃neg d c,w.heap[e.heap.size+1]?=I (aj #[E neg,ac ⟨d.toArray⟩,ac ⟨c.toArray⟩,E J,""] 354 (0,0))/\bI s.data.toList=cZ neg d c (s.data.toList.drop i))\/
  (l=1/\∃(neg:Bool)(b:Nat),x 6=W H b/\b<=i/\w.heap[e.heap.size+1]?=I (aj #[E neg,"","",E J,""] 354 (0,0))/\
   bI s.data.toList=bF neg ((s.data.toList.drop b).take (i-b)) (s.data.toList.drop i)))
def wV(w:S):Calls cv 228 #[W .u8 48] w λe w'=>e=di (E U)/\w'=w:=dO 48 w
def aD{d:UInt8}{n:Int}(f:c≠d)(b:(d.toNat:Int)=n):¬(c.toNat:Int)=n/\((c.toNat:Int)==n)=J/\((c.toNat:Int)!=n)=U:=by
 subst b;have a:¬(c.toNat:Int)=(d.toNat:Int):=λe=>f (UInt8.toNat_inj.1 (gq e))
 exact⟨a,by simpa using a,by simpa using a⟩
def aJb(neg u:Bool)(c a:Oo)(b:ByteArray):aBt (I ⟨neg,c,a,u,b.data.toList⟩) (di (bp #[dj #[neg,ac ⟨c.toArray⟩,ac ⟨a.toArray⟩,u,b],W H (-1)])):=by
 simp[aBt,aJa]
def kI{b a:Oo}(d:c=101\/c=69)(e:(cA t).2.takeWhile isD= []\/(cA t).2.dropWhile isD≠ []):cZ neg b a (c::t)=O:=by
 simp only[cZ];rw[if_pos d,if_pos e]
def rV{u:Bool}{b a:Oo}(j:c=101\/c=69)(i:cA t=(u,r))(e:r.takeWhile isD=d)(g:d≠ [])(f:r.dropWhile isD= []):cZ neg b a (c::t)=I ⟨neg,b,a,u,d⟩:=by
 simp only[cZ];rw[if_pos j,i,if_neg (by simp[e,g,f]),e]
def aAb{b a:Oo}(e:c≠101)(d:c≠69):cZ neg b a (c::t)=O:=by
 simp only[cZ];rw[if_neg (by simp[e,d])]
def aAc(a:c=43):cA (c::t)=(J,t):=by subst a;rfl
def wW(a:c=45):cA (c::t)=(U,t):=by subst a;rfl
def pZ(b:c≠43)(a:c≠45):cA (c::t)=(J,c::t):=by simp[cA,b,a]
def nU(b:c=48)(a:k-f=1):cR neg (c::t)=bF neg ((c::t).take (k-f)) t:=by
 subst b;rw[a];rfl
def iU(f:isD c=U)(e:c≠48)(a:(c::t).takeWhile isD=d)(b:(c::t).dropWhile isD=r):cR neg (c::t)=bF neg d r:=by
 simp only[cR];rw[if_pos f,if_neg e,a,b]
def nV(a:isD c=J):cR neg (c::t)=O:=by
 simp only[cR];rw[a];rfl
def aBu(a:c≠45):bI (c::t)=cR J (c::t):=by
 simp only[bI];rw[if_neg a]
def wX{a:Oo}(b:c≠46):bF neg a (c::t)=cZ neg a [] (c::t):=by
 simp only[bF];rw[if_neg b]
def nW{a:Oo}(d:c=46)(b:t.takeWhile isD= []):bF neg a (c::t)=O:=by
 simp only[bF];rw[if_pos d,if_pos b]
def nX{a:Oo}(g:c=46)(b:t.takeWhile isD=d)(f:d≠ [])(e:t.dropWhile isD=r):bF neg a (c::t)=cZ neg a d r:=by
 simp only[bF];rw[if_pos g,b,if_neg f,e]
def pE{d:S}{r:Nat}(a:L)(w:S)(i:Nat)(neg:Bool)(b:ByteArray)(c:Oo)(q:a.tmps.size=158)(e:a.defers= [])(g:a.tmps.getD 0 R=ac s)(f:a.tmps.getD 2 R=aw d)
 (o:a.tmps.getD 3 R=W H 0)(l:a.tmps.getD 4 R=aw (I ⟨d.heap.size+1,0,O⟩))(m:a.tmps.getD 5 R=W H i)(hi:i<=s.size)(j:h d d w)
 (n:w.heap[d.heap.size]?=I (aj #[E J,"","",E J,""] 354 (0,0)))
 (t:w.heap[d.heap.size+1]?=I (aj #[neg,b,ac ⟨c.toArray⟩,E J,""] 354 (0,0)))
 (p:bI s.data.toList=cZ neg b.data.toList c (s.data.toList.drop i))(k:f9 2<r):gT s d 2 a w/\f9 2<r:=
 ⟨⟨_,i,rU a 158 q e,g,f,o,l,m,hi,j,n,Z (ae ⟨rfl,neg,b.data.toList,c,by simpa using t,p⟩)⟩,k⟩
def iJ{c:S}(a:L)(w:S)(i b:Nat)(neg:Bool)(q:a.tmps.size=158)(e:a.defers= [])(g:a.tmps.getD 0 R=ac s)(f:a.tmps.getD 2 R=aw c)
 (n:a.tmps.getD 3 R=W H 0)(k:a.tmps.getD 4 R=aw (I ⟨c.heap.size+1,0,O⟩))(l:a.tmps.getD 5 R=W H i)(p:a.tmps.getD 6 R=W H b)(d:b<=i)(hi:i<=s.size)(j:h c c w)
 (m:w.heap[c.heap.size]?=I (aj #[E J,"","",E J,""] 354 (0,0)))
 (r:w.heap[c.heap.size+1]?=I (aj #[neg,"","",E J,""] 354 (0,0)))
 (o:bI s.data.toList=bF neg ((s.data.toList.drop b).take (i-b)) (s.data.toList.drop i)):gT s c 1 a w:=
 ⟨_,i,rU a 158 q e,g,f,n,k,l,hi,j,m,Z (Z ⟨rfl,neg,b,p,d,r,o⟩)⟩
def iV{b:S}(a:L)(w:S)(i:Nat)(d:a.tmps.size=158)(c:a.defers= [])(j:a.tmps.getD 0 R=ac s)(e:a.tmps.getD 2 R=aw b)
 (k:a.tmps.getD 3 R=W H 0)(f:a.tmps.getD 4 R=aw (I ⟨b.heap.size+1,0,O⟩))(l:a.tmps.getD 5 R=W H i)(hi:i<=s.size)(m:h b b w)
 (g:w.heap[b.heap.size]?=I (aj #[E J,"","",E J,""] 354 (0,0)))(n:bI s.data.toList=O):gT s b 0 a w:=
 ⟨_,i,rU a 158 d c,j,e,k,f,l,hi,m,g,ae ⟨rfl,n⟩⟩
def fU(w:S)(o1 a:Obj):((w.alloc o1).alloc a).heap[w.heap.size]?=I o1/\((w.alloc o1).alloc a).heap[w.heap.size+1]?=I a/\h w w ((w.alloc o1).alloc a):=by
 refine⟨(fg _ _ _ (by simp)).trans (gm w _),?_,((Below.refl _ _).alloc (V _) _).alloc (by simp) _⟩;have:=gm (w.alloc o1) a
 simpa using this
def cW{b:S}{r:Nat}(a:L)(w:S)(i:Nat)(e:a.tmps.size=158)(c:a.defers= [])(k:a.tmps.getD 0 R=ac s)(f:a.tmps.getD 2 R=aw b)
 (l:a.tmps.getD 3 R=W H 0)(g:a.tmps.getD 4 R=aw (I ⟨b.heap.size+1,0,O⟩))(m:a.tmps.getD 5 R=W H i)(hi:i<=s.size)(n:h b b w)
 (j:w.heap[b.heap.size]?=I (aj #[E J,"","",E J,""] 354 (0,0)))(o:bI s.data.toList=O)(d:f9 0<r):gT s b 0 a w/\f9 0<r:=
 ⟨⟨_,i,rU a 158 e c,k,f,l,g,m,hi,n,j,ae ⟨rfl,o⟩⟩,d⟩
def aCF(s:ByteArray)(w:S)(hs:s.size<=1073741824):Calls cv 208 #[s] w λe w'=>aBt (bI s.data.toList) e/\h w w w':=by
 go_enter func208,ntmps208;go_wp2_with fail;refine wU (gT s w) f9 ?_ ?_
 .rintro l i5 a w1 ⟨x,i,rfl,F,G,h3,h4,h5,hi,d,K,hl⟩;rcases hl with⟨rfl,b⟩|⟨rfl,neg,N,D,C,g⟩|⟨rfl,neg,p,h6,i9,C,i1⟩
  .refine⟨_,rfl,?_⟩;rw[tU];have o:=A b;clear b;obtain⟨c0,c1,c2,c3,c4,cf⟩:=cells5 K;go_wp2_with fail;rw[Exit.E7];exact dx (v:=bp #[aGC,i]) (by simp[dy,ee,go_sem,c0,c1,c2,c3,c4,aGC,G,h5]) rfl ⟨by rw[o.o];exact⟨i,rfl⟩,((((d.setCell (V _) _).setCell (V _) _).setCell (V _) _).setCell (V _) _).setCell (V _) _⟩
  .refine⟨_,rfl,?_⟩;rw[tU];obtain⟨c0,c1,c2,c3,c4,cf⟩:=cells5 K;obtain⟨d0,d1,d2,d3,d4,df⟩:=cells5 C;have HT:=A g;have m:=A K;have P:=A C;clear g K C
   by_cases i3:i=s.size
   .subst i3;have hd:s.data.toList.drop s.size= []:=bk (by rw[av];exact V _);have b:=A hd;clear hd;go_wp2_with fail;rw[Exit.E7];exact dx (v:=bp #[aJa ⟨neg,N,D,J,[]⟩,W H (-1)]) (by simp[dy,ee,go_sem,c0,c1,c2,c3,c4,aJa,G,h5]) rfl ⟨by rw[HT.o,b.o];rfl,((((d.setCell (V _) _).setCell (V _) _).setCell (V _) _).setCell (V _) _).setCell (V _) _⟩
   .have i4:i<s.size:=by omega
    have Q:=A (drop_at i4)
    have hE:(s[i]≠101/\s[i]≠69)\/s[i]=101\/s[i]=69:=by
     by_cases b:s[i]=101
     .exact Z (ae b)
     .by_cases G:s[i]=69
      .exact Z (Z G)
      .exact ae ⟨b,G⟩
    rcases hE with⟨he,b⟩|he|he
    .obtain⟨-,-,i6⟩:=aD (c:=s[i]) (n:=101) he rfl;obtain⟨-,-,g⟩:=aD (c:=s[i]) (n:=69) b rfl
     have t:bI s.data.toList=O:=by
      rw[HT.o,Q.o];exact aAb he b
     have o:=A t;clear t he b;go_wp2_with fail
     all_goals(try go_step3)
     show gT s w 0 _ _/\f9 0<f9 2
     exact cW _ _ i rfl rfl (by first|exact F|rfl) (by first|exact G|rfl) (by first|exact h3|rfl) (by first|exact h4|rfl) (by first|exact h5|rfl) hi d m.o o.o (by decide)
    all_goals
     have HE:M (s[i]=101\/s[i]=69):=A (by first|exact ae he|exact Z he)
     first
     | have i7:((s[i].toNat:Nat):Int)=101:=by rw[he];rfl
     | have i7:((s[i].toNat:Nat):Int)=69:=by rw[he];rfl
     clear he
     by_cases i8:i+1<s.size
     .have h9:=A (drop_at i8)
      by_cases hp:s[i+1]=43\/s[i+1]=45
      .obtain⟨u,hu,HP⟩:∃u,(s[i+1]=43/\u=J\/s[i+1]=45/\u=U)/\M (cA (s[i+1]::s.data.toList.drop (i+1+1))=(u,s.data.toList.drop (i+1+1))):=hp.elim (λa0=>⟨J,ae ⟨a0,rfl⟩,A (aAc a0)⟩) (λa0=>⟨U,Z ⟨a0,rfl⟩,A (wW a0)⟩);clear hp;rcases hu with⟨hp,hu⟩|⟨hp,hu⟩
       all_goals
        first
        | have b:((s[i+1].toNat:Nat):Int)=43:=by rw[hp];rfl
        | have b:((s[i+1].toNat:Nat):Int)=45:=by rw[hp];rfl
        clear hp;go_wp2_with fail
        go_loop [5] (λv=>∃k:Nat,i+1+1<=k/\k<=s.size/\v=W H k/\M (nT s (i+1+1) k)) (λv=>s.size-(ak v).toNat)
        case atStart=>exact⟨i+1+1,by omega,by omega,by go_num,A (nT.nil s _)⟩
        case round=>
         obtain⟨k,B,j,rfl,g⟩:=hrel
         by_cases z:k<s.size
         .by_cases q:isD s[k]=U
          .go_wp2_with fail;refine(dO s[k] _).mono ?_;rintro e w2 ⟨rfl,rfl⟩;rw[q];go_wp2_with fail;refine⟨⟨k+1,by omega,by omega,by go_num,A (g.o.J7 z q)⟩,by simp[ak];omega⟩
          .go_wp2_with fail;refine(dO s[k] _).mono ?_;rintro e w2 ⟨rfl,rfl⟩;have y:isD s[k]=J:=by simpa using q
           rw[y];have b:=iT (s:=s) (f:=i+1+1) (k:=k) B j g.o (λ_=>y)
           have t:bI s.data.toList=O:=by
            rw[HT.o,Q.o,h9.o];refine kI HE.o (Z ?_);rw[HP.o,b.2,drop_at z];simp
           have o:=A t;clear t b q y;go_wp2_with fail
           all_goals(try go_step3)
           all_goals(show gT s w 0 _ _/\f9 0<f9 2)
           all_goals(first|exact cW _ _ k rfl rfl (by first|exact F|rfl) (by first|exact G|rfl) (by first|exact h3|rfl) (by first|exact h4|rfl) (by first|exact h5|rfl) j ((d.setCell (T _) _).setCell (T _) _) ((aE _ (by simp)).trans ((aE _ (by simp)).trans m.o)) o.o (by decide)|exact cW _ _ (i+1+1) rfl rfl (by first|exact F|rfl) (by first|exact G|rfl) (by first|exact h3|rfl) (by first|exact h4|rfl) rfl (by omega) ((d.setCell (T _) _).setCell (T _) _) ((aE _ (by simp)).trans ((aE _ (by simp)).trans m.o)) o.o (by decide))
         .have X:k=s.size:=by omega
          subst X;have b:=A (iT (s:=s) (f:=i+1+1) (k:=s.size) B j g.o (λa0=>absurd a0 z))
          by_cases h8:s.size=i+1+1
          .have t:bI s.data.toList=O:=by
            rw[HT.o,Q.o,h9.o];refine kI HE.o (ae ?_);rw[HP.o,b.o.1,h8,dl,dm]
           have o:=A t
           clear t;go_wp2_with fail
           all_goals(try go_step3)
           all_goals(show gT s w 0 _ _/\f9 0<f9 2)
           all_goals(first|exact cW _ _ k rfl rfl (by first|exact F|rfl) (by first|exact G|rfl) (by first|exact h3|rfl) (by first|exact h4|rfl) (by first|exact h5|rfl) j ((d.setCell (Nat.le_succ _) _).setCell (Nat.le_succ _) _) ((aE _ (by simp)).trans ((aE _ (by simp)).trans m.o)) o.o (by decide)|exact cW _ _ (i+1+1) rfl rfl (by first|exact F|rfl) (by first|exact G|rfl) (by first|exact h3|rfl) (by first|exact h4|rfl) rfl (by omega) ((d.setCell (T _) _).setCell (T _) _) ((aE _ (by simp)).trans ((aE _ (by simp)).trans m.o)) o.o (by decide))
          .have Y:¬(s.size:Int)=(i:Int)+1+1:=by omega
           have i2:((s.size:Int)==(i:Int)+1+1)=J:=by simpa using Y
           have t:bI s.data.toList=I ⟨neg,N,D,u,(s.extract (i+1+1) s.size).data.toList⟩:=by
            have i0:(s.extract (i+1+1) s.size).data.toList=(s.data.toList.drop (i+1+1)).take (s.size-(i+1+1)):=by simp
            rw[HT.o,Q.o,h9.o,i0];refine rV HE.o HP.o ?_ ?_ ?_
            .exact b.o.1
            .intro F;have:=congrArg eh F;simp at this;omega
            .rw[b.o.2];exact bk (by rw[av];exact V _)
           have o:=A t;clear t;go_wp2_with fail
           all_goals(try rw[Exit.E7])
           exact dx (v:=bp #[dj #[neg,ac ⟨N.toArray⟩,ac ⟨D.toArray⟩,E u,ac (s.extract (i+1+1) s.size)],W H (-1)]) (by simp[dy,ee,go_sem,c0,c1,c2,c3,c4,G,hu]) rfl ⟨by rw[o.o];exact aJb _ _ _ _ _,((((((d.setCell (T _) _).setCell (T _) _).setCell (V _) _).setCell (V _) _).setCell (V _) _).setCell (V _) _).setCell (V _) _⟩
      .obtain⟨hp,hm⟩:=not_or.1 hp;obtain⟨-,j0,-⟩:=aD (c:=s[i+1]) (n:=43) hp rfl;obtain⟨-,j1,-⟩:=aD (c:=s[i+1]) (n:=45) hm rfl;have HP:=A hp;have HM:=A hm;clear hp hm;go_wp2_with fail
       go_loop [5] (λv=>∃k:Nat,i+1<=k/\k<=s.size/\v=W H k/\M (nT s (i+1) k)) (λv=>s.size-(ak v).toNat)
       case atStart=>exact⟨i+1,by omega,by omega,by go_num,A (nT.nil s _)⟩
       case round=>
        obtain⟨k,B,j,rfl,g⟩:=hrel
        by_cases z:k<s.size
        .by_cases q:isD s[k]=U
         .go_wp2_with fail;refine(dO s[k] _).mono ?_;rintro e w2 ⟨rfl,rfl⟩;rw[q];go_wp2_with fail;refine⟨⟨k+1,by omega,by omega,by go_num,A (g.o.J7 z q)⟩,by simp[ak];omega⟩
         .go_wp2_with fail;refine(dO s[k] _).mono ?_;rintro e w2 ⟨rfl,rfl⟩;have y:isD s[k]=J:=by simpa using q
          rw[y];have b:=iT (s:=s) (f:=i+1) (k:=k) B j g.o (λ_=>y)
          have t:bI s.data.toList=O:=by
           rw[HT.o,Q.o];refine kI HE.o (Z ?_);rw[(show cA (s.data.toList.drop (i+1))=(J,s.data.toList.drop (i+1))from by rw[h9.o];exact pZ HP.o HM.o),b.2,drop_at z];simp
          have o:=A t;clear t b q y;go_wp2_with fail
          all_goals(try go_step3)
          all_goals(show gT s w 0 _ _/\f9 0<f9 2)
          all_goals(first|exact cW _ _ k rfl rfl (by first|exact F|rfl) (by first|exact G|rfl) (by first|exact h3|rfl) (by first|exact h4|rfl) (by first|exact h5|rfl) j (d.setCell (T _) _) ((aE _ (by simp)).trans m.o) o.o (by decide)|exact cW _ _ (i+1) rfl rfl (by first|exact F|rfl) (by first|exact G|rfl) (by first|exact h3|rfl) (by first|exact h4|rfl) rfl (by omega) (d.setCell (T _) _) ((aE _ (by simp)).trans m.o) o.o (by decide))
        .have X:k=s.size:=by omega
         subst X;have b:=A (iT (s:=s) (f:=i+1) (k:=s.size) B j g.o (λa0=>absurd a0 z))
         by_cases h8:s.size=i+1
         .exfalso;omega
         .have Y:¬(s.size:Int)=(i:Int)+1:=by omega
          have i2:((s.size:Int)==(i:Int)+1)=J:=by simpa using Y
          have t:bI s.data.toList=I ⟨neg,N,D,J,(s.extract (i+1) s.size).data.toList⟩:=by
           have i0:(s.extract (i+1) s.size).data.toList=(s.data.toList.drop (i+1)).take (s.size-(i+1)):=by simp
           rw[HT.o,Q.o,i0];refine rV HE.o (show cA (s.data.toList.drop (i+1))=(J,s.data.toList.drop (i+1))from by rw[h9.o];exact pZ HP.o HM.o) ?_ ?_ ?_
           .exact b.o.1
           .intro F;have:=congrArg eh F;simp at this;omega
           .rw[b.o.2];exact bk (by rw[av];exact V _)
          have o:=A t;clear t;go_wp2_with fail
          all_goals(try rw[Exit.E7])
          exact dx (v:=bp #[dj #[neg,ac ⟨N.toArray⟩,ac ⟨D.toArray⟩,E J,ac (s.extract (i+1) s.size)],W H (-1)]) (by simp[dy,ee,go_sem,c0,c1,c2,c3,c4,G]) rfl ⟨by rw[o.o];exact aJb _ _ _ _ _,(((((d.setCell (T _) _).setCell (V _) _).setCell (V _) _).setCell (V _) _).setCell (V _) _).setCell (V _) _⟩
     .have h9:s.data.toList.drop (i+1)= []:=bk (by rw[av];exact dw.1 i8);have j0:=A h9;clear h9;go_wp2_with fail
      go_loop [5] (λv=>∃k:Nat,i+1<=k/\k<=s.size/\v=W H k/\M (nT s (i+1) k)) (λv=>s.size-(ak v).toNat)
      case atStart=>exact⟨i+1,by omega,by omega,by go_num,A (nT.nil s _)⟩
      case round=>
       obtain⟨k,B,j,rfl,g⟩:=hrel
       by_cases z:k<s.size
       .exfalso;omega
       .have X:k=s.size:=by omega
        subst X;have b:=A (iT (s:=s) (f:=i+1) (k:=s.size) B j g.o (λa0=>absurd a0 z))
        by_cases h8:s.size=i+1
        .have t:bI s.data.toList=O:=by
          rw[HT.o,Q.o];refine kI HE.o (ae ?_);rw[(show cA (s.data.toList.drop (i+1))=(J,s.data.toList.drop (i+1))from by rw[j0.o];rfl),b.o.1,h8,dl,dm]
         have o:=A t
         clear t;go_wp2_with fail
         all_goals(try go_step3)
         all_goals(show gT s w 0 _ _/\f9 0<f9 2)
         all_goals(first|exact cW _ _ k rfl rfl (by first|exact F|rfl) (by first|exact G|rfl) (by first|exact h3|rfl) (by first|exact h4|rfl) (by first|exact h5|rfl) j (d.setCell (Nat.le_succ _) _) ((aE _ (by simp)).trans m.o) o.o (by decide)|exact cW _ _ (i+1) rfl rfl (by first|exact F|rfl) (by first|exact G|rfl) (by first|exact h3|rfl) (by first|exact h4|rfl) rfl (by omega) (d.setCell (T _) _) ((aE _ (by simp)).trans m.o) o.o (by decide))
        .exfalso;omega
  .have i8:=A i5;clear i5;obtain⟨c0,c1,c2,c3,c4,-⟩:=cells5 K;obtain⟨d0,d1,d2,d3,d4,df⟩:=cells5 C;have HP:=A i1;have m:=A K;have P:=A C;clear i1 K C;have i0:(s.extract p i).data.toList=(s.data.toList.drop p).take (i-p):=by simp
   have C:(⟨((s.data.toList.drop p).take (i-p)).toArray⟩:ByteArray)=s.extract p i:=by rw[<-i0]
   have i1:=A i0;have HW:=A C;clear i0 C;refine⟨_,rfl,?_⟩;rw[tU]
   by_cases i3:i=s.size
   .subst i3
    have t:bI s.data.toList=cZ neg (s.extract p s.size).data.toList [] (s.data.toList.drop s.size):=by
     have hd:s.data.toList.drop s.size= []:=bk (by rw[av];exact V _);rw[HP.o,hd,i1.o];rfl
    have o:=A t;clear t;go_wp2_with fail
    all_goals(try go_step3)
    show gT s w 2 _ _/\f9 2<f9 1
    exact pE _ _ s.size neg _ [] rfl rfl (by first|exact F|rfl) (by first|exact G|rfl) (by first|exact h3|rfl) (by first|exact h4|rfl) (by first|exact h5|rfl) hi (d.setCell (T _) _) ((aE _ (by simp)).trans m.o) (aB P.o _) o.o (by decide)
   .have i4:i<s.size:=by omega
    have i0:¬(i:Int)=(s.size:Int):=by omega
    have i5:((i:Int)==(s.size:Int))=J:=by simpa using i0
    have Q:=A (drop_at i4)
    by_cases he:s[i]=46
    .have i7:((s[i].toNat:Nat):Int)=46:=by rw[he];rfl
     have HE:=A he;clear he;go_wp2_with fail
     go_loop [5] (λv=>∃k:Nat,i+1<=k/\k<=s.size/\v=W H k/\M (nT s (i+1) k)) (λv=>s.size-(ak v).toNat)
     case atStart=>exact⟨i+1,by omega,by omega,by go_num,A (nT.nil s _)⟩
     case round=>
      obtain⟨k,B,j,rfl,g⟩:=hrel
      by_cases z:k<s.size
      .by_cases q:isD s[k]=U
       .go_wp2_with fail;refine(dO s[k] _).mono ?_;rintro e w2 ⟨rfl,rfl⟩;rw[q];go_wp2_with fail;refine⟨⟨k+1,by omega,by omega,by go_num,A (g.o.J7 z q)⟩,by simp[ak];omega⟩
       .have y:isD s[k]=J:=by simpa using q
        have b:=iT (s:=s) (f:=i+1) (k:=k) B j g.o (λ_=>y);go_wp2_with fail;refine(dO s[k] _).mono ?_;rintro e w2 ⟨rfl,rfl⟩;rw[y]
        have C:(k=i+1->bI s.data.toList=O)/\(k≠i+1->bI s.data.toList=cZ neg (s.extract p i).data.toList (s.extract (i+1) k).data.toList (s.data.toList.drop k)):=by
         have h9:(s.extract (i+1) k).data.toList=(s.data.toList.drop (i+1)).take (k-(i+1)):=by simp
         rw[HP.o,Q.o,i1.o];refine⟨λa0=>?_,λa0=>?_⟩
         .refine nW HE.o ?_;rw[b.1,a0,dl,dm]
         .refine nX HE.o (by rw[b.1,h9]) ?_ b.2;intro F;have:=congrArg eh F;simp at this;omega
        have K:=A C;clear C b q y
        by_cases h8:k=i+1
        .have o:=A (K.o.1 h8)
         go_wp2_with fail
         all_goals(try go_step3)
         all_goals(show gT s w 0 _ _/\f9 0<f9 1)
         first|exact cW _ _ k rfl rfl (by first|exact F|rfl) (by first|exact G|rfl) (by first|exact h3|rfl) (by first|exact h4|rfl) rfl j (d.setCell (T _) _) ((aE _ (by simp)).trans m.o) o.o (by decide)|exact cW _ _ (i+1) rfl rfl (by first|exact F|rfl) (by first|exact G|rfl) (by first|exact h3|rfl) (by first|exact h4|rfl) rfl (by omega) (d.setCell (T _) _) ((aE _ (by simp)).trans m.o) o.o (by decide)
        .have o:=A (K.o.2 h8);have Y:¬(k:Int)=(i:Int)+1:=by omega
         have i2:((k:Int)==(i:Int)+1)=J:=by simpa using Y
         go_wp2_with fail
         all_goals(try go_step3)
         simp only[Exit.then]
         apply_assumption
         refine i8.o 2 _ _ _ (by decide) rfl ?_;exact(pE (r:=5) _ _ k neg (s.extract p i) (s.extract (i+1) k).data.toList rfl rfl (by first|exact F|rfl) (by first|exact G|rfl) (by first|exact h3|rfl) (by first|exact h4|rfl) rfl j ((d.setCell (T _) _).setCell (T _) _) ((aE _ (by simp)).trans ((aE _ (by simp)).trans m.o)) (aB (aB P.o _) _) o.o (by decide)).1
      .have X:k=s.size:=by omega
       subst X;have b:=iT (s:=s) (f:=i+1) (k:=s.size) B j g.o (λa0=>absurd a0 z)
       have C:(s.size=i+1->bI s.data.toList=O)/\(s.size≠i+1->bI s.data.toList=cZ neg (s.extract p i).data.toList (s.extract (i+1) s.size).data.toList (s.data.toList.drop s.size)):=by
        have h9:(s.extract (i+1) s.size).data.toList=(s.data.toList.drop (i+1)).take (s.size-(i+1)):=by simp
        rw[HP.o,Q.o,i1.o];refine⟨λa0=>?_,λa0=>?_⟩
        .refine nW HE.o ?_;rw[b.1,a0,dl,dm]
        .refine nX HE.o (by rw[b.1,h9]) ?_ b.2;intro F;have:=congrArg eh F;simp at this;omega
       have K:=A C;clear C b
       by_cases h8:s.size=i+1
       .have o:=A (K.o.1 h8)
        go_wp2_with fail
        all_goals(try go_step3)
        all_goals(show gT s w 0 _ _/\f9 0<f9 1)
        first|exact cW _ _ s.size rfl rfl (by first|exact F|rfl) (by first|exact G|rfl) (by first|exact h3|rfl) (by first|exact h4|rfl) rfl j (d.setCell (T _) _) ((aE _ (by simp)).trans m.o) o.o (by decide)|exact cW _ _ (i+1) rfl rfl (by first|exact F|rfl) (by first|exact G|rfl) (by first|exact h3|rfl) (by first|exact h4|rfl) rfl (by omega) (d.setCell (T _) _) ((aE _ (by simp)).trans m.o) o.o (by decide)
       .have o:=A (K.o.2 h8);have Y:¬(s.size:Int)=(i:Int)+1:=by omega
        have i2:((s.size:Int)==(i:Int)+1)=J:=by simpa using Y
        go_wp2_with fail
        all_goals(try go_step3)
        simp only[Exit.then]
        apply_assumption
        refine i8.o 2 _ _ _ (by decide) rfl ?_;exact(pE (r:=5) _ _ s.size neg (s.extract p i) (s.extract (i+1) s.size).data.toList rfl rfl (by first|exact F|rfl) (by first|exact G|rfl) (by first|exact h3|rfl) (by first|exact h4|rfl) rfl j ((d.setCell (T _) _).setCell (T _) _) ((aE _ (by simp)).trans ((aE _ (by simp)).trans m.o)) (aB (aB P.o _) _) o.o (by decide)).1
    .obtain⟨-,-,i6⟩:=aD (c:=s[i]) (n:=46) he rfl
     have t:bI s.data.toList=cZ neg (s.extract p i).data.toList [] (s.data.toList.drop i):=by
      rw[HP.o,Q.o,i1.o];exact wX he
     have o:=A t;clear t he;go_wp2_with fail
     all_goals(try go_step3)
     show gT s w 2 _ _/\f9 2<f9 1
     exact pE _ _ i neg _ [] rfl rfl (by first|exact F|rfl) (by first|exact G|rfl) (by first|exact h3|rfl) (by first|exact h4|rfl) (by first|exact h5|rfl) hi (d.setCell (T _) _) ((aE _ (by simp)).trans m.o) (aB P.o _) o.o (by decide)
 .intro d;have D:=A d;clear d
  by_cases F:0<s.size
  .have Q:=A (drop_at F)
   by_cases hm:s[0]=45
   .have i0:((s[0].toNat:Nat):Int)=45:=by rw[hm];rfl
    have G:M (bI s.data.toList=cR U (s.data.toList.drop 1)):=A (by
     have:=Q.o;rw[ez]at this;rw[this,hm];rfl)
    clear hm
    by_cases K:1<s.size
    .have p:=A (drop_at K);have P:¬(1:Int)=(s.size:Int):=by omega
     have N:((1:Int)==(s.size:Int))=J:=by simpa using P
     by_cases d:isD s[1]=U
     .by_cases C:s[1]=48
      .have Y:((s[1].toNat:Nat):Int)=48:=by rw[C];rfl
       have t:bI s.data.toList=bF U ((s.data.toList.drop 1).take (2-1)) (s.data.toList.drop 2):=by
        rw[G.o,p.o];exact nU C (by omega)
       have o:=A t;clear t C d;go_wp2_with fail;refine(wV _).mono ?_;rintro e w2 ⟨rfl,rfl⟩;go_wp2_with fail
       all_goals(try go_step3)
       show gT s w 1 _ _
       exact iJ _ _ 2 1 U rfl rfl rfl rfl rfl rfl rfl rfl (by omega) (by omega) ((fU _ _ _).2.2) (fU _ _ _).1 (fU _ _ _).2.1 o.o
      .obtain⟨-,h8,h9⟩:=aD (c:=s[1]) (n:=48) C rfl;have C:=A C;go_wp2_with fail;refine(dO s[1] _).mono ?_;rintro e w2 ⟨rfl,rfl⟩;rw[d];have d:=A d;go_wp2_with fail
       go_loop [5] (λv=>∃k:Nat,1<=k/\k<=s.size/\v=W H k/\M (nT s 1 k)) (λv=>s.size-(ak v).toNat)
       case atStart=>exact⟨1,by omega,by omega,by go_num,A (nT.nil s _)⟩
       case round=>
        obtain⟨k,B,j,rfl,g⟩:=hrel
        by_cases z:k<s.size
        .by_cases q:isD s[k]=U
         .go_wp2_with fail;refine(dO s[k] _).mono ?_;rintro e w2 ⟨rfl,rfl⟩;rw[q];go_wp2_with fail;refine⟨⟨k+1,by omega,by omega,by go_num,A (g.o.J7 z q)⟩,by simp[ak];omega⟩
         .have y:isD s[k]=J:=by simpa using q
          have b:=iT (s:=s) (f:=1) (k:=k) B j g.o (λ_=>y);go_wp2_with fail;refine(dO s[k] _).mono ?_;rintro e w2 ⟨rfl,rfl⟩;rw[y]
          have o:=A (show bI s.data.toList=bF U ((s.data.toList.drop 1).take (k-1)) (s.data.toList.drop k) by
           rw[G.o,<-b.1,<-b.2,p.o];exact iU d.o C.o rfl rfl)
          clear b q y;go_wp2_with fail
          all_goals(try go_step3)
          simp only[Exit.then]
          apply_assumption
          refine D.o 1 _ _ _ rfl ?_;exact iJ _ _ k 1 U rfl rfl rfl rfl rfl rfl rfl rfl (by omega) j ((fU _ _ _).2.2) (fU _ _ _).1 (fU _ _ _).2.1 o.o
        .have X:k=s.size:=by omega
         subst X;have b:=iT (s:=s) (f:=1) (k:=s.size) B j g.o (λa0=>absurd a0 z)
         have o:=A (show bI s.data.toList=bF U ((s.data.toList.drop 1).take (s.size-1)) (s.data.toList.drop s.size) by
          rw[G.o,<-b.1,<-b.2,p.o];exact iU d.o C.o rfl rfl)
         clear b;go_wp2_with fail
         all_goals(try go_step3)
         simp only[Exit.then]
         apply_assumption
         refine D.o 1 _ _ _ rfl ?_;exact iJ _ _ s.size 1 U rfl rfl rfl rfl rfl rfl rfl rfl (by omega) j ((fU _ _ _).2.2) (fU _ _ _).1 (fU _ _ _).2.1 o.o
     .have m:isD s[1]=J:=by simpa using d
      have t:bI s.data.toList=O:=by
       rw[G.o,p.o];exact nV m
      have o:=A t;clear t;go_wp2_with fail;refine(dO s[1] _).mono ?_;rintro e w2 ⟨rfl,rfl⟩;rw[m];clear d m;go_wp2_with fail
      all_goals(try go_step3)
      show gT s w 0 _ _
      exact iV _ _ 1 rfl rfl rfl rfl rfl rfl rfl (by omega) ((fU _ _ _).2.2) (fU _ _ _).1 o.o
    .have N:(1:Int)=(s.size:Int):=by omega
     have t:bI s.data.toList=O:=by
      rw[G.o,bk (by rw[av];exact dw.1 K)];rfl
     have o:=A t;clear t;go_wp2_with fail
     all_goals(try go_step3)
     show gT s w 0 _ _
     exact iV _ _ s.size rfl rfl rfl rfl rfl rfl rfl (by omega) ((fU _ _ _).2.2) (fU _ _ _).1 o.o
   .obtain⟨-,i0,i1⟩:=aD (c:=s[0]) (n:=45) hm rfl
    have G:M (bI s.data.toList=cR J (s.data.toList.drop 0)):=A (by
     have:=Q.o;rw[ez]at this;rw[ez,this];exact aBu hm)
    clear hm
    by_cases K:0<s.size
    .have p:=A (drop_at K);have P:¬(0:Int)=(s.size:Int):=by omega
     have N:((0:Int)==(s.size:Int))=J:=by simpa using P
     by_cases d:isD s[0]=U
     .by_cases C:s[0]=48
      .have Y:((s[0].toNat:Nat):Int)=48:=by rw[C];rfl
       have t:bI s.data.toList=bF J ((s.data.toList.drop 0).take (1-0)) (s.data.toList.drop 1):=by
        rw[G.o,p.o];exact nU C (by omega)
       have o:=A t;clear t C d;go_wp2_with fail;refine(wV _).mono ?_;rintro e w2 ⟨rfl,rfl⟩;go_wp2_with fail
       all_goals(try go_step3)
       show gT s w 1 _ _
       exact iJ _ _ 1 0 J rfl rfl rfl rfl rfl rfl rfl rfl (by omega) (by omega) (((fU _ _ _).2.2)) (fU _ _ _).1 (fU _ _ _).2.1 o.o
      .obtain⟨-,h8,h9⟩:=aD (c:=s[0]) (n:=48) C rfl;have C:=A C;go_wp2_with fail;refine(dO s[0] _).mono ?_;rintro e w2 ⟨rfl,rfl⟩;rw[d];have d:=A d;go_wp2_with fail
       go_loop [5] (λv=>∃k:Nat,0<=k/\k<=s.size/\v=W H k/\M (nT s 0 k)) (λv=>s.size-(ak v).toNat)
       case atStart=>exact⟨0,by omega,by omega,by go_num,A (nT.nil s _)⟩
       case round=>
        obtain⟨k,B,j,rfl,g⟩:=hrel
        by_cases z:k<s.size
        .by_cases q:isD s[k]=U
         .go_wp2_with fail;refine(dO s[k] _).mono ?_;rintro e w2 ⟨rfl,rfl⟩;rw[q];go_wp2_with fail;refine⟨⟨k+1,by omega,by omega,by go_num,A (g.o.J7 z q)⟩,by simp[ak];omega⟩
         .have y:isD s[k]=J:=by simpa using q
          have b:=iT (s:=s) (f:=0) (k:=k) B j g.o (λ_=>y);go_wp2_with fail;refine(dO s[k] _).mono ?_;rintro e w2 ⟨rfl,rfl⟩;rw[y]
          have o:=A (show bI s.data.toList=bF J ((s.data.toList.drop 0).take (k-0)) (s.data.toList.drop k) by
           rw[G.o,<-b.1,<-b.2,p.o];exact iU d.o C.o rfl rfl)
          clear b q y;go_wp2_with fail
          all_goals(try go_step3)
          simp only[Exit.then]
          apply_assumption
          refine D.o 1 _ _ _ rfl ?_;exact iJ _ _ k 0 J rfl rfl rfl rfl rfl rfl rfl rfl (by omega) j (((fU _ _ _).2.2)) (fU _ _ _).1 (fU _ _ _).2.1 o.o
        .have X:k=s.size:=by omega
         subst X;have b:=iT (s:=s) (f:=0) (k:=s.size) B j g.o (λa0=>absurd a0 z)
         have o:=A (show bI s.data.toList=bF J ((s.data.toList.drop 0).take (s.size-0)) (s.data.toList.drop s.size) by
          rw[G.o,<-b.1,<-b.2,p.o];exact iU d.o C.o rfl rfl)
         clear b;go_wp2_with fail
         all_goals(try go_step3)
         simp only[Exit.then]
         apply_assumption
         refine D.o 1 _ _ _ rfl ?_;exact iJ _ _ s.size 0 J rfl rfl rfl rfl rfl rfl rfl rfl (by omega) j (((fU _ _ _).2.2)) (fU _ _ _).1 (fU _ _ _).2.1 o.o
     .have m:isD s[0]=J:=by simpa using d
      have t:bI s.data.toList=O:=by
       rw[G.o,p.o];exact nV m
      have o:=A t;clear t;go_wp2_with fail;refine(dO s[0] _).mono ?_;rintro e w2 ⟨rfl,rfl⟩;rw[m];clear d m;go_wp2_with fail
      all_goals(try go_step3)
      show gT s w 0 _ _
      exact iV _ _ 0 rfl rfl rfl rfl rfl rfl rfl (by omega) (((fU _ _ _).2.2)) (fU _ _ _).1 o.o
    .have N:(0:Int)=(s.size:Int):=by omega
     have t:bI s.data.toList=O:=by
      rw[G.o,bk (by rw[av];exact dw.1 K)];rfl
     have o:=A t;clear t;go_wp2_with fail
     all_goals(try go_step3)
     show gT s w 0 _ _
     exact iV _ _ 0 rfl rfl rfl rfl rfl rfl rfl (by omega) (((fU _ _ _).2.2)) (fU _ _ _).1 o.o
  .have b:s.data.toList= []:=by
    have:s.data.toList.length=0:=by rw[av];exact Nat.eq_zero_of_not_pos F
    exact List.eq_nil_of_length_eq_zero this
   have t:bI s.data.toList=O:=by rw[b];rfl
   have o:=A t
   have d:¬(0:Int)<(s.size:Int):=by omega
   have g:(s.size:Int)=0:=by omega
   clear t b;go_wp2_with fail
   all_goals(try go_step3)
   show gT s w 0 _ _
   exact iV _ _ 0 rfl rfl rfl rfl rfl rfl rfl (by omega) ((fU _ _ _).2.2) (fU _ _ _).1 o.o
