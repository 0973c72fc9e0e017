/-
  The program, one part of its walk. Conditions: none.
-/
import Derived.Test.YtakkmiomhackiaaGreatDoorAj24
set_option linter.all false
set_option maxRecDepth 100000
set_option maxHeartbeats 16000000
open Go.Proofs.Tryz
open Bool renaming false->F,true->Z
open ByteArray renaming size_data->co
open Go renaming Calls->ao,Value->h,World->ag,lt_of_block->bh,maxLen->bg
open Go.Proofs.Tryz renaming func106->bk,ntmps106->bm,prog->ak
open List renaming mem_reverse->cw
open Option renaming none->U,some->X
open Or renaming inl->ai,inr->ae
namespace Go.Proofs.YtakkmiomhackiaaGreatDoor
open Go.RowKit
open Ending renaming returned->aw
open IntKind renaming i64->I
open Obj renaming cells->Y
open Keeps renaming A2->bz,A4->H
open Pc renaming ok->af
open Ra renaming bad->Q,on->ah
open Rr renaming D9->bj,E7->bx,N1->az
open RowKit renaming Below->ac
open Value renaming bool->aj,int->O,ownBlock->bu,slice->J,string->D
open World renaming setCell->ct
variable {w:ag}{V:h}{r:Rr}{s:ByteArray}{b c d i n:Nat}{f:RFr}
def sU:∀(N:Nat){l b:Oo}{j:Nat}{x:Oo×Nat},l.length<=N->cM b j l=af x->x.1.length<=b.length+l.length/\j<=x.2/\x.2<=j+l.length
 | _,[],_,_,_,_,p=>by rw[cM]at p;cases p
 | 0,_::_,_,_,_,e,_=>by simp at e
 | N+1,c::t,b,j,x,e,p=>by
  by_cases f:c=34
  .rw[cM,pz f]at p;injection p with p;subst p;simp
  .rw[lD f]at p;cases d:eX (c::t)with
   | cut=>rw[d]at p;cases p
   | bad no a=>rw[d]at p;cases p
   | ok y=>
    rw[d]at p;simp only at p;obtain⟨m,k,o⟩:=pO d;simp at e k;obtain⟨g,n,i⟩:=sU N (by simp;omega) p;simp at g i⊢;omega
def aHF{a:ag}{o:Obj}(b:ac (w.alloc o).drew.heap.size (w.alloc o).drew a):a.heap[w.heap.size]?=X o/\ac w w a:=
 have b:=fA b
 ⟨keep (aL w o) b,((dk w w).alloc (hU _) o).trans (b.mono (by simp))⟩
def aDi{args:Array h}(c:∀W,ao ak 88 args W λe w'=>e=aw V/\ac W.heap.size W w')(w1:ag):M ((ao ak 88 args w1.drew λe w'=>e=aw V/\ac w1 w1 w')/\
 (ao ak 88 args (w1.alloc (Y #["",O I 0,O I 0,O I 0,aj F] 200)).drew λe w'=>e=aw V/\w'.heap[w1.heap.size]?=X (Y #["",O I 0,O I 0,O I 0,aj F] 200 (0,0))/\ac w1 w1 w')):=
 A ⟨(c _).mono λe w' ⟨b,a⟩=>⟨b,sT a⟩,(c _).mono λe w' ⟨b,a⟩=>⟨b,aHF a⟩⟩
def oN:∀(N:Nat){l b:Oo}{j no a:Nat},l.length<=N->cM b j l=.bad no a->no≠0
 | _,[],_,_,_,_,_,k=>by rw[cM]at k;cases k
 | 0,_::_,_,_,_,_,e,_=>by simp at e
 | N+1,c::t,b,j,no,a,e,k=>by
  by_cases f:c=34
  .rw[cM,pz f]at k;cases k
  .rw[lD f]at k;cases d:eX (c::t)with
   | cut=>rw[d]at k;cases k
   | bad g a2=>
    rw[d]at k;injection k with i h2;rw[<-i];exact aAY d
   | ok y=>
    rw[d]at k;simp at e;exact oN N (by simp;omega) k
def aJY:Pc (List UInt8×Nat)->Prop
 | .bad no _=>no≠0
 | _=>True
def jS(r:Rr)(p:Pc (List UInt8×Nat)):Ra:=match p with
 | .cut=>.cut
 | .bad no a=>Q no a
 | .ok (s,n)=>
  if r.D9=Z/\s∈r.D8 then Q 101 0
  else if 2097152<r.bytes+s.length then Q 3 0
  else if r.D9 then ah n (az {r with bytes:=r.bytes+s.length} s)else ah n (Rr.C5 {r with bytes:=r.bytes+s.length} (.text s))
def sV{s:Oo}(b:¬(r.D9=Z/\s∈r.D8))(a:2097152<r.bytes+s.length):jS r (af (s,n))=Q 3 0:=by
 show(if r.D9=Z/\s∈r.D8 then Q 101 0 else if 2097152<r.bytes+s.length then Q 3 0 else _)=_;rw[py b,pz a]
def aAg{s:Oo}(b:r.D9=Z)(a:s∈r.D8):jS r (af (s,n))=Q 101 0:=by
 show(if r.D9=Z/\s∈r.D8 then Q 101 0 else _)=_;rw[pz ⟨b,a⟩]
def aDj{s:Oo}(a:r.D9=F)(b:¬2097152<r.bytes+s.length):jS r (af (s,n))=ah n (Rr.C5 {r with bytes:=r.bytes+s.length} (.text s)):=by
 show(if r.D9=Z/\s∈r.D8 then Q 101 0 else if 2097152<r.bytes+s.length then Q 3 0 else if r.D9 then ah n _ else ah n _)=_;rw[py (by rw[a];simp),py b,a,py (by simp)]
def aDk{s:Oo}(b:r.D9=Z)(c:s∉r.D8)(a:¬2097152<r.bytes+s.length):jS r (af (s,n))=ah n (az {r with bytes:=r.bytes+s.length} s):=by
 show(if r.D9=Z/\s∈r.D8 then Q 101 0 else if 2097152<r.bytes+s.length then Q 3 0 else if r.D9 then ah n _ else ah n _)=_;rw[py (λd=>c d.2),py a,pz b]
def aU.N3(x:aU w c s d i r b)(f:Nat)(z:Int)(n:z=f):aU (w.setCell ⟨c,6,U⟩ (O I z)) c s d i {r with bytes:=f} b:=by
 subst n;obtain⟨P,e,l,q,p,v,a1,u,t,a2,m,j,g,a⟩:=x;have a:=a.N2 g ((H (λk=>k=c) w).own 6 (O I f));exact⟨P,e,l,q,p,v,a1,u,t,a2,m,j,aB (o:=6) g _,a.le,a.a,a.b,a.e,a.done⟩
def vG(i:Nat)(R:Pc (Oo×Nat)):∃(S:ByteArray)(T b c:Int)(C:Bool),aDe i R=.tuple #[S,T,.agg #["",O I 0,b,c,C]]/\match R with
 | .cut=>C=Z
 | .bad no a=>C=F/\b=(no:Int)/\c=((i+a:Nat):Int)
 | .ok x=>C=F/\b=0/\S=⟨x.1.toArray⟩/\T=((i+x.2:Nat):Int):=by
 cases R with
 | cut=>exact⟨_,_,_,_,_,rfl,rfl⟩
 | bad no a=>exact⟨_,_,_,_,_,rfl,rfl,rfl,rfl⟩
 | ok x=>exact⟨_,_,_,_,_,rfl,rfl,rfl,rfl,rfl⟩
def aHG(w:ag)(f:Nat)(s:ByteArray)(d i j:Nat)(r:Rr)(V:aU w f s d i r j)(p:Bnd r d)(m:r.D9=F)(hi:i<s.size)(hs:s.size<=16777216):
 ao ak 106 #[.pointer f] w λe w'=>qC w f s d i (r.E7 d (s.data.toList.drop (i+1))) e w':=by
 have G:=A (sH w f s d i j r V (by omega) p.h p.e p.g);have o:f<w.heap.size:=by obtain⟨P,h1,so,fl,bi,tx,a1,n1,m1,a2,n2,m2,hb,-⟩:=V;exact bh hb
 have i1:w.cell? ⟨f,3,U⟩=X (O I r.b):=by obtain⟨P,h1,so,fl,bi,tx,a1,n1,m1,a2,n2,m2,hb,-⟩:=V;exact aA hb
 have c:r.E7 d (s.data.toList.drop (i+1))=match r.D4 d with
  | .error no=>Q no 0
  | .ok r=>r.J8 (s.data.toList.drop (i+1)):=by
  unfold bx Rr.E6;rw[m];cases r.D4 d<;>rfl
 rw[c];have v:=A o;have z:=A (λW=>uG W s i hi (by omega));have h2:=A (λx(hx:cM [] 1 (s.data.toList.drop (i+1))=af x)=>sU _ (hU _) hx);have k2:((r.b:Int)==2)=F:=by unfold bj at m;simp at m⊢;omega
 have k3:((r.b:Int)==3)=F:=by unfold bj at m;simp at m⊢;omega
 clear c;cases g:r.D4 d with
 | error no=>
  rw[g]at G;clear V g o m p;go_enter bk,bm;go_wp2_with fail;refine G.o.mono ?_;rintro e w1 ⟨m,rfl,c⟩;have q:=A (And.intro m c);clear m c;go_wp2;go_ret;exact⟨q.o.1.A6 (iF v.o) λk e=>by omega,rfl,q.o.2⟩
 | ok u=>
  have K:=aBC p g
  have N:u.D9=F:=by
   unfold Rr.D4 at g;split at g
   .cases g
   .split at g
    .cases g
    .split at g
     .cases g
     .injection g with g;subst g;exact m
  rw[g]at G;simp only;rw[show u.J8 (s.data.toList.drop (i+1))=jS u (cM [] 1 (s.data.toList.drop (i+1)))from rfl];obtain⟨R,t⟩:∃R,cM [] 1 (s.data.toList.drop (i+1))=R:=⟨_,rfl⟩;rw[t]at z h2⊢;have l:=A (And.intro K N);clear V g o p K N m;go_enter bk,bm;go_wp2_with fail;refine G.o.mono ?_;rintro e w1 ⟨m,rfl,g⟩;have HK:=A (m.A6 (iF v.o) λk e=>by omega);have h5:=A g;obtain⟨c0,c2,-⟩:=g.cells;clear m g G;have G:=A (a7 v.o HK.o.size);go_wp2_with fail
  have h6:=A (show aJY R from by
   cases g:R with
   | cut=>trivial
   | bad no a=>exact oN _ (hU _) (t.trans g)
   | ok x=>trivial)
  clear t;obtain⟨S,T,No,a0,C,g,t⟩:=vG i R;rw[g]at z;have HR:=A t;clear g t;have K:=aDi (z.o) w1;have h3:¬w1.heap.size=f:=by have:=G.o;omega
  go_region_held3 (λw'=>w'.cell? f=X (D s)/\w'.cell? ⟨f,2,U⟩=X (O I i)) (first|with_reducible exact N|go_keep) (first
   | (go_at_call 88;(with_reducible refine K.o.1.mono ?_);rintro e w4 ⟨rfl,g⟩;have N:=And.intro (bE g c0) (bE g c2))
   | (go_at_call 88;(with_reducible refine K.o.2.mono ?_);rintro e w4 ⟨rfl,V,g⟩;have N:=And.intro (bE g c0) (bE g c2);obtain⟨g0,g1,g2,g3,g4,gf⟩:=cells5 V))
  all_goals
   first
    | (have m := aL w4 (Y #["", O I 0,No,a0,C] 200)
       have o:=g.alloc g.size (Y #["",O I 0,No,a0,C] 200);have t:=g.size;obtain⟨W,hW⟩:∃W,w4.alloc (Y #["",O I 0,No,a0,C] 200)=W:=⟨_,rfl⟩;rw[hW]at m o⊢;obtain⟨B,p⟩:∃B,w4.heap.size=B:=⟨_,rfl⟩;rw[p]at m t⊢)
    | (obtain ⟨m, o⟩ := aS (D ⟨#[]⟩) (O I 0) (O I No) (O I a0) (aj C) V g (hU _)
       have t:=hU w1.heap.size;obtain⟨W,hW⟩:∃W,((((w4.setCell w1 (D ⟨#[]⟩)).setCell ⟨w1.heap.size,1,U⟩ (O I 0)).setCell ⟨w1.heap.size,2,U⟩ (O I No)).setCell ⟨w1.heap.size,3,U⟩ (O I a0)).setCell ⟨w1.heap.size,4,U⟩ (aj C)=W:=⟨_,rfl⟩;rw[hW]at m o⊢;obtain⟨B,p⟩:∃B,w1.heap.size=B:=⟨_,rfl⟩;have g:=t;rw[p]at m⊢;rw[p]at g;replace t:w1.heap.size<=B:=by rw[p];exact hU _
       clear g0 g1 g2 g3 g4 gf g V)
   obtain⟨-,-,x2,x3,x4,-⟩:=cells5 m;have g:=A (show ac f w W/\aU W f s d i u j/\f<W.heap.size from⟨HK.o.trans (o.mono (iF G.o)),h5.o.C8 (bz _ o),a7 G.o o.size⟩);clear m o t c0 c2 N h3 K;cases R with
   | cut=>
    obtain rfl:=HR.o;go_wp2;go_ret;exact⟨g.o.1,rfl,u,j,g.o.2.1⟩
   | bad no a=>
    obtain⟨rfl,rfl,rfl⟩:=HR.o;have c:no≠0:=h6.o;have m:(((no:Nat):Int)!=0)=Z:=(by simp;omega);clear c;go_wp2_with fail;refine(eP W f s d i j u g.o.2.1 (by omega) no ((i+a:Nat):Int) ((i+a:Nat):Int)).mono ?_;rintro e w5 ⟨rfl,o,c⟩;have q:=A (And.intro o c);clear o c;go_wp2;go_ret;exact⟨g.o.1.trans (q.o.1.A6 (iF g.o.2.2) λk e=>by omega),rfl,q.o.2⟩
   | ok x=>
    obtain⟨V,n⟩:=x;obtain⟨rfl,rfl,N,hT⟩:=HR.o;obtain⟨o1,o2,o3⟩:=h2.o _ rfl;simp only[ea,jt,co,ib,jw]at o1 o2 o3 hT;obtain⟨y,hy⟩:∃y,i+n=y:=⟨_,rfl⟩;obtain⟨m,t⟩:∃m,u.bytes+V.length=m:=⟨_,rfl⟩;have h7:=l.o.1.bytes;have h8:S.size=V.length:=(by rw[N];show V.toArray.size=V.length;simp);rw[hy]at hT;subst hT;have i2:I.wrap ((u.bytes:Int)+(S.size:Int))=(m:Int):=(by rw[b9];omega);have i3:I.wrap ((y:Int)-1)=(y:Int)-1:=(by rw[b9];omega);have h9:=g.o.2.1;obtain⟨P,h1,so,fl,bi,tx,a1,n1,m1,a2,n2,m2,hb,h3⟩:=h9;obtain⟨pa,pc,rfl⟩:=h3.a.A8;obtain⟨⟨-,-,q2,-,q4,-,q6,-⟩,_,qf⟩:=dF hb;have i0:=A (λ(a b:Int)=>g.o.1.trans ((((H (λk=>k=f) W).own 6 (O I a)).own 2 (O I b)).A6 (iF g.o.2.2) λk e=>by omega));have h4:=A (λ(a:Int)=>g.o.1.trans (((H (λk=>k=f) W).own 6 (O I a)).A6 (iF g.o.2.2) λk e=>by omega));have K:=A (And.intro N (And.intro hy t));clear hb h3 N hy h7 h8 o1 t;by_cases N:2097152<m
    .have e8:(2097152:Int)<(m:Int):=(by omega);go_wp2_with fail;refine(eP (W.setCell ⟨f,6,U⟩ (O I m)) f s d i j _ (g.o.2.1.N3 m _ rfl) (by omega) 3 i ((y:Int)-1)).mono ?_;rintro e w5 ⟨rfl,o,c⟩;have q:=A (And.intro o c);clear o c;go_wp2;go_ret;rw[sV (by rw[l.o.2];simp) (by have:=K.o.2.2;omega)];exact⟨(h4.o m).trans (q.o.1.A6 (by simp[ct];exact iF g.o.2.2) λk e=>by omega),rfl,by simpa using q.o.2⟩
    .have e8:¬(2097152:Int)<(m:Int):=(by omega);have HP:=A (oG ((W.setCell ⟨f,6,U⟩ (O I m)).setCell ⟨f,2,U⟩ (O I y)) f s d y j _ ((g.o.2.1.N3 m _ rfl).B5 y _ rfl) ⟨l.o.1.h,l.o.1.e,l.o.1.g,by show m<=2097152;omega,l.o.1.c⟩ 4 F 0 S U 0 0 U 0 0 (.text V) (by rw[K.o.1];exact .text V));go_wp2_with fail;refine HP.o.mono ?_;rintro e w6 ⟨rfl,o,c⟩;have q:=A (And.intro o c);clear o c;go_wp2;go_ret;obtain⟨_,hy,t⟩:=K.o;rw[aDj l.o.2 (by omega),t];exact⟨(i0.o m y).trans q.o.1,rfl,by rw[hy];exact q.o.2⟩
def aLJ{W:ag}{y G N u x p g off cap nb:Nat}{j:List RFr}{so:Int}{fl o:Bool}{bi:Nat}{tx:ByteArray}{a1 a2:Option Addr}{n1 m1 n2 m2:Nat}{K:h}{pc P:List (List h)}{dc:List h}{C:Oo}
 (hb:w.heap[n]?=X (Y (rdC s d i r.b (J (p,b) (x+1) c) r.g r.bytes so fl bi tx (J a1 n1 m1) (J a2 n2 m2) 0 0 0) 172 (0,0)))(q:oF w n (J (p,b) (x+1) c) (pc++ [frC o K u V]) dc r G)
 (hx:j.length=x)(v:eR w n pc j N)(a:jZ N G w o K u V P f)
 (R:Keeps (λk=>K.ownBlock=X k\/k=p\/k=u\/k=n) w W)(g7:W.heap[n]?=X (Y (rdC s d y 4 (J (p,b) (x+1) c) r.g nb so fl bi tx (J a1 n1 m1) (J a2 n2 m2) 0 0 0) 172 (0,0)))
 (S:Win 9 encS W (J (g,off) (f.a.length+1) cap) (f.a++ [C]))(hg:K.ownBlock=X g\/w.heap.size<=g)(g5:dY W u (C::f.a.reverse))
 (g8:aQ 4 265 W (J (p,b) (x+1) c) (x+1) (pc++ [frC o (J (g,off) (f.a.length+1) cap) u V]).flatten):
 ac n w W/\aU W n s d y {r with bytes:=nb,e:=j++ [{f with a:=f.a++ [C]}],b:=4} W.heap.size:=by
 have g9:=bh hb;have l:fC w p:=by obtain⟨cc,hc⟩:=q.a.D5 (k:=p) rfl;exact .of hc (by decide) (by decide)
 have z:fC w n:=.of hb (by decide) (by decide);have h3:n<=p:=q.b p rfl;have h4:=v.le;have h5:=q.le;have h0:=a.h;have h6:=R.size;have g6:g<W.heap.size:=S.lt rfl;refine⟨R.A6 (iF g9) ?_,_,pc++ [frC o (J (g,off) (f.a.length+1) cap) u V],so,fl,bi,tx,a1,n1,m1,a2,n2,m2,g7,?_⟩
 .rintro k (e|e|e|e)
  .have:=a.i k e;omega
  .omega
  .omega
  .omega
 .refine⟨hU _,?_,q.b,?_,λe=>by simp at e⟩
  .have m:(j++ [{f with a:=f.a++ [C]}]).length=x+1:=(by simp[hx]);show aQ 4 265 _ _ (j++ [{f with a:=f.a++ [C]}]).length _;rw[m];exact g8
  .refine .snoc (v.A0 R ?_) o _ u _ P _ ⟨a.e,S,?_,?_,⟨h0.1,by omega⟩,?_,λk e=>⟨(a.g k e).1,by have:=(a.g k e).2;omega⟩,?_⟩
   .rintro k-m (e|e|e|e)
    .have:=a.i k e;omega
    .exact e▸l
    .omega
    .exact e▸z
   .intro k e;obtain rfl:g=k:=(by simpa[bu]using e);refine⟨?_,g6⟩;rcases hg with e|e
    .exact(a.i _ e).1
    .omega
   .show dY W u (f.a++ [C]).reverse;rw[List.reverse_append];exact g5
   .refine a.c.A0 R ?_;rintro k e (B|B|B|B)
    .obtain⟨cc,hc⟩:=a.a.D5 B;obtain⟨c2,m⟩:=a.c.D5 e;rw[hc]at m;cases m
    .obtain⟨c2,T,m,h9,_⟩:=l;obtain⟨c3,t⟩:=a.c.D5 e;rw[<-B,t]at m;cases m;exact h9 rfl
    .rw[B]at e;exact a.d.own a.c e
    .obtain⟨c3,t⟩:=a.c.D5 e;rw[B,hb]at t;cases t
   .refine(a.b.A0 R ?_).mono ?_
    .rintro k m _ (e|e|e|e)
     .exact absurd e m.2.2.2.1
     .exact e▸l
     .exact absurd e m.2.2.2.2
     .exact e▸z
    .intro k m _;refine⟨m.1,by omega,m.2.2.1,λe=>?_,m.2.2.2.2⟩;obtain rfl:g=k:=(by simpa[bu]using e);rcases hg with e|e
     .exact m.2.2.2.1 e
     .omega
def aKL{W R w':ag}{y T g3 m j a l g off cap nb:Nat}{S:ByteArray}{z:List RFr}{so:Int}{fl o:Bool}{bi:Nat}{tx:ByteArray}{a1 a2 q:Option Addr}{n1 m1 n2 m2:Nat}{pc g7:List (List h)}{dc:List h}{sx:Oo}(hS:S=⟨sx.toArray⟩)
 (hb:W.heap[c]?=X (Y (rdC s d i r.b (J (j,a) (b+1) l) r.g r.bytes so fl bi tx (J a1 n1 m1) (J a2 n2 m2) 0 0 0) 172 (0,0)))(g8:oF W c (J (j,a) (b+1) l) (pc++ [frC o (J q f.a.length n) m V]) dc r T)
 (hx:z.length=b)(g4:eR W c pc z g3)(hf:jZ g3 T W o (J q f.a.length n) m V g7 f)(i3:aQ 4 265 W (J (j,a) (b+1) l) (b+1) (pc++ [frC o (J q f.a.length n) m V]).flatten)(g9:pc.flatten.length=b*4)
 (h0:R.heap[c]?=X (Y (rdC s d y r.b (J (j,a) (b+1) l) r.g nb so fl bi tx (J a1 n1 m1) (J a2 n2 m2) 0 0 0) 172 (0,0)))(g5:Keeps (λk=>k=m\/k=c) W R)(B:dY R m (sx::f.a.reverse))(h4:c≠j)(h5:m≠c)(h6:m≠j)
 (h7:(J q f.a.length n).ownBlock≠X c)(h8:(J q f.a.length n).ownBlock≠X j)(h9:(J q f.a.length n).ownBlock≠X m)(C:aQ 4 265 R (J (j,a) (b+1) l) (b+1) (pc++ [frC o (J q f.a.length n) m V]).flatten)
 (h1:aQ 1 9 w' (J (g,off) (f.a.length+1) cap) (f.a.length+1) (f.a.map encS++ [D S]))(h2:(J q f.a.length n).ownBlock=X g\/R.heap.size<=g)(h3:Keeps (λk=>(J q f.a.length n).ownBlock=X k) R w'):
 ac c W ((w'.setCell ⟨j,a+b*4+1,U⟩ (J (g,off) (f.a.length+1) cap)).setCell ⟨c,3,U⟩ (O I 4))/\
 aU ((w'.setCell ⟨j,a+b*4+1,U⟩ (J (g,off) (f.a.length+1) cap)).setCell ⟨c,3,U⟩ (O I 4)) c s d y {r with bytes:=nb,e:=z++ [{f with a:=f.a++ [sx]}],b:=4} ((w'.setCell ⟨j,a+b*4+1,U⟩ (J (g,off) (f.a.length+1) cap)).setCell ⟨c,3,U⟩ (O I 4)).heap.size:=by
 have i0:Keeps (λk=>(J q f.a.length n).ownBlock=X k\/k=j\/k=m\/k=c) W ((w'.setCell ⟨j,a+b*4+1,U⟩ (J (g,off) (f.a.length+1) cap)).setCell ⟨c,3,U⟩ (O I 4)):=
  ((((g5.mono (G:=λk=>(J q f.a.length n).ownBlock=X k\/k=j\/k=m\/k=c) λk e=>ae (ae e)).trans h3 λk e=>ai (ai e)).A3 (p:=⟨j,a+b*4+1,U⟩) (ai (ae (ai rfl))) _).A3 (p:=⟨c,3,U⟩) (ai (ae (ae (ae rfl)))) _)
 have t:=C.A0 h3 (λk e K=>by cases e;exact h8 K);have N:=(H (λk=>k=j) w').own (a+b*4+1) (J (g,off) (f.a.length+1) cap);have u:=N.B4 (h3.B4 h0 h7) h4;have v:=(H (λk=>k=c) (w'.setCell ⟨j,a+b*4+1,U⟩ (J (g,off) (f.a.length+1) cap))).own 3 (O I 4);have w:Win 9 encS w' (J (g,off) (f.a.length+1) cap) (f.a++ [sx]):=aQ.I4 (by rw[List.map_append,List.map_singleton,show encS sx=D S by rw[hS];rfl];exact h1)
 have x:=w.A0 N (λk e K=>by
  obtain⟨cc,P⟩:=w.D5 e;exact t.ne P (by decide) (by rw[K];rfl))
 have g6:=x.A0 v (λk e K=>by
  obtain⟨cc,P⟩:=x.D5 e;rw[K,u]at P;cases P)
 have P:=t.E0 (b*4+1) (J (g,off) (f.a.length+1) cap);rw[dV,List.set_append_right _ _ (by omega),g9,show b*4+1-b*4=1 by omega,<-fo]at P
 have i1:=P.A0 v (λk e K=>by
  subst K;exact P.ne u (by decide) e)
 have i2:=((B.A0 h3 h9).A0 N h6).A0 v h5;exact aLJ hb g8 hx g4 hf i0 (aB (o:=3) u _) g6 (h2.imp id λe=>bo g5.size e) i2 (by rw[dV];exact i1)
def aMd:lB 32 9 1 16:=⟨underlying32,by decide,by
 have e:(ak.info? 9).map (λi=>(i.zero,i.size,i.bytes))=X (X (D ⟨#[]⟩),1,16):=by kernel_rfl
 obtain⟨i,c,a,d,b⟩:=info_parts e;exact⟨i,_,c,a,d,b,rfl⟩⟩
def aKM{a:List RFr}{b:Oo}(d:r.e=a++ [f]):az {r with bytes:=c} b={r with bytes:=c,e:=a++ [{f with a:=f.a++ [b]}],b:=4}:=by
 unfold az;simp[d]
def aIK(w:ag)(c:Nat)(s:ByteArray)(d i i4:Nat)(r:Rr)(j6:List RFr)(f:RFr)(a0:aU w c s d i r i4)(hB:Bnd r d)(l:r.D9=Z)(q:r.e=j6++ [f])(m9:f.a.length<=65537)(hi:i<s.size)(hs:s.size<=16777216):
 ao ak 106 #[.pointer c] w λe w'=>qC w c s d i (r.E7 d (s.data.toList.drop (i+1))) e w':=by
 have h9:c<w.heap.size:=by obtain⟨P,k4,so,fl,bi,tx,a1,n1,m1,a2,n2,m2,hb,-⟩:=a0;exact bh hb
 have l2:w.cell? ⟨c,3,U⟩=X (O I r.b):=by obtain⟨P,k4,so,fl,bi,tx,a1,n1,m1,a2,n2,m2,hb,-⟩:=a0;exact aA hb
 have m:r.E7 d (s.data.toList.drop (i+1))=jS r (cM [] 1 (s.data.toList.drop (i+1))):=by
  unfold bx;rw[l];rfl
 rw[m];have j7:=A (λW=>uG W s i hi (by omega));have k5:=A (λx(hx:cM [] 1 (s.data.toList.drop (i+1))=af x)=>sU _ (hU _) hx);have k6:((r.b:Int)==2)=Z\/(((r.b:Int)==2)=F/\((r.b:Int)==3)=Z):=by unfold bj at l;simp at l⊢;omega
 obtain⟨c0,c2,-⟩:=a0.cells;have HK:=A (dk c w);have l3:=A a0;have j8:=A h9;have i9:=A (And.intro hB l);have j0:=A q;obtain⟨w1,l4⟩:∃w1,w=w1:=⟨_,rfl⟩;obtain⟨r2,l5⟩:∃r2,r=r2:=⟨_,rfl⟩;obtain⟨R,b⟩:∃R,cM [] 1 (s.data.toList.drop (i+1))=R:=⟨_,rfl⟩;rw[b]at j7 k5⊢
 have l6:=A (show aJY R from by
  cases t:R with
  | cut=>trivial
  | bad no a=>exact oN _ (hU _) (b.trans t)
  | ok x=>trivial)
 clear b;obtain⟨S,T,No,a3,C,t,b⟩:=vG i R;rw[t]at j7;have HR:=A b;clear t b;subst l4;subst l5;clear a0 h9 m hB l q;have HX:=aDi (j7.o) w;have v:¬w.heap.size=c:=by have:=j8.o;omega
 rcases k6 with k2|⟨k2,k3⟩
 all_goals
  go_enter bk,bm;go_wp2
  go_region_held3 (λw'=>w'.cell? c=X (D s)/\w'.cell? ⟨c,2,U⟩=X (O I i)) (first|with_reducible exact hS|go_keep) (first
   | (go_at_call 88;(with_reducible refine HX.o.1.mono ?_);rintro e z ⟨rfl,b⟩;have hS:=And.intro (bE b c0) (bE b c2))
   | (go_at_call 88;(with_reducible refine HX.o.2.mono ?_);rintro e z ⟨rfl,t,b⟩;have hS:=And.intro (bE b c0) (bE b c2);obtain⟨g0,g1,g2,g3,g4,gf⟩:=cells5 t))
  all_goals
   first
    | (have l := aL z (Y #["", O I 0,No,a3,C] 200)
       have m:=b.alloc b.size (Y #["",O I 0,No,a3,C] 200);have q:=b.size;obtain⟨W,hW⟩:∃W,z.alloc (Y #["",O I 0,No,a3,C] 200)=W:=⟨_,rfl⟩;rw[hW]at l m⊢;obtain⟨B,hB⟩:∃B,z.heap.size=B:=⟨_,rfl⟩;rw[hB]at l q⊢)
    | (obtain ⟨l, m⟩ := aS (D ⟨#[]⟩) (O I 0) (O I No) (O I a3) (aj C) t b (hU _)
       have q:=hU w.heap.size;obtain⟨W,hW⟩:∃W,((((z.setCell w (D ⟨#[]⟩)).setCell ⟨w.heap.size,1,U⟩ (O I 0)).setCell ⟨w.heap.size,2,U⟩ (O I No)).setCell ⟨w.heap.size,3,U⟩ (O I a3)).setCell ⟨w.heap.size,4,U⟩ (aj C)=W:=⟨_,rfl⟩;rw[hW]at l m⊢;obtain⟨B,hB⟩:∃B,w.heap.size=B:=⟨_,rfl⟩;have b:=q;rw[hB]at l⊢;rw[hB]at b;replace q:w.heap.size<=B:=by rw[hB];exact hU _
       clear g0 g1 g2 g3 g4 gf b t)
   obtain⟨-,-,x2,x3,x4,-⟩:=cells5 l;have HW:=A (show ac c w W/\aU W c s d i r i4/\c<W.heap.size from⟨HK.o.trans (m.mono (iF j8.o)),l3.o.C8 (bz _ m),a7 j8.o m.size⟩);clear l m q c0 c2 hS v HX;cases R with
   | cut=>
    obtain rfl:=HR.o;go_wp2;go_ret;exact⟨HW.o.1,rfl,r,i4,HW.o.2.1⟩
   | bad no a=>
    obtain⟨rfl,rfl,rfl⟩:=HR.o;have t:no≠0:=l6.o;have b:(((no:Nat):Int)!=0)=Z:=(by simp;omega);clear t;go_wp2_with fail;refine(eP W c s d i i4 r HW.o.2.1 (by omega) no ((i+a:Nat):Int) ((i+a:Nat):Int)).mono ?_;rintro e w5 ⟨rfl,z,t⟩;have HF:=A (And.intro z t);clear z t;go_wp2;go_ret;exact⟨HW.o.1.trans (HF.o.1.A6 (iF HW.o.2.2) λk e=>by omega),rfl,HF.o.2⟩
   | ok x=>
    obtain⟨sx,n⟩:=x;obtain⟨rfl,rfl,hS,hT⟩:=HR.o;obtain⟨o1,o2,o3⟩:=k5.o _ rfl;simp only[ea,jt,co,ib,jw]at o1 o2 o3 hT;obtain⟨y,hy⟩:∃y,i+n=y:=⟨_,rfl⟩;obtain⟨nb,i5⟩:∃nb,r.bytes+sx.length=nb:=⟨_,rfl⟩;have k0:=i9.o.1.bytes;have k1:S.size=sx.length:=(by rw[hS];show sx.toArray.size=sx.length;simp);rw[hy]at hT;subst hT;have n0:I.wrap ((r.bytes:Int)+(S.size:Int))=(nb:Int):=(by rw[b9];omega);have n3:I.wrap ((y:Int)-1)=(y:Int)-1:=(by rw[b9];omega);have l7:=HW.o.2.1;obtain⟨P,k4,so,fl,bi,tx,a1,n1,m1,a2,n2,m2,hb,h8⟩:=l7;obtain⟨pc,n4,o,K,mm,V,n5,rfl,l,hf⟩:=h8.e.M3 j0.o;obtain⟨N,hN⟩:∃N,r.e.length=N:=⟨_,rfl⟩;have q:N=j6.length+1:=(by rw[<-hN,j0.o];simp);obtain⟨px,hx⟩:∃x,j6.length=x:=⟨_,rfl⟩;have l8:=i9.o.1.e;rw[hN]at l8;rw[hx]at q;have b:=h8.a;rw[hN,q]at b;obtain⟨pg,m,j4,rfl⟩:=b.some;obtain⟨ka,kc,rfl⟩:=hf.a.A8;rw[<-q]at b hb;obtain⟨i8,j3⟩:=l.O9;have i0:pc.flatten.length=px*4:=by rw[oE j3,i8,hx]
    have v:∀(j:Nat)(u:h),(frC o (J ka f.a.length kc) mm V)[j]?=X u->W.cell? ⟨pg,m+px*4+j,U⟩=X u:=by
     intro j u hj;have:=b.B6 (j:=px*4+j) (u:=u) (by rw[dV,List.getElem?_append_right (by omega),i0,show px*4+j-px*4=j by omega];exact hj);rw[fo];exact this
    have y1:=v 1 _ rfl;have y2:=v 2 _ rfl
    have i2:c≠pg:=by
     intro e;have:=b.ne hb (by decide);simp[bu]at this;exact this e.symm
    have i6:mm≠c:=hf.d.ne hb;have n6:c<=mm:=bo l.le hf.h.1;have l9:=A q;have m0:=A hx
    have j1:mm≠pg:=by
     obtain⟨cc,hc⟩:=b.block;exact hf.d.ne hc
    obtain⟨⟨-,-,q2,-,q4,-,-,-⟩,_,-⟩:=dF hb;have e1:I.wrap ((N:Int)-1)=(px:Int):=(by rw[b9];omega);have e2:(px:Int)<(N:Int):=(by omega);have e0:(0:Int)<=(px:Int):=(by omega);clear hN q hx;have k7:sx.length<=bg:=(by unfold bg;omega);have j2:=hf.d.X0 k7;have q:r.D8=f.a:=(by unfold Rr.D8;rw[j0.o];simp);rw[show encS sx=D S by rw[hS];rfl]at j2;have m8:=A (λ(a:Int)=>HW.o.1.trans (((H (λk=>k=c) W).own 6 (O I a)).A6 (iF HW.o.2.2) λk e=>by omega));have HX:=A (And.intro hS (And.intro hy (And.intro i5 q)));by_cases i1:sx∈f.a
    .rw[pz (cw.2 i1)]at j2;clear hb h8 hS hy k0 k1 o1 i5 l hf b i0 v q i8 j3;go_wp2_with fail;refine(eP W c s d i i4 _ HW.o.2.1 (by omega) 101 i ((y:Int)-1)).mono ?_;rintro e w5 ⟨rfl,z,t⟩;have HF:=A (And.intro z t);clear z t;go_wp2;go_ret;rw[aAg i9.o.2 (by rw[HX.o.2.2.2];exact i1)];exact⟨HW.o.1.trans (HF.o.1.A6 (iF HW.o.2.2) λk e=>by omega),rfl,by simpa using HF.o.2⟩
    .rw[py (λa0=>i1 (cw.1 a0))]at j2;obtain⟨Wm,k8,i7,k9⟩:=hf.d.C5 (k:=sx) (by simp;omega) k7;rw[show encS sx=D S by rw[hS];rfl]at k8;have j5:=mW k9;have j9:=j5.B4 hb (λe=>i6 e.symm);obtain⟨⟨-,-,p2,-,-,-,p6,-⟩,_,pf⟩:=dF j9;have i3:=A (And.intro j5 (And.intro j9 i7));have m3:=A (And.intro hb (And.intro h8 (And.intro l (And.intro hf (And.intro b i0)))));have l0:=A (And.intro i2 (And.intro i6 (And.intro j1 i1)));clear hb h8 hS hy k0 k1 o1 i5 l hf b i0 v q i8 j3 j5 j9 i7 k9;by_cases m4:2097152<nb
     .have e8:(2097152:Int)<(nb:Int):=(by omega);go_wp2_with fail;refine(sG (Wm.setCell ⟨c,6,U⟩ (O I nb)) c 3 i ((y:Int)-1) s d i r.b _ r.g nb so fl bi tx _ _ (aB (o:=6) i3.o.2.1 (O I nb))).mono ?_;rintro e w5 ⟨rfl,z,t⟩;have HF:=A (And.intro z t);clear z t;go_wp2;go_ret;rw[sV (λa0=>l0.o.2.2.2 (by rw[<-HX.o.2.2.2];exact a0.2)) (by have:=HX.o.2.2.1;omega)];refine⟨(HW.o.1.trans (((i3.o.1.mono (G:=λk=>k=mm\/k=c) λ_=>.inl).A3 (p:=⟨c,6,U⟩) (ai (ae rfl)) (O I nb)).A6 (iF HW.o.2.2) λk e=>by omega)).trans (HF.o.1.A6 (bo (iF HW.o.2.2) (bo i3.o.1.size (by simp[ct]))) λk e=>by omega),rfl,?_⟩;exact⟨_,_,i,_,_,_,_,_,_,_,_,_,_,_,_,_,_,_,by omega,HF.o.2⟩
     .have e8:¬(2097152:Int)<(nb:Int):=(by omega);go_wp2_with fail;generalize v:(Wm.setCell ⟨c,6,U⟩ (O I nb)).setCell ⟨c,2,U⟩ (O I y)=t;have j3:t.heap[c]?=X (Y (rdC s d y r.b (J (pg,m) N j4) r.g nb so fl bi tx (J a1 n1 m1) (J a2 n2 m2) 0 0 0) 172 (0,0)):=(by rw[<-v];exact aB (o:=2) (aB (o:=6) i3.o.2.1 _) _);have i7:Keeps (λk=>k=mm\/k=c) W t:=(by rw[<-v];exact((i3.o.1.mono λ_=>.inl).A3 (p:=⟨c,6,U⟩) (ai (ae rfl)) _).A3 (p:=⟨c,2,U⟩) (ai (ae rfl)) _);have i8:dY t mm (sx::f.a.reverse):=(by rw[<-v];exact(i3.o.2.2.A0 ((H (λk=>k=c) Wm).own 6 _) i6).A0 ((H (λk=>k=c) _).own 2 _) i6);clear p2 p6 pf k8 j2 q2 q4 v y2 x2 x3 x4;obtain⟨hb,h8,l,hf,b,i0⟩:=m3.o;have j2:(J ka f.a.length kc).ownBlock≠X c:=hf.a.ne hb (by decide)
      have j9:(J ka f.a.length kc).ownBlock≠X pg:=by
       intro e;obtain⟨cc,hc⟩:=hf.a.D5 e;exact b.ne hc (by decide) rfl
      have k0:(J ka f.a.length kc).ownBlock≠X mm:=hf.d.own hf.a.Q3;have z1:t.cell? ⟨pg,m+px*4+1,U⟩=X (J ka f.a.length kc):=i7.B6 y1 (λa0=>a0.elim (λe=>j1 e.symm) λe=>i2 e.symm);have z:=b.A0 i7 (λk e a0=>by cases e;exact a0.elim (λe2=>j1 e2.symm) λe2=>i2 e2.symm);have j5:=(hf.a.A0 i7 (λk e a0=>a0.elim (λe2=>k0 (e2▸e)) λe2=>j2 (e2▸e))).Q3;obtain⟨⟨_,_,_,-,t4,_,_,_⟩,_,-⟩:=dF j3
      have v:∀(w':ag)(g off cap:Nat),aQ 1 9 w' (J (g,off) (f.a.length+1) cap) (f.a.length+1) (f.a.map encS++ [D S])->((J ka f.a.length kc).ownBlock=X g\/t.heap.size<=g)->Keeps (λk=>(J ka f.a.length kc).ownBlock=X k) t w'->
       qC w c s d i (jS r (af (sx,n))) (aw (aj Z)) ((w'.setCell ⟨pg,m+px*4+1,U⟩ (J (g,off) (f.a.length+1) cap)).setCell ⟨c,3,U⟩ (O I 4)):=by
       intro w' g off cap h1 h2 h3;obtain⟨hS,hy,i5,q⟩:=HX.o;obtain rfl:=l9.o;have v:=aKL hS hb h8 m0.o l hf b i0 j3 i7 i8 i2 i6 j1 j2 j9 k0 z h1 h2 h3;rw[aDk i9.o.2 (by rw[q];exact l0.o.2.2.2) (by omega),i5];refine⟨HW.o.1.trans v.1,rfl,((w'.setCell ⟨pg,m+px*4+1,U⟩ (J (g,off) (f.a.length+1) cap)).setCell ⟨c,3,U⟩ (O I 4)).heap.size,?_⟩;rw[aKM j0.o,hy];exact v.2
      have k8:=A v;have m5:=A (j5.A0 ((H (λ_=>False) t).B0.A5 (Y #[S] 9)) λ_ _=>id)
      have m6:=A (show ∀(j:Nat)(u:h),[D S][j]?=X u->(t.drew.alloc (Y #[S] 9)).cell? ((⟨t.heap.size,0,U⟩:Addr).add j)=X u from λj u hj=>by
       rw[Addr.add_lit,jw];exact(aA (aL t.drew _)).trans (by simpa using hj))
      have k9:=A (And.intro j3 j2);have k1:=A (And.intro z1 j9);have m7:=A z;have l1:=A (show(f.a.length+1)*16<=140737488355328/\f.a.length+1<=bg from⟨by omega,by unfold bg;omega⟩);have n7:¬pg=c:=λe=>i2 e.symm;clear hb h8 l hf b i0 j3 i7 i8 z j5 v j2 j9 k0 i2;have a4:=((H (λ_=>False) t).A5 (Y #[S] 9)).B6 t4 id;have a1:=((H (λ_=>False) t).A5 (Y #[S] 9)).B6 z1 id
      go_region_law (refine bP aMd rfl _ _ rfl rfl m5.o t 1 1 [D S] (by rfl) (by rfl) m6.o (by intro u hu;simp at hu;subst hu;rfl) (by decide) l1.o.1 l1.o.2 ?_;intro g' v z w' b h8 l;have h9:=l.B4 (((H (λ_=>False) t).B0.A5 (Y #[S] 9)).B4 k9.o.1 id) k9.o.2;have i0:w'.cell? ⟨c,4,U⟩=X (J (pg,m) N j4):=aA h9;have i2:w'.cell? ⟨pg,m+px*4+1,U⟩=X (J ka f.a.length kc):=l.B6 (((H (λ_=>False) t).B0.A5 (Y #[S] 9)).B6 k1.o.1 id) k1.o.2;have l2:w'.cell? ⟨c,3,U⟩=X (O I r.b):=aA h9;have i7:=free_at h9;have i8:=((m7.o.A0 ((H (λ_=>False) t).B0.A5 (Y #[S] 9)) λ_ _=>id).A0 l λk e e2=>k1.o.2 (by cases e;exact e2)).K6;clear h9)
      all_goals
       have HF:=A (And.intro b (And.intro h8 l));clear b h8 l;go_wp2;go_ret;exact k8.o w' g' v z HF.o.1 (HF.o.2.1.imp id λa0=>bo (show t.heap.size<=(t.drew.alloc (Y #[S] 9)).heap.size by simp) a0.1) (((H (λk=>(J ka f.a.length kc).ownBlock=X k) t).B0.A5 (Y #[S] 9)).same HF.o.2.2)
