/-
  The program, one part of its walk. Conditions: none.
-/
import Derived.Test.YtakkmiomhackiaaGreatDoorAj11
import Derived.Test.YtakkmiomhackiaaGreatDoorAj13
set_option linter.all false
set_option maxRecDepth 100000
set_option maxHeartbeats 16000000
open Go.Proofs.Tryz
open Bool renaming false->S,true->I
open Except renaming error->V,map->G,ok->Y
open Except.ok renaming injEq->dq
open Go renaming Calls->bk,Value->aw,World->aj
open List renaming foldr_cons->au
open Option renaming none->U,some->W
open Or renaming inl->J,inr->N
namespace Go.Proofs.YtakkmiomhackiaaGreatDoor
open Go.RowKit
open Ending renaming returned->ak
open IntKind renaming i64->ah
open Fr renaming list->Z,object->O
open Keeps renaming A4->bj
open Lx renaming B3->dv,B5->dt,B7->ao,C0->cg,E5->dp,F4->dm,whole->du
open Ps renaming C4->em,C5->bz,C6->bh,C7->di,C9->cz,D3->ae,D6->dh,D7->H,E2->ek,E7->dj,F0->av,F5->eo
open Sz renaming B9->bw
open Tr renaming A9->X
open Value renaming iface->cj,int->ac,nilIface->az,pointer->bm
open World renaming setCell->ar
variable {l:Oo}{D a f no want:Nat}{t:Tok}{c:UInt8}
def oY(F:Nat->Prop)(w:aj)(b:Nat)(toks:List Tok)(t:Lx×List Tok×Nat×Nat)(a:Nat->Nat->aw)(e:Ending)(w':aj):Prop:=
 Keeps F w w'/\(t.2.2.1=0->e=ak az/\cG (Since F w w') w' b t.1 S (toks++t.2.1))/\
 (t.2.2.1≠0->e=ak (cj 151 (.agg #[t.2.2.1,t.2.2.2]))/\∃pl c,dU (Since F w w') w' b pl c (a t.2.2.1 t.2.2.2) (toks++t.2.1))
def lV(x:Lx)(c:UInt8):(aP x c).c.a=x.a:=by
 unfold aP;split
 .rfl
 .simp only[];split
  .rfl
  .split
   .rfl
   .split
    .unfold kX;split<;>rfl
    .split<;>rfl
def aFJ(x:Lx)(c:UInt8):(x.B5 c).c.a=x.a:=by
 unfold dt;split
 .exact lV x c
 .unfold cP;simp only[];split
  .split<;>rfl
  .rfl
 .unfold bX;split
  .rfl
  .split
   .unfold ao;cases bitsOf x.d with
    | none=>rfl
    | some b=>exact lV x.F4 c
   .rfl
 .unfold bY;split
  .rfl
  .split
   .rfl
   .split
    .rfl
    .split<;>rfl
 .unfold dN;split
  .rfl
  .split<;>rfl
 .unfold dH;split
  .rfl
  .split
   .rfl
   .simp only[];split
    .unfold du;split
     .rfl
     .split<;>rfl
    .rfl
 .unfold fD;split<;>rfl
 .unfold dS;split<;>rfl
def cG.R7{F:Nat->Prop}{w:aj}{b:Nat}{x:Lx}{s:Bool}{toks:List Tok}(h:cG F w b x s toks)(n:Nat):cG F (w.setCell b (ac ah n)) b {x with a:=n} s toks:=by
 obtain⟨B,j,i,o,c,g,d,q,u⟩:=h;have a:Keeps (λk=>k=b) w (w.setCell b (ac ah n)):=(bj (λk=>k=b) w).A3 (p:=b) (J rfl) _;refine⟨B,λk l=>a7 (j k l) a.size,i,o,c,g,aB d _,⟨q.1.A0 a (λk e a=>q.1.ne d (by decide) (e.trans (congrArg W a))),q.2⟩,⟨λh=>?_,λh=>?_⟩⟩
 .have r:=u.d h;exact⟨r.1.A0 a (λk e a=>r.1.ne d (by decide) (e.trans (congrArg W a))),r.2⟩
 .obtain⟨m,f,pl,v,t,y,z⟩:=u.text h;refine⟨⟨m.1.A0 a (λk e a=>m.1.ne d (by decide) (e.trans (congrArg W a))),m.2⟩,f,pl,v,t.A0 a (λe=>?_),y,z⟩;subst e;obtain⟨_,D,a1,a2,a3,C,_⟩:=t;rw[C]at d;simp at d
def aLD(k:Nat)(l:k=104\/k=141\/k=139\/k=138\/k=168\/k=188\/k=223\/k=241)(F:Nat->Prop)(w:aj)(b:Nat)(x:Lx)(toks:List Tok)(c:UInt8)(g:qJ x.h=k)(a0:cG F w b x S toks)(Q:x.a<=16777216)
 (d:x.a<16777216->bk prog k #[bm b,ac .u8 c.toNat] w λe w'=>eV F w b x.a toks (x.B5 c) e w'):
 bk prog 115 #[bm b,ac .u8 c.toNat] w λe w'=>oY F w b toks (x.B3 c) (λ_ _=>.nilIface) e w':=by
 have q:=a0;obtain⟨s,h,i1,i4,R,i2,u,-,-⟩:=a0;obtain⟨T,-,-,D,c4,c5,c6,c7,c8,c9,ca,cb,cc,cd,cf⟩:=aN u;rw[g]at D;have HL:=A q;have h9:=A h;have HF:=A s;obtain⟨pl,a⟩:∃pl,x.a=pl:=⟨_,rfl⟩;have m:=A a;rw[a]at T Q d;unfold dv;by_cases i:x.a=16777216
 .rw[pz i];rw[a]at i;subst i;clear q u s h d a D g;go_enter func115,ntmps115;go_wp2;go_ret;exact⟨bj _ _,λe=>absurd e (show ¬(3:Nat)=0 by decide),λ_=>⟨by show ak _=ak (cj 151 (.agg #[ac ah ((3:Nat):Int),x.a]));rw[m.o];rfl,x.a,x.b,by rw[List.append_nil];exact HL.o.H8.mono (λk l=>J l) (aF h9.o (hU _))⟩⟩
 .rw[py i];have v:pl<16777216:=by omega
  have i3:((pl:Int)==16777216)=S:=by simp;omega
  obtain⟨r,z⟩:∃r,x.B5 c=r:=⟨_,rfl⟩;have B:=d v;rw[z]at B⊢;simp only[];obtain⟨t,o⟩:∃t,(if r.b=0 then(({r.c with a:=x.a+1}:Lx),r.a,0,0)else(r.c,r.a,r.b,if r.b=41 then r.c.b else x.a))=t:=⟨_,rfl⟩;rw[o];have i0:=A (λ(f:r.b=0)=>o.symm.trans (pz f));have y:=A (λ(f:r.b≠0)=>o.symm.trans (py f));have HS:=A B;have j:r.c.a=pl:=by rw[<-z,aFJ,a]
  have HX:=A j;clear q u s h d a i B z g j o;rcases l with rfl|rfl|rfl|rfl|rfl|rfl|rfl|rfl
  all_goals
   go_enter func115,ntmps115;go_wp2_with fail;refine(HS.o).mono ?_;rintro e w2 ⟨rfl,i,E,L⟩;by_cases f:r.b=0
   .have a:=E f;obtain⟨o,-,j,z,h,q,g,s,d⟩:=E f;rw[HX.o]at g;obtain⟨d0,-,-,-,-,-,-,-,-,-,-,-,-,-,df⟩:=aN g;have B:=A a;have P:=A i;have u:=A f;rw[f];clear o g s d E L a i f T D c4 c5 c6 c7 c8 c9 ca cb cc cd cf;go_wp2;go_ret;have d:=i0.o u.o;subst d;refine⟨P.o.A3 (p:=b) (J HF.o) _,λ_=>⟨rfl,?_⟩,λe=>?_⟩
    .have:=B.o.R7 (x.a+1);rw[show((pl:Int)+1)=((x.a+1:Nat):Int) by rw[m.o];omega];exact this.mono (λk l=>l.E8 (by simp[ar])) (λk l=>this.lt k (l.E8 (by simp[ar])))
    .exact absurd rfl e
   .obtain⟨n,j⟩:∃n,r.b=n:=⟨_,rfl⟩;have z:=L f;obtain⟨o,B,v2,v3,v4,v6,v7,v8,v9,va,vb,vc,q,g,s⟩:=L f;obtain⟨d0,d1,d2,d3,d4,d5,d6,d7,d8,d9,da,db,dc,dd,df⟩:=aN g;have HD:=A z;have P:=A i;have u:=A f;have h:=A j;rw[j]at f;rw[j];have n0:((n:Int)==0)=S:=by simp;omega
    have C:(((n:Int)==41)=I/\n=41)\/(((n:Int)==41)=S/\n≠41):=by
     by_cases a:n=41
     .exact J ⟨by simp;omega,a⟩
     .exact N ⟨by simp;omega,a⟩
    clear o B g s E L z i f j T D c4 c5 c6 c7 c8 c9 ca cb cc cd cf;rcases C with⟨g,a⟩|⟨g,a⟩
    .have f:=A a;clear a;go_wp2;go_ret;have d:=y.o u.o;rw[pz (h.o.trans f.o),h.o]at d;subst d;exact⟨P.o,λe=>absurd (h.o.trans e) u.o,λ_=>⟨rfl,_,_,HD.o⟩⟩
    .have f:=A a;clear a;go_wp2;go_ret;have d:=y.o u.o;rw[py (λe=>f.o (h.o.symm.trans e)),h.o,m.o]at d;subst d;exact⟨P.o,λe=>absurd (h.o.trans e) u.o,λ_=>⟨rfl,_,_,HD.o⟩⟩
section
def cU(no a:Nat):aw:=cj 151 (.agg #[no,a])
section
variable {F:Nat->Prop} {w:aj} {b:Nat} {x:Lx} {dn:Bool} {toks:List Tok}
def cG.cells(h:cG F w b x dn toks):w.cell? b=W (ac ah x.a)/\w.cell? ⟨b,1,U⟩=W az/\w.cell? ⟨b,2,U⟩=W (.bool dn)/\w.cell? ⟨b,4,U⟩=W (.bool x.e)/\w.cell? ⟨b,5,U⟩=W (ac ah x.b)/\∀o,w.frozen? ⟨b,o,U⟩=S:=by
 obtain⟨-,-,d,f,a,c,e,_⟩:=h;obtain⟨k,c1,c2,-,j,i,-,-,-,-,-,-,-,-,g⟩:=aN e;exact⟨k,c1,c2,j,i,g⟩
def cG.J0(h:cG F w b x dn toks):cG F (w.setCell ⟨b,1,U⟩ az) b x dn toks:=by
 obtain⟨y,j,i,n,c,g,d,o,s⟩:=h;have a:Keeps (λk=>k=b) w (w.setCell ⟨b,1,U⟩ az):=(bj (λk=>k=b) w).A3 (p:=⟨b,1,U⟩) (J rfl) _;refine⟨y,λk l=>a7 (j k l) a.size,i,n,c,g,aB d _,⟨o.1.A0 a (λk e a=>o.1.ne d (by decide) (e.trans (congrArg W a))),o.2⟩,⟨λh=>?_,λh=>?_⟩⟩
 .have q:=s.d h;exact⟨q.1.A0 a (λk e a=>q.1.ne d (by decide) (e.trans (congrArg W a))),q.2⟩
 .obtain⟨m,f,pl,t,r,u,v⟩:=s.text h;refine⟨⟨m.1.A0 a (λk e a=>m.1.ne d (by decide) (e.trans (congrArg W a))),m.2⟩,f,pl,t,r.A0 a (λe=>?_),u,v⟩;subst e;obtain⟨_,B,a1,a2,a3,z,_⟩:=r;rw[z]at d;simp at d
def dU.J0{pl l:Nat}{a:aw}(h:dU F w b pl l a toks)(u:aw):dU F (w.setCell ⟨b,1,U⟩ u) b pl l u toks:=by
 obtain⟨s,f,t,m,x,n,r,z,o,v,q,y,c,j,i⟩:=h;have d:Keeps (λk=>k=b) w (w.setCell ⟨b,1,U⟩ u):=(bj (λk=>k=b) w).A3 (p:=⟨b,1,U⟩) (J rfl) _;exact⟨s,λk g=>a7 (f k g) d.size,t,m,x,n,r,z,o,v,q,y,c,aB j _,⟨i.1.A0 d (λk e d=>i.1.ne j (by decide) (e.trans (congrArg W d))),i.2⟩⟩
def dU.cells{pl:Nat}{a:aw}(h:dU F w b pl f a toks):w.cell? ⟨b,1,U⟩=W a/\∀o,w.frozen? ⟨b,o,U⟩=S:=by
 obtain⟨-,-,m,g,p,i,l,r,j,n,k,q,c,d,-⟩:=h;obtain⟨-,c1,-,-,-,-,-,-,-,-,-,-,-,-,e⟩:=aN d;exact⟨c1,e⟩
end
def aDM(F:Nat->Prop)(w:aj)(b g off:Nat)(x:Lx)(toks:List Tok)(c:UInt8)(h:cG F w b x S toks)(z:w.cell? ⟨g,off,U⟩=W (ac .u8 c.toNat))
 (j:bk prog 115 #[bm b,ac .u8 c.toNat] w λe w'=>oY F w b toks (x.B3 c) (λ_ _=>.nilIface) e w'):
 bk prog 82 #[bm b,.slice (g,off) 1 1] w λe w'=>oY F w b toks (x.B3 c) cU e w':=by
 obtain⟨y,c1,c2,v,u,s⟩:=h.cells;have E:=A h.1;have L:=A j;obtain⟨t,D⟩:∃t,x.B3 c=t:=⟨_,rfl⟩;rw[D]at L⊢;clear h j D;go_enter func82,ntmps82;go_wp2;go_loopw [5] (λi wr=>(i=ac ah 0/\wr=w)\/(i=ac ah 1/\M (∃e,oY F w b toks t cU e wr))) (λi _=>1-(intOf i).toNat)
 case atStart=>exact J ⟨rfl,rfl⟩
 case round=>
  rcases hrel with⟨rfl,rfl⟩|⟨rfl,m⟩
  .go_wp2_with fail;refine(L.o).mono ?_;rintro e w2 ⟨a,o,n⟩;by_cases f:t.2.2.1=0
   .obtain⟨rfl,d⟩:=o f;obtain⟨-,B,-,-,-,P⟩:=d.cells;have l:=A d;have r:=A a;have q:=A f;clear o n d a f y c1 c2 v u s z;go_wp2;go_roundw
    case rel=>
     refine N ⟨by go_num,A ⟨ak az,r.o.A3 (p:=⟨b,1,U⟩) (J E.o) _,λ_=>⟨rfl,?_⟩,λe=>absurd q.o e⟩⟩;exact(l.o.J0).mono (λk a=>a.E8 (by simp[ar])) (λk a=>l.o.J0.lt k (a.E8 (by simp[ar])))
    case measure=>simp[intOf]
   .obtain⟨rfl,pl,C,d⟩:=n f;obtain⟨B,P⟩:=d.cells;have l:=A d;have r:=A a;have q:=A f;clear o n d a f y c1 c2 v u s z;go_wp2;go_roundw
    case rel=>
     refine N ⟨by go_num,A ⟨ak (cU t.2.2.1 t.2.2.2),r.o.A3 (p:=⟨b,1,U⟩) (J E.o) _,λe=>absurd e q.o,λ_=>⟨rfl,pl,C,?_⟩⟩⟩;exact(l.o.J0 _).mono (λk a=>a.E8 (by simp[ar])) (λk a=>(l.o.J0 (cU t.2.2.1 t.2.2.2)).2.1 k (a.E8 (by simp[ar])))
    case measure=>simp[intOf]
  .obtain⟨Q,a,o,n⟩:=m.o;clear m;by_cases f:t.2.2.1=0
   .obtain⟨rfl,d⟩:=o f;obtain⟨-,B,-,-,-,-⟩:=d.cells;have l:=A d;have r:=A a;have q:=A f;clear o n d a f y c1 c2 v u s z;go_wp2;go_ret;exact⟨r.o,λ_=>⟨rfl,l.o⟩,λe=>absurd q.o e⟩
   .obtain⟨rfl,pl,C,d⟩:=n f;obtain⟨B,-⟩:=d.cells;have l:=A d;have r:=A a;have q:=A f;clear o n d a f y c1 c2 v u s z;go_wp2;go_ret;exact⟨r.o,λe=>absurd e q.o,λ_=>⟨rfl,pl,C,l.o⟩⟩
end
section
def jJ(l:List Tr):Nat:=l.foldr (λt a=>t.A9.g+a) 0
def jK(l:List Tr):Nat:=l.foldr (λt a=>t.A9.bytes+a) 0
def frB:Fr->Nat
 | .list _=>0
 | .object k=>bD k
def fW(l:List Fr):Nat:=l.foldr (λf a=>frB f+a) 0
def j6(l m:List Tr):jJ (l++m)=jJ l+jJ m:=by
 induction l with
 | nil=>simp[jJ]
 | cons t l a=>unfold jJ at a⊢;rw[li,au,au,a];omega
def j8(l m:List Tr):jK (l++m)=jK l+jK m:=by
 induction l with
 | nil=>simp[jK]
 | cons t l a=>unfold jK at a⊢;rw[li,au,au,a];omega
def dZ(l m:List Fr):fW (l++m)=fW l+fW m:=by
 induction l with
 | nil=>simp[fW]
 | cons t l a=>unfold fW at a⊢;rw[li,au,au,a];omega
def aJT(t:Tr):jJ [t]=t.A9.g:=rfl
def aJU(t:Tr):jK [t]=t.A9.bytes:=rfl
def kT(f:Fr):fW [f]=frB f:=rfl
def xZ:∀(l:List Tr)(a:Sz),((l.map X).foldl (λ(a z:Sz)=>(⟨a.g+z.g,a.bytes+z.bytes,max a.h z.h⟩:Sz)) a).g=a.g+jJ l/\
 ((l.map X).foldl (λ(a z:Sz)=>(⟨a.g+z.g,a.bytes+z.bytes,max a.h z.h⟩:Sz)) a).bytes=a.bytes+jK l/\
 ∀D,a.h<=D->(∀t∈l,t.A9.h<=D)->((l.map X).foldl (λ(a z:Sz)=>(⟨a.g+z.g,a.bytes+z.bytes,max a.h z.h⟩:Sz)) a).h<=D
 | [],a=>⟨by simp[jJ],by simp[jK],λD h _=>h⟩
 | t::l,a=>by
  obtain⟨e,d,f⟩:=xZ l ⟨a.g+t.A9.g,a.bytes+t.A9.bytes,max a.h t.A9.h⟩;rw[List.map_cons,mr];have c:jJ (t::l)=t.A9.g+jJ l:=rfl;have i:jK (t::l)=t.A9.bytes+jK l:=rfl;refine⟨by rw[e,c];show a.g+t.A9.g+jJ l=_;omega,by rw[d,i];show a.bytes+t.A9.bytes+jK l=_;omega,λD j b=>f D ?_ (λu g=>b u (jv _ g))⟩;have:=b t (fi ..);show max a.h t.A9.h<=D;omega
def iM(bytes:Nat)(l:List Tr):(fY bytes (l.map X)).g=1+jJ l/\(fY bytes (l.map X)).bytes=bytes+jK l/\∀D,(∀t∈l,t.A9.h<=D)->(fY bytes (l.map X)).h<=D+1:=by
 obtain⟨b,a,c⟩:=xZ l ⟨1,bytes,0⟩;rw[lA];exact⟨b,a,λD h=>Nat.succ_le_succ (c D (dr _) h)⟩
def aHC(t:Tr):1<=t.A9.g:=by
 cases t with
 | null=>simp[X]
 | flag b=>simp[X]
 | num b=>simp[X]
 | text s=>simp[X]
 | list l=>rw[gU,(iM 0 l).1];omega
 | object k l=>rw[hZ,(iM _ l).1];omega
def oI:∀l:List Tr,l.length<=jJ l
 | []=>hU _
 | t::l=>by
  have h:=oI l;have b:=aHC t;have a:jJ (t::l)=t.A9.g+jJ l:=rfl;rw[cv,a];omega
def x7{t:Tr}:∀{l:List Tr},t∈l->t.A9.g<=jJ l/\t.A9.bytes<=jK l
 | u::l,h=>by
  have a:jJ (u::l)=u.A9.g+jJ l:=rfl;have b:jK (u::l)=u.A9.bytes+jK l:=rfl;rw[a,b];rcases ma.1 h with rfl|h
  .exact⟨by omega,by omega⟩
  .have:=x7 h;exact⟨by omega,by omega⟩
def aAV{f:Fr}:∀{l:List Fr},f∈l->frB f<=fW l
 | u::l,h=>by
  have a:fW (u::l)=frB u+fW l:=rfl;rw[a];rcases ma.1 h with rfl|h
  .omega
  .have:=aAV h;omega
def oJ{s:Oo}:∀{l:List Oo}{a:Nat},s∈l->s.length+a<=l.foldl (λa k=>a+k.length) a
 | u::l,a,h=>by
  rw[mr];rcases ma.1 h with rfl|h
  .have b:∀(l:List Oo)(a:Nat),a<=l.foldl (λa k=>a+k.length) a:=by
    intro l
    induction l with
    | nil=>intro a;exact hU _
    | cons x l c=>intro a;exact bo (Nat.le_add_right a x.length) (c (a+x.length))
   have:=b l (a+s.length);omega
  .have:=oJ (a:=a+u.length) h;omega
inductive sP(D:Nat):List Fr->List Tr->Prop
 | nil:sP D [] []
 | list {ini:List Fr} {its:List Tr} (s:List Tr) (h:sP D ini its) (hd:∀t∈s,t.A9.h+ini.length+1<=D):sP D (ini++ [Z s.length]) (its++s)
 | object {ini:List Fr} {its:List Tr} (k:List (List UInt8)) (s:List Tr) (h:sP D ini its) (hd:∀t∈s,t.A9.h+ini.length+1<=D) (hk:k.length=s.length+1):sP D (ini++ [O k]) (its++s)
inductive fB(D:Nat):Nat->List Fr->List Tr->Prop
 | new:fB D 0 [] []
 | done (t:Tr) (hd:t.A9.h<=D):fB D 6 [] [t]
 | list {ini:List Fr} {its:List Tr} (s:List Tr) (want:Nat) (h:sP D ini its) (hd:∀t∈s,t.A9.h+ini.length+1<=D) (hw:want=0\/want=1\/want=5):fB D want (ini++ [Z s.length]) (its++s)
 | object {ini:List Fr} {its:List Tr} (k:List (List UInt8)) (s:List Tr) (want:Nat) (h:sP D ini its) (hd:∀t∈s,t.A9.h+ini.length+1<=D)
  (hk:((want=2\/want=3\/want=5)/\k.length=s.length)\/((want=4\/want=0)/\k.length=s.length+1)):fB D want (ini++ [O k]) (its++s)
def fB.V8{b:List Fr}{a:List Tr}(h:fB D want b a)(d:want=0\/want=1):sP D b a:=by
 cases h with
 | new=>exact .nil
 | done t c=>omega
 | list s _ h c _=>exact .list s h c
 | object k s _ h c e=>exact .object k s h c (by omega)
def mC(a:List Fr)(n:Nat):more (a++ [Z n])=a++ [Z (n+1)]:=by unfold more;simp
def j9(a:List Fr)(k:List Oo):more (a++ [O k])=a++ [O k]:=by unfold more;simp
def sP.C5{a:List Fr}{c:List Tr}{t:Tr}(h:sP D a c)(g:t.A9.h+a.length<=D):fB D (if a= []then 6 else 5) (more a) (c++ [t]):=by
 cases h with
 | nil=>exact .done t (by simpa using g)
 | @list e f s h d=>
  rw[py (by simp),mC,kd]
  have:=fB.list (D:=D) (s++ [t]) 5 h (by
   intro u b;rcases mj.1 b with b|b
   .exact d u b
   .simp at b;subst b;simp at g;omega) (N (N rfl))
  simpa using this
 | @object e f k s h d i=>
  rw[py (by simp),j9,kd]
  exact .object k (s++ [t]) 5 h (by
   intro u b;rcases mj.1 b with b|b
   .exact d u b
   .simp at b;subst b;simp at g;omega) (J ⟨N (N rfl),by simp;omega⟩)
def sP.R8{d:List Fr}{a:List Tr}(h:sP D d a):(∀t∈a,t.A9.h<=D)/\(∀m,Z m∈d->m<=a.length):=by
 induction h with
 | nil=>exact⟨λt h=>by simp at h,λm h=>by simp at h⟩
 | list s h f e=>
  refine⟨λt c=>?_,λm b=>?_⟩
  .rcases mj.1 c with c|c
   .exact e.1 t c
   .have:=f t c;omega
  .rcases mj.1 b with b|b
   .have:=e.2 m b;rw[cn];omega
   .simp at b;rw[cn];omega
 | object k s h f g e=>
  refine⟨λt c=>?_,λm b=>?_⟩
  .rcases mj.1 c with c|c
   .exact e.1 t c
   .have:=f t c;omega
  .rcases mj.1 b with b|b
   .have:=e.2 m b;rw[cn];omega
   .simp at b
def fB.R8{b:List Fr}{a:List Tr}(h:fB D want b a):(∀t∈a,t.A9.h<=D)/\(∀m,Z m∈b->m<=a.length):=by
 cases h with
 | new=>exact⟨λt h=>by simp at h,λm h=>by simp at h⟩
 | done t c=>exact⟨λu h=>by simp at h;subst h;exact c,λm h=>by simp at h⟩
 | list s _ h c _=>exact(sP.list s h c).R8
 | object k s _ h c g=>
  have f:=h.R8;refine⟨λt e=>?_,λm d=>?_⟩
  .rcases mj.1 e with e|e
   .exact f.1 t e
   .have:=c t e;omega
  .rcases mj.1 d with d|d
   .have:=f.2 m d;rw[cn];omega
   .simp at d
def fB.O2{a:List Fr}{b:List Tr}(h:fB D want a b):(want=2\/want=3\/want=4->jB a=I)/\(want=5->a≠ [])/\want<=6/\(want=6->a= []/\∃t,b= [t]):=by
 cases h with
 | new=>exact⟨by omega,by omega,by omega,by omega⟩
 | done t c=>exact⟨by omega,by omega,by omega,λ_=>⟨rfl,t,rfl⟩⟩
 | list s _ h c d=>exact⟨by omega,λ_=>by simp,by omega,by omega⟩
 | object k s _ h c e=>exact⟨λ_=>by unfold jB;simp,λ_=>by simp,by omega,by omega⟩
structure cH(x:Ps)(q:Nat):Prop where
 h:x.h<=512
 c:x.e.length+q<=x.h
 g:x.g<=65536
 bytes:x.bytes<=2097152
 f:jJ x.c+x.e.length+q<=x.g
 d:jK x.c+fW x.e<=x.bytes
 b:fB x.h x.b x.e x.c
 a:∀k,O k∈x.e->k.Nodup/\∀s∈k,aV s=I
 e:q=0\/(q=1/\(x.b=0\/x.b=1))
section
variable {x y:Ps} {q:Nat}
def cH.M9(h:cH x q):x.c.length<=65536:=by
 have:=oI x.c;have:=h.f;have:=h.g;omega
def cH.Q6(h:cH x q):∀t∈x.c,t.A9.B9=I:=by
 intro t a;have c:=x7 a;have b:=h.b.R8.1 t a;have:=h.f;have:=h.g;have:=h.d;have:=h.bytes;have:=h.h;unfold bw;simp only[mn,decide_eq_true_eq];omega
def cH.V9(h:cH x q):∀m,Z m∈x.e->m<=65536:=λm a=>bo (h.b.R8.2 m a) h.M9
def cH.R9(h:cH x q){k:List Oo}(b:O k∈x.e):bK k/\k.Nodup/\bD k<=x.bytes:=by
 have c:=h.a k b;have e:bD k<=fW x.e:=aAV b;have:=h.d;have:=h.bytes;refine⟨λs d=>⟨c.2 s d,?_⟩,c.1,by omega⟩;have g:=oJ (a:=0) d;have f:s.length<=bD k:=by unfold bD;omega
 omega
def aC8(l:List Fr):(more l).length=l.length:=by
 rcases lp l with rfl|⟨i,a,rfl⟩
 .rfl
 .cases a with
  | list n=>rw[ls,mC];simp
  | object k=>rw[ls,j9]
def aE4(l:List Fr):fW (more l)=fW l:=by
 rcases lp l with rfl|⟨i,a,rfl⟩
 .rfl
 .cases a with
  | list n=>rw[ls,mC,dZ,dZ];rfl
  | object k=>rw[ls,j9]
def wA{l:List Fr}{k:List Oo}(h:O k∈more l):O k∈l:=by
 rcases lp l with rfl|⟨i,a,rfl⟩
 .exact h
 .rw[ls]at h⊢;cases a with
  | list n=>
   rw[mC]at h;rcases mj.1 h with h|h
   .exact ly _ h
   .simp at h
  | object k=>rwa[j9]at h
def cH.C5(d:x.h<=512)(g:x.g<=65536)(f:x.bytes<=2097152){t:Tr}(i:x.e.length<=x.h)(e:t.A9.h+x.e.length<=x.h)(j:jJ x.c+t.A9.g+x.e.length<=x.g)(h:jK x.c+t.A9.bytes+fW x.e<=x.bytes)(c:sP x.h x.e x.c)
 (b:∀k,O k∈x.e->k.Nodup/\∀s∈k,aV s=I):cH (bz {x with c:=x.c++ [t]}) 0:=by
 refine⟨d,?_,g,f,?_,?_,c.C5 e,λk a=>b k (wA a),J rfl⟩
 .show(more x.e).length+0<=x.h;rw[aC8];omega
 .show jJ (x.c++ [t])+(more x.e).length+0<=x.g;rw[aC8,j6,aJT];omega
 .show jK (x.c++ [t])+fW (more x.e)<=x.bytes;rw[aE4,j8,aJU];omega
def cH.F8(h:cH x 1){t:Tr}{b:Nat}(a:t.A9=⟨1,b,1⟩)(c:jK x.c+b+fW x.e<=x.bytes):bB x.c t=x.c++ [t]/\cH (bz {x with c:=x.c++ [t]}) 0:=by
 have f:=h.f;have d:=h.g;have i:=oI x.c;have e:=h.c;have g:=h.bytes;refine⟨?_,cH.C5 h.h h.g h.bytes (by omega) (by rw[a];show 1+_<=_;omega) (by rw[a];show _+1+_<=_;omega) (by rw[a];exact c) (h.b.V8 (by have:=h.e;omega)) h.a⟩;unfold bB pA;rw[py,pz (by rw[a];unfold bw;simp;omega)]
def cH.C9{b:Nat}(h:cH x 0)(a:x.C9 b=Y y):cH y 1/\(x.b=0\/x.b=1)/\y={x with g:=x.g+1}:=by
 unfold cz at a;split at a
 .cases a
 .rename_i f;split at a
  .cases a
  .rename_i d;split at a
   .cases a
   .rename_i i;cases a;have e:=h.c;have g:=h.g;have c:=h.f;exact⟨⟨h.h,by show x.e.length+1<=x.h;omega,by show x.g+1<=65536;omega,h.bytes,by show jJ x.c+x.e.length+1<=x.g+1;omega,h.d,h.b,h.a,N ⟨rfl,by show x.b=0\/x.b=1;omega⟩⟩,by omega,rfl⟩
def cH.O3(h:cH x 1)(f:Fr)(d:f=Z 0/\y.b=1\/f=O []/\y.b=2)(c:y={x with e:=x.e++ [f],b:=y.b}):cH y 0:=by
 have p:=h.f;have o:=h.c;have j:=h.b.V8 (by have:=h.e;omega);have e:y.h=x.h:=by rw[c]
 have b:y.e=x.e++ [f]:=by rw[c]
 have g:y.c=x.c:=by rw[c]
 have l:y.g=x.g:=by rw[c]
 have i:y.bytes=x.bytes:=by rw[c]
 refine⟨by rw[e];exact h.h,by rw[e,b];simp;omega,by rw[l];exact h.g,by rw[i];exact h.bytes,by rw[b,g,l];simp;omega,?_,?_,?_,J rfl⟩
 .rw[b,g,i,dZ];have:=h.d;rcases d with⟨rfl,_⟩|⟨rfl,_⟩
  .show _+(_+0)<=_;omega
  .show _+(_+0)<=_;omega
 .rw[e,b,g];rcases d with⟨rfl,m⟩|⟨rfl,m⟩
  .have:=fB.list (D:=x.h) [] y.b j (λt h=>by simp at h) (by omega);simpa using this
  .have:=fB.object (D:=x.h) [] [] y.b j (λt h=>by simp at h) (J ⟨by omega,rfl⟩);simpa using this
 .rw[b];intro k a;rcases mj.1 a with a|a
  .exact h.a k a
  .rcases d with⟨rfl,_⟩|⟨rfl,_⟩
   .simp at a
   .simp at a;subst a;exact⟨List.nodup_nil,λs n=>by simp at n⟩
def cH.I9(h:cH x 0){m:UInt8}(q:x.D6 m=I):cH (x.C6 po) 0:=by
 have u:=h.h;have B:=h.c;have P:=h.g;have L:=h.bytes;have n:=h.f;have y:=h.d;have R:=h.b;have p:=h.a;obtain⟨D,d,f,F,Q,want,b,bytes⟩:=x;simp only at u B P L n y R p;cases R with
 | new=>simp[dh]at q
 | done t o=>simp[dh]at q
 | @list a c s _ z o l=>
  have i:(bh po ⟨D,d,f,c++s,a++ [Z s.length],want,b,bytes⟩)=bz ⟨D,d,f,eI (c++s) s.length,a,want,b,bytes⟩:=by
   unfold bh;simp
  obtain⟨w,j,E⟩:=iM 0 s;rw[j6]at n;rw[j8,dZ,kT]at y;simp only[cn,cv,ib]at n B;have v:=E (D-a.length-1) (λt r=>by have:=o t r;omega);rw[<-gU]at w j v
  have g:eI (c++s) s.length=c++ [.list s]:=by
   unfold eI fZ;rw[py (by simp),cn,mg,mv,mu,if_pos];unfold bw;simp only[mn,decide_eq_true_eq];omega
  rw[i,g];have:=cH.C5 (x:=⟨D,d,f,c,a,want,b,bytes⟩) (t:=.list s) u P L (by show a.length<=D;omega) (by show _+a.length<=D;omega) (by show jJ c+_+a.length<=b;omega) (by show jK c+_+fW a<=bytes;rw[j];have:frB (Z s.length)=0:=rfl;omega) z (λk e=>p k (ly _ e));exact this
 | @object a c k s _ z o l=>
  have e:k.length=s.length:=by
   rcases l with l|l
   .exact l.2
   .unfold dh at q;simp at q;omega
  have i:(bh po ⟨D,d,f,c++s,a++ [O k],want,b,bytes⟩)=bz ⟨D,d,f,po (c++s) k,a,want,b,bytes⟩:=by
   unfold bh;simp
  obtain⟨C,T⟩:=p k (by simp);obtain⟨w,j,E⟩:=iM (bD k) s;rw[j6]at n;rw[j8,dZ,kT]at y;simp only[cn,cv,ib]at n B;have v:=E (D-a.length-1) (λt r=>by have:=o t r;omega);rw[<-mV C e.symm]at w j v
  have g:po (c++s) k=c++ [.object (dC k) (besides k s)]:=by
   unfold po fZ;rw[py (by simp;omega),cn,e,mg,mv,mu,if_pos];unfold bw;simp only[mn,decide_eq_true_eq];have:frB (O k)=bD k:=rfl;omega
  rw[i,g];have:=cH.C5 (x:=⟨D,d,f,c,a,want,b,bytes⟩) (t:=.object (dC k) (besides k s)) u P L (by show a.length<=D;omega) (by show _+a.length<=D;omega) (by show jJ c+_+a.length<=b;omega) (by show jK c+_+fW a<=bytes;rw[j];have:frB (O k)=bD k:=rfl;omega) z (λk e=>p k (ly _ e));exact this
end
end
def aJV:Tok->Prop
 | .mark _ _=>True
 | _=>False
def aE5(q want:Nat):Tok->Prop
 | .mark _ _=>q=0
 | .str _ _ _=>q=1\/(q=0/\(want=2\/want=3))
 | _=>q=1
def iW(q want:Nat):List Tok->Prop
 | []=>True
 | t::a=>aE5 q want t/\∀u∈a,aJV u
def iW.U3{l:List Tok}(h:∀u∈l,aJV u):iW 0 want l:=by
 cases l with
 | nil=>trivial
 | cons t l=>
  refine⟨?_,λu e=>h u (jv _ e)⟩;have d:=h t (fi ..);cases t with
  | mark a s=>rfl
  | term a b c=>exact d.elim
  | num a b c=>exact d.elim
  | str a b c=>exact d.elim
def iW.P1{q:Nat}{l:List Tok}(h:iW q want (t::l)):iW 0 a l:=.U3 h.2
def fB.X2{b:List Fr}{a:List Tr}(h:fB D want b a)(d:want=4):fB D 0 b a:=by
 cases h with
 | new=>exact .new
 | done t c=>omega
 | list s _ h c d=>exact .list s 0 h c (J rfl)
 | object k s _ h c e=>exact .object k s 0 h c (N ⟨N rfl,by omega⟩)
def fB.X3{a:List Fr}{b:List Tr}(h:fB D want a b)(f:want=5):fB D (if jB a=I then 3 else 0) a b:=by
 cases h with
 | new=>omega
 | done t d=>omega
 | @list c e s _ h d f=>
  have:jB (c++ [Z s.length])=S:=by unfold jB;simp
  rw[this,py (by decide)];exact .list s 0 h d (J rfl)
 | @object c e k s _ h d g=>
  have:jB (c++ [O k])=I:=by unfold jB;simp
  rw[this,pz rfl];exact .object k s 3 h d (J ⟨N (J rfl),by omega⟩)
def fB.N1{a:List Fr}{c:List Tr}(h:fB D want a c)(f:want=2\/want=3)(d:Oo):
 ∃b k,a=b++ [O k]/\fP a=k/\a.dropLast=b/\fB D 4 (b++ [O (k++ [d])]) c:=by
 cases h with
 | new=>omega
 | done t e=>omega
 | list s _ h e f=>omega
 | @object b g k s _ h e i=>exact⟨b,k,rfl,by unfold fP;simp,by simp,.object (k++ [d]) s 4 h e (N ⟨J rfl,by simp;omega⟩)⟩
section
variable {x y:Ps} {q:Nat}
def sQ(n:Oo):(jE n).A9=⟨1,0,1⟩:=by
 unfold jE;split
 .simp[X]
 .simp[X]
def cH.D7(h:cH x q)(E:qE t)(n:aE5 q x.b t)(d:x.D7 po t=Y y):cH y 0:=by
 cases t with
 | mark a s=>
  obtain rfl:q=0:=n;simp only[H]at d;unfold di at d;split at d
  .cases i:x.C9 a with
   | error e=>rw[i]at d;cases d
   | ok z=>
    rw[i]at d;simp only[G]at d;cases d;exact(h.C9 i).1.O3 (Z 0) (J ⟨rfl,rfl⟩) rfl
  .split at d
   .cases i:x.C9 a with
    | error e=>rw[i]at d;cases d
    | ok z=>
     rw[i]at d;simp only[G]at d;cases d;exact(h.C9 i).1.O3 (O []) (N ⟨rfl,rfl⟩) rfl
   .split at d
    .rename_i j;cases d;exact⟨h.h,h.c,h.g,h.bytes,h.f,h.d,h.b.X2 j.2,h.a,J rfl⟩
    .split at d
     .rename_i j;cases d;exact⟨h.h,h.c,h.g,h.bytes,h.f,h.d,h.b.X3 j.2,h.a,J rfl⟩
     .split at d
      .rename_i j;cases d;exact h.I9 j
      .cases d
 | term a b c=>
  obtain rfl:q=1:=n;simp only[H]at d;cases d;have g:=h.F8 (t:=jE c) (b:=0) (sQ c) (by have:=h.d;omega);unfold Ps.F8;rw[g.1];exact g.2
 | num a b c=>
  obtain rfl:q=1:=n;simp only[H]at d;cases d;have g:=h.F8 (t:=.num (dW c)) (b:=0) (by simp[X]) (by have:=h.d;omega);unfold iR;rw[g.1];exact g.2
 | str a b c=>
  simp only[H]at d;unfold dj at d;rcases n with rfl|⟨rfl,R⟩
  .have o:=h.e;rw[pz]at d;unfold av at d;split at d
   .cases d
   .rename_i D;simp only[G]at d;cases d;have p:cH {x with bytes:=x.bytes+c.length} 1:=⟨h.h,h.c,h.g,by show x.bytes+c.length<=2097152;omega,h.f,by have:=h.d;show jK x.c+fW x.e<=x.bytes+c.length;omega,h.b,h.a,h.e⟩;have g:=p.F8 (t:=.text c) (b:=c.length) (by simp[X]) (by have:=h.d;show _<=x.bytes+c.length;show jK x.c+c.length+fW x.e<=_;omega);have C:gE x.c c=x.c++ [.text c]:=by unfold gE;rw[pz E.1];exact g.1
    rw[C];exact g.2
  .rw[py]at d;split at d
   .cases d
   .rename_i m;obtain⟨l,k,o,w,B,r⟩:=h.b.N1 R c;rw[w]at d m;rw[B]at d;unfold av at d;simp only at d;split at d
    .cases d
    .rename_i D;simp only[G]at d;cases d;have j:=h.f;have L:=h.c;have F:=h.d;rw[o]at j L F;rw[dZ,kT]at F;refine⟨h.h,?_,h.g,by show x.bytes+c.length<=2097152;omega,?_,?_,r,?_,J rfl⟩
     .simpa using L
     .simpa using j
     .show jK x.c+fW (l++ [O (k++ [c])])<=x.bytes+c.length;rw[dZ,kT];have e1:frB (O (k++ [c]))=bD k+c.length:=sF k c;have e2:frB (O k)=bD k:=rfl;omega
     .intro P f;have f:O P∈l++ [O (k++ [c])]:=f;rcases mj.1 f with f|f
      .exact h.a P (by rw[o];exact ly _ f)
      .simp at f;subst f;obtain⟨Q,p⟩:=h.a k (by rw[o];simp);refine⟨?_,λs g=>?_⟩
       .rw[List.nodup_append];exact⟨Q,by simp,λu T v i=>by simp at i;subst i;exact λe=>m (e▸T)⟩
       .rcases mj.1 g with g|g
        .exact p s g
        .simp at g;subst g;exact E.1
def eT(t:Tok)(toks:List Tok):x.D3 po (t::toks)=(x.D7 po t).bind λz=>z.D3 po toks:=by
 unfold ae;rw[ml];cases x.D7 po t<;>rfl
def pM{toks:List Tok}:∀{x y:Ps}{q:Nat},cH x q->(∀t∈toks,qE t)->iW q x.b toks->x.D3 po toks=Y y->cH y (if toks= []then q else 0)/\(toks= []->y=x):=by
 induction toks with
 | nil=>intro x y q b _ _ h;cases h;exact⟨b,λ_=>rfl⟩
 | cons t toks f=>
  intro x y q b d c h;rw[eT]at h;cases a:x.D7 po t with
  | error e=>rw[a]at h;cases h
  | ok z=>
   rw[a]at h;have i:=b.D7 (d t (fi ..)) c.1 a;have g:=f i (λt h=>d t (jv _ h)) c.P1 h;rw[py (by simp)];exact⟨by simpa using g.1,λe=>by simp at e⟩
end
def aC9:Tok->Prop
 | .term _ _ _=>True
 | .num _ _ _=>True
 | _=>False
def sR(x:Lx)(toks:List Tok):Prop:=
 (x.e=S/\∀u∈toks,aJV u)\/
 (x.e=I/\∃t b,toks=t::b/\(∀u∈b,aJV u)/\((dJ x.h=I/\∃a n s,t=.str a n s)\/(dJ x.h=S/\aC9 t)))
def aGN:Tok->Nat
 | .mark a _=>a
 | .term a _ _=>a
 | .num a _ _=>a
 | .str a _ _=>a
def qF(x:Lx)(c:UInt8)(d:x.e=S):(∀u∈(aP x c).a,aJV u/\aGN u<=x.a)/\
 ((aP x c).c.e=I->(aP x c).c.b=x.a/\(c=34->(aP x c).b=0->dJ (aP x c).c.h=I))/\((aP x c).b≠0->(aP x c).b≠41):=by
 unfold aP;split
 .exact⟨λu a=>by simp at a,λh=>by simp[d]at h,λh=>absurd rfl h⟩
 .simp only[];split
  .refine⟨λu a=>?_,λh=>by simp[dm]at h,λh=>absurd rfl h⟩;simp at a;subst a;exact⟨trivial,hU _⟩
  .split
   .exact⟨λu a=>by simp at a,λ_=>⟨rfl,λ_ _=>rfl⟩,λh=>absurd rfl h⟩
   .rename_i b;split
    .unfold kX;split
     .exact⟨λu a=>by simp at a,λ_=>⟨rfl,λh=>absurd h b⟩,λh=>absurd rfl h⟩
     .exact⟨λu a=>by simp at a,λ_=>⟨rfl,λh=>absurd h b⟩,λ_=>(show(94:Nat)≠41 by decide)⟩
    .split
     .exact⟨λu a=>by simp at a,λ_=>⟨rfl,λh=>absurd h b⟩,λh=>absurd rfl h⟩
     .exact⟨λu a=>by simp at a,λ_=>⟨rfl,λh=>absurd h b⟩,λ_=>(show(94:Nat)≠41 by decide)⟩
def uC(x:Lx)(c:UInt8)(r:nH):Prop:=
 ((x.e=I/\r.a= []/\(r.b=0->r.c.e=I/\r.c.b=x.b/\(dJ x.h=I->dJ r.c.h=I)))\/
  (sR x r.a/\(r.b=0->r.c.e=I->r.c.b=x.a/\(c=34->dJ r.c.h=I))))/\(∀t∈r.a,aGN t<=x.a)/\(r.b=41->r.c.b<=x.a)
def uC.G9{x y:Lx}(a:x.e=I)(g:x.b<=x.a)(d:y.e=I)(b:y.b=x.b)(f:dJ x.h=I->dJ y.h=I):uC x c ⟨y,[],no⟩:=
 ⟨J ⟨a,rfl,λ_=>⟨d,b,f⟩⟩,λt e=>by simp at e,λ_=>by show y.b<=_;omega⟩
def aE6{x:Lx}(p:x.Fine)(c:UInt8):uC x c (x.B5 c):=by
 have b:=p.b;have g:=p.e;unfold dt;cases d:x.h with
 | outside=>
  have a:x.e=S:=by rw[g,d];rfl
  obtain⟨m,l,n⟩:=qF x c a;exact⟨N ⟨J ⟨a,λu i=>(m u i).1⟩,λf hi=>⟨(l hi).1,λo=>(l hi).2 o f⟩⟩,λt e=>(m t e).2,λf=>absurd f (n (by rw[f];decide))⟩
 | letter=>
  have a:x.e=I:=by rw[g,d];rfl
  have j:dJ x.h=S:=by rw[d];rfl
  have k:¬dJ x.h=I:=by rw[j];decide
  simp only[cP];split
  .split
   .refine⟨N ⟨N ⟨a,_,[],rfl,λu i=>by simp at i,N ⟨j,trivial⟩⟩,λ_ h=>by simp[dm]at h⟩,λt e=>?_,λh=>by simp at h⟩;simp at e;subst e;exact b
   .exact .G9 a b a rfl (λh=>absurd h k)
  .exact .G9 a b a rfl (λh=>absurd h k)
 | numeral=>
  have a:x.e=I:=by rw[g,d];rfl
  have j:dJ x.h=S:=by rw[d];rfl
  have k:¬dJ x.h=I:=by rw[j];decide
  simp only[bX];cases q:aR x.number c with
  | some s=>exact .G9 a b a rfl (λh=>absurd h k)
  | none=>
   simp only[];split
   .unfold ao;cases r:bitsOf x.d with
    | none=>exact .G9 a b a rfl (λh=>absurd h k)
    | some v=>
     simp only[Option.map_some];obtain⟨m,l,n⟩:=qF x.F4 c rfl;refine⟨N ⟨N ⟨a,_,_,rfl,λu i=>(m u i).1,N ⟨j,trivial⟩⟩,λf hi=>⟨(l hi).1,λo=>(l hi).2 o f⟩⟩,λt e=>?_,λf=>absurd f (n (by rw[f];decide))⟩;rcases ma.1 e with rfl|e
     .exact b
     .exact(m t e).2
   .exact .G9 a b a rfl (λh=>absurd h k)
 | within=>
  have a:x.e=I:=by rw[g,d];rfl
  have j:dJ x.h=I:=by rw[d];rfl
  simp only[bY];split
  .refine⟨N ⟨N ⟨a,_,[],rfl,λu i=>by simp at i,J ⟨j,_,_,_,rfl⟩⟩,λ_ h=>by simp[dm]at h⟩,λt e=>?_,λh=>by simp at h⟩;simp at e;subst e;exact b
  .split
   .exact .G9 a b a rfl (λ_=>rfl)
   .split
    .exact .G9 a b a rfl id
    .split
     .exact .G9 a b a rfl id
     .exact .G9 a b a rfl id
 | escape=>
  have a:x.e=I:=by rw[g,d];rfl
  simp only[dN];split
  .exact .G9 a b a rfl (λ_=>rfl)
  .split
   .exact .G9 a b a rfl id
   .exact .G9 a b a rfl (λ_=>rfl)
 | digit=>
  have a:x.e=I:=by rw[g,d];rfl
  simp only[dH];split
  .exact .G9 a b a rfl id
  .split
   .exact .G9 a b a rfl id
   .split
    .unfold du;split
     .exact .G9 a b a rfl (λ_=>rfl)
     .split
      .exact .G9 a b a rfl (λ_=>rfl)
      .exact .G9 a b a rfl (λ_=>rfl)
    .exact .G9 a b a rfl id
 | slash=>
  have a:x.e=I:=by rw[g,d];rfl
  simp only[fD];split
  .exact .G9 a b a rfl (λ_=>rfl)
  .exact .G9 a b a rfl id
 | letterU=>
  have a:x.e=I:=by rw[g,d];rfl
  simp only[dS];split
  .exact .G9 a b a rfl (λ_=>rfl)
  .exact .G9 a b a rfl id
def aHD(x:Lx)(c:UInt8)(r:Lx×List Tok×Nat×Nat):Prop:=
 ((x.e=I/\r.2.1= []/\(r.2.2.1=0->r.1.e=I/\r.1.b=x.b/\(dJ x.h=I->dJ r.1.h=I)))\/
  (sR x r.2.1/\(r.2.2.1=0->r.1.e=I->r.1.b=x.a/\(c=34->dJ r.1.h=I))))/\(∀t∈r.2.1,aGN t<=x.a)/\(r.2.2.1≠0->r.2.2.2<=x.a)/\(r.2.2.1=0->r.1.a=x.a+1)
def qU{x:Lx}(f:x.Fine)(c:UInt8):aHD x c (x.B3 c):=by
 unfold dv;split
 .refine⟨?_,λt i=>by simp at i,λ_=>hU _,λh=>by simp at h⟩;cases hi:x.e with
  | true=>exact J ⟨rfl,rfl,λh=>by simp at h⟩
  | false=>exact N ⟨J ⟨hi,λu g=>by simp at g⟩,λh=>by simp at h⟩
 .have h:=aE6 f c;simp only[];split
  .rename_i b;refine⟨?_,h.2.1,λh=>absurd rfl h,λ_=>rfl⟩;rcases h.1 with⟨a,d,j⟩|⟨a,d⟩
   .exact J ⟨a,d,λ_=>j b⟩
   .exact N ⟨a,λ_=>d b⟩
  .rename_i b;refine⟨?_,h.2.1,λ_=>?_,λh=>absurd h b⟩
   .rcases h.1 with⟨a,d,-⟩|⟨a,-⟩
    .exact J ⟨a,d,λh=>absurd h b⟩
    .exact N ⟨a,λh=>absurd h b⟩
   .show(if _ then _ else _)<=_;split
    .rename_i e;exact h.2.2 e
    .exact hU _
def bW(x:Ps):Nat:=if x.d.e=I/\(x.b=0\/x.b=1)then 1 else 0
structure fF(x:Ps):Prop where
 ps:cH x (bW x)
 c:x.d.Fine
 b:x.d.e=I->x.d.b<x.d.a/\((x.b=0\/x.b=1)\/((x.b=2\/x.b=3)/\dJ x.d.h=I))
 a:x.a=x.d.a
def cH.R2{x:Ps}{q:Nat}(h:cH x q)(l:Lx):cH {x with d:=l} q:=⟨h.h,h.c,h.g,h.bytes,h.f,h.d,h.b,h.a,h.e⟩
def fF.U4{x:Ps}(h:fF x){toks:List Tok}(j:sR x.d toks):iW (bW x) x.b toks:=by
 rcases j with⟨hi,f⟩|⟨hi,t,i,rfl,f,k⟩
 .have:bW x=0:=by unfold bW;rw[py (by rw[hi];simp)]
  rw[this];exact .U3 f
 .refine⟨?_,f⟩;have d:=(h.b hi).2;rcases k with⟨-,a,n,s,rfl⟩|⟨m,g⟩
  .rcases d with d|⟨d,_⟩
   .exact J (by unfold bW;rw[pz ⟨hi,d⟩])
   .exact N ⟨by unfold bW;rw[py],d⟩
  .have e:x.b=0\/x.b=1:=by
    rcases d with d|⟨_,d⟩
    .exact d
    .rw[m]at d;cases d
   have l:bW x=1:=(by unfold bW;rw[pz ⟨hi,e⟩]);rw[l];cases t with
   | mark a s=>exact g.elim
   | term a b c=>rfl
   | num a b c=>rfl
   | str a b c=>exact g.elim
def aBI{x:Ps}(h:fF x)(c:UInt8):iW (bW x) x.b (x.d.B3 c).2.1:=by
 rcases(qU h.c c).1 with⟨_,a,_⟩|⟨a,_⟩
 .rw[a];trivial
 .exact h.U4 a
def kA{x y:Ps}(h:x.C9 a=Y y):y.d=x.d/\y.a=x.a/\y.b=x.b:=by
 unfold cz at h
 repeat' (split at h)
 all_goals first|(cases h;exact⟨rfl,rfl,rfl⟩)|cases h
def vE{x y:Ps}(h:x.F0 l a=Y y):y.d=x.d/\y.a=x.a:=by
 unfold av at h;split at h
 .cases h
 .cases h;exact⟨rfl,rfl⟩
def aDa{x y:Ps}(h:x.D7 po t=Y y):y.d=x.d/\y.a=x.a:=by
 cases t with
 | mark a s=>
  simp only[H]at h;unfold di at h;split at h
  .cases d:x.C9 a with
   | error e=>rw[d]at h;cases h
   | ok z=>rw[d]at h;simp only[G]at h;cases h;have f:=kA d;exact⟨f.1,f.2.1⟩
  .split at h
   .cases d:x.C9 a with
    | error e=>rw[d]at h;cases h
    | ok z=>rw[d]at h;simp only[G]at h;cases h;have f:=kA d;exact⟨f.1,f.2.1⟩
   .split at h
    .cases h;exact⟨rfl,rfl⟩
    .split at h
     .cases h;exact⟨rfl,rfl⟩
     .split at h
      .cases h;unfold bh;split<;>exact⟨rfl,rfl⟩
      .cases h
 | term a b c=>simp only[H]at h;cases h;exact⟨rfl,rfl⟩
 | num a b c=>simp only[H]at h;cases h;exact⟨rfl,rfl⟩
 | str a b c=>
  simp only[H]at h;unfold dj at h;split at h
  .cases d:x.F0 c a with
   | error e=>rw[d]at h;cases h
   | ok z=>rw[d]at h;simp only[G]at h;cases h;have f:=vE d;exact⟨f.1,f.2⟩
  .split at h
   .cases h
   .cases d:av {x with e:=x.e.dropLast++ [O (fP x.e++ [c])]} c a with
    | error e=>rw[d]at h;cases h
    | ok z=>rw[d]at h;simp only[G]at h;cases h;have f:=vE (x:={x with e:=x.e.dropLast++ [O (fP x.e++ [c])]}) d;exact⟨f.1,f.2⟩
def oK{toks:List Tok}:∀{x y:Ps},x.D3 po toks=Y y->y.d=x.d/\y.a=x.a:=by
 induction toks with
 | nil=>intro x y h;cases h;exact⟨rfl,rfl⟩
 | cons t toks d=>
  intro x y h;rw[eT]at h;cases a:x.D7 po t with
  | error e=>rw[a]at h;cases h
  | ok z=>
   rw[a]at h;have c:=d h;have b:=aDa a;exact⟨c.1.trans b.1,c.2.trans b.2⟩
def sS(c:UInt8)(r:Lx×List Tok×Nat×Nat)(d:Out):Out:=match d with
 | .error e=>V e
 | .ok q=>if r.2.2.1≠0 then V (nO r.2.2.1,r.2.2.2)else match(if r.1.E5=1 then q.E2 c else Y q)with
  | .error e=>V e
  | .ok q=>Y {q with a:=q.a+1}
def fF.B3{x y:Ps}(a:fF x)(h:x.B3 po c=Y y):fF y:=by
 have u:=qU a.c c;have w:=aAU a.c c;have m:x.B3 po c=sS c (x.d.B3 c) (ae po {x with d:=(x.d.B3 c).1} (x.d.B3 c).2.1):=rfl;obtain⟨r,hr⟩:∃r,x.d.B3 c=r:=⟨_,rfl⟩;rw[hr]at m u w;rw[m]at h;cases B:ae po {x with d:=r.1} r.2.1 with
 | error e=>rw[B]at h;cases h
 | ok z=>
  rw[B]at h;simp only[sS]at h;by_cases l:r.2.2.1=0
  .rw[py (λh=>h l)]at h;have d:=u.2.2.2 l;have j:=w.1 l;have D:=oK B;have f:z.d=r.1:=D.1;have s:z.a=x.a:=D.2;rcases u.1 with⟨i,P,R⟩|⟨L,F⟩
   .obtain⟨g1,g2,g3⟩:=R l;obtain⟨hlt,hw⟩:=a.b i;have E:r.1.E5≠1:=(by unfold dp;rw[g1,pz rfl,d,g2];omega);rw[py E]at h;simp only[dq]at h;subst h;rw[P]at B;cases B;have k:bW {x with d:=r.1,a:=x.a+1}=bW x:=by unfold bW;simp only[];rw[g1,i]
    refine⟨?_,j,λ_=>⟨by show r.1.b<r.1.a;rw[g2,d];omega,?_⟩,by show x.a+1=r.1.a;rw[d,a.a]⟩
    .show cH _ (bW {x with d:=r.1,a:=x.a+1});rw[k];have p:=a.ps;exact⟨p.h,p.c,p.g,p.bytes,p.f,p.d,p.b,p.a,p.e⟩
    .exact hw.imp id (λh=>⟨h.1,g3 h.2⟩)
   .have hps:cH {x with d:=r.1} (bW x):=a.ps.R2 r.1;have hdr:=pM hps w.2 (a.U4 L) B
    have g:cH z 0:=by
     have Q:=hdr.1;by_cases he:r.2.1= []
     .rw[pz he]at Q
      have T:bW x=0:=by
       rcases L with⟨hi,_⟩|⟨-,t,rest,e,_⟩
       .unfold bW;rw[py (by rw[hi];simp)]
       .rw[he]at e;cases e
      rwa[T]at Q
     .rwa[py he]at Q
    cases i:r.1.e with
    | false=>
     have E:r.1.E5≠1:=(by unfold dp;rw[i];simp);rw[py E]at h;simp only[dq]at h;subst h;have k:bW {z with a:=z.a+1}=0:=(by unfold bW;simp only[];rw[f,i];simp);refine⟨?_,by show z.d.Fine;rw[f];exact j,λh=>?_,by show z.a+1=z.d.a;rw[f,s,d,a.a]⟩
     .show cH _ (bW {z with a:=z.a+1});rw[k];exact⟨g.h,g.c,g.g,g.bytes,g.f,g.d,g.b,g.a,g.e⟩
     .have h:z.d.e=I:=h;rw[f,i]at h;cases h
    | true=>
     obtain⟨b1,b2⟩:=F l i;have E:r.1.E5=1:=(by unfold dp;rw[i,pz rfl,d,b1];omega);rw[pz E]at h;cases q:z.E2 c with
     | error e=>rw[q]at h;cases h
     | ok v=>
      rw[q]at h;simp only[dq]at h;subst h;unfold ek at q;split at q
      .rename_i hc;cases q;have k:bW {z with a:=z.a+1}=0:=by unfold bW;rw[py (by show ¬(_/\(z.b=0\/z.b=1));omega)]
       refine⟨?_,by show z.d.Fine;rw[f];exact j,λ_=>⟨by show z.d.b<z.d.a;rw[f,b1,d];omega,N ⟨hc.2,by show dJ z.d.h=I;rw[f];exact b2 hc.1⟩⟩,by show z.a+1=z.d.a;rw[f,s,d,a.a]⟩;show cH _ (bW {z with a:=z.a+1});rw[k];exact⟨g.h,g.c,g.g,g.bytes,g.f,g.d,g.b,g.a,g.e⟩
      .obtain⟨b,C,-⟩:=g.C9 q;have n:=kA q;have o:v.d=r.1:=n.1.trans f;have k:bW {v with a:=v.a+1}=1:=(by unfold bW;rw[pz ⟨by show v.d.e=I;rw[o,i],by show v.b=0\/v.b=1;rw[n.2.2];exact C⟩]);refine⟨?_,by show v.d.Fine;rw[o];exact j,λ_=>⟨by show v.d.b<v.d.a;rw[o,b1,d];omega,J (by show v.b=0\/v.b=1;rw[n.2.2];exact C)⟩,by show v.a+1=v.d.a;rw[o,n.2.1,s,d,a.a]⟩;show cH _ (bW {v with a:=v.a+1});rw[k];exact⟨b.h,b.c,b.g,b.bytes,b.f,b.d,b.b,b.a,b.e⟩
  .rw[pz l]at h;cases h
def pN(d:Nat)(a:d<=512):fF (Ps.E9 d):=⟨⟨a,dr _,dr _,dr _,dr _,dr _,.new,λk h=>(by cases h),J rfl⟩,aJS,λh=>(by cases h),rfl⟩
def fF.C4:∀{x y:Ps},fF x->x.C4 po l=Y y->fF y:=by
 induction l with
 | nil=>intro x y b h;cases h;exact b
 | cons c l d=>
  intro x y b h;unfold em at h;rw[ml]at h;cases a:x.B3 po c with
  | error e=>rw[a]at h;cases h
  | ok z=>
   rw[a]at h;exact d (b.B3 a) h
def vF{x:Lx}(c:x.Fine):((x.C0.2.1= [])\/sR x x.C0.2.1)/\(∀t∈x.C0.2.1,aGN t<=x.a)/\x.C0.2.2.2<=x.a/\(x.C0.2.2.1=0->x.C0.1.e=S)/\(bL x.number=I->x.e=I->x.h=.numeral):=by
 have d:bL x.number=I->x.e=I->x.h=.numeral:=by
  intro b hi;cases a:x.h with
  | numeral=>rfl
  | outside=>rw[c.e,a]at hi;cases hi
  | letter=>rw[(c.letter a).1]at b;cases b
  | within=>rw[(c.text (by rw[a];rfl)).1]at b;cases b
  | escape=>rw[(c.text (by rw[a];rfl)).1]at b;cases b
  | digit=>rw[(c.text (by rw[a];rfl)).1]at b;cases b
  | slash=>rw[(c.text (by rw[a];rfl)).1]at b;cases b
  | letterU=>rw[(c.text (by rw[a];rfl)).1]at b;cases b
 refine⟨?_,?_,?_,?_,d⟩
 .unfold cg;split
  .exact J rfl
  .rename_i hi;split
   .exact J rfl
   .rename_i b;unfold ao;cases g:bitsOf x.d with
    | none=>exact J rfl
    | some v=>
     have f:x.e=I:=(by simpa using hi);have a:=d (by simpa using b) f;exact N (N ⟨f,_,[],rfl,λu i=>by simp at i,N ⟨by rw[a];rfl,trivial⟩⟩)
 .unfold cg;split
  .intro t e;simp at e
  .split
   .intro t e;simp at e
   .unfold ao;cases g:bitsOf x.d with
    | none=>intro t e;simp at e
    | some v=>intro t e;simp at e;subst e;exact c.b
 .unfold cg;split
  .exact dr _
  .split
   .exact hU _
   .unfold ao;cases g:bitsOf x.d with
    | none=>exact c.b
    | some v=>exact dr _
 .unfold cg;split
  .rename_i hi;exact λ_=>hi
  .split
   .intro h;simp at h
   .unfold ao;cases g:bitsOf x.d with
    | none=>intro h;simp at h
    | some v=>intro _;rfl
def qV(r:Lx×List Tok×Nat×Nat)(d:Out):Out:=match d with
 | .error e=>V e
 | .ok q=>if r.2.2.1≠0 then V (nO r.2.2.1,r.2.2.2)else if q.b≠6 then V (95,q.a)else Y q
def fF.O4{x:Ps}(h:fF x):iW (bW x) x.b x.d.C0.2.1:=by
 rcases(vF h.c).1 with a|a
 .rw[a];trivial
 .exact h.U4 a
def aE7{x y:Ps}(h:fF x)(a:x.B7 po=Y y):∃t,y.c= [t]:=by
 have b:x.B7 po=qV x.d.C0 (ae po {x with d:=x.d.C0.1} x.d.C0.2.1):=rfl;rw[b]at a;cases c:ae po {x with d:=x.d.C0.1} x.d.C0.2.1 with
 | error e=>rw[c]at a;cases a
 | ok z=>
  rw[c]at a;simp only[qV]at a;split at a
  .cases a
  .split at a
   .cases a
   .rename_i g;cases a;have d:=pM (h.ps.R2 x.d.C0.1) (λt f=>qT t f) h.O4 c;exact(d.1.b.O2.2.2.2 (by omega)).2
def aMN{x:Ps}{b:Nat}(h:x.C9 a=V (no,b)):b=a:=by
 unfold cz at h
 repeat' (split at h)
 all_goals first|(cases h;rfl)|cases h
def aMV{x:Ps}{b:Nat}(h:x.F0 l a=V (no,b)):b=a:=by
 unfold av at h;split at h
 .cases h;rfl
 .cases h
def aNf{x:Ps}(h:x.D7 po t=V (no,f)):f=aGN t:=by
 cases t with
 | mark a s=>
  simp only[H]at h;unfold di at h;split at h
  .cases d:x.C9 a with
   | error e=>obtain⟨g,a2⟩:=e;rw[d]at h;simp only[G]at h;cases h;exact aMN d
   | ok z=>rw[d]at h;cases h
  .split at h
   .cases d:x.C9 a with
    | error e=>obtain⟨g,a2⟩:=e;rw[d]at h;simp only[G]at h;cases h;exact aMN d
    | ok z=>rw[d]at h;cases h
   .split at h
    .cases h
    .split at h
     .cases h
     .split at h
      .cases h
      .cases h;rfl
 | term a b c=>simp only[H]at h;cases h
 | num a b c=>simp only[H]at h;cases h
 | str a b c=>
  simp only[H]at h;unfold dj at h;split at h
  .cases d:x.F0 c a with
   | error e=>obtain⟨g,a2⟩:=e;rw[d]at h;simp only[G]at h;cases h;exact aMV d
   | ok z=>rw[d]at h;cases h
  .split at h
   .cases h;rfl
   .cases d:av {x with e:=x.e.dropLast++ [O (fP x.e++ [c])]} c a with
    | error e=>obtain⟨g,a2⟩:=e;rw[d]at h;simp only[G]at h;cases h;exact aMV d
    | ok z=>rw[d]at h;cases h
def aMW{toks:List Tok}{n:Nat}:∀{x:Ps}{no a:Nat},(∀t∈toks,aGN t<=n)->x.D3 po toks=V (no,a)->a<=n:=by
 induction toks with
 | nil=>intro x no a _ h;cases h
 | cons t toks d=>
  intro x no a c h;rw[eT]at h;cases b:x.D7 po t with
  | error e=>
   obtain⟨f,a2⟩:=e;rw[b]at h;cases h;rw[aNf b];exact c t (fi ..)
  | ok z=>rw[b]at h;exact d (λt h=>c t (jv _ h)) h
def aNb{x:Ps}(h:x.E2 c=V (no,a)):a=x.a:=by
 unfold ek at h;split at h
 .cases h
 .exact aMN h
def fF.U5{x:Ps}(b:fF x)(h:x.B3 po c=V (no,f)):f<=16777216:=by
 have d:=qU b.c c;have k:=b.c.a;have a:x.B3 po c=sS c (x.d.B3 c) (ae po {x with d:=(x.d.B3 c).1} (x.d.B3 c).2.1):=rfl;obtain⟨r,l⟩:∃r,x.d.B3 c=r:=⟨_,rfl⟩;rw[l]at a d;rw[a]at h;cases g:ae po {x with d:=r.1} r.2.1 with
 | error e=>
  obtain⟨p,a2⟩:=e;rw[g]at h;simp only[sS]at h;cases h;have:=aMW d.2.1 g;omega
 | ok z=>
  rw[g]at h;simp only[sS]at h;split at h
  .rename_i i;cases h;have:=d.2.2.1 i;omega
  .split at h
   .rename_i j;split at j
    .cases h;have n:=aNb j;have m:z.a=x.a:=(oK g).2;have o:=b.a;omega
    .cases j
   .cases h
def aOd:∀{x:Ps}{no a:Nat},fF x->x.C4 po l=V (no,a)->a<=16777216:=by
 induction l with
 | nil=>intro x no a _ h;cases h
 | cons c l f=>
  intro x no a d h;unfold em at h;rw[ml]at h;cases b:x.B3 po c with
  | error e=>
   obtain⟨g,a2⟩:=e;rw[b]at h;cases h;exact d.U5 b
  | ok z=>
   rw[b]at h;exact f (d.B3 b) h
def finish_at{x:Ps}{c:Nat}(h:fF x)(a:x.B7 po=V (no,c)):c<=16777216:=by
 have d:=vF h.c;have g:=h.c.a;have b:x.B7 po=qV x.d.C0 (ae po {x with d:=x.d.C0.1} x.d.C0.2.1):=rfl;rw[b]at a;cases f:ae po {x with d:=x.d.C0.1} x.d.C0.2.1 with
 | error e=>
  obtain⟨k,a2⟩:=e;rw[f]at a;simp only[qV]at a;cases a;have:=aMW d.2.1 f;omega
 | ok z=>
  rw[f]at a;simp only[qV]at a;split at a
  .cases a;have:=d.2.2.1;omega
  .split at a
   .cases a;have i:z.a=x.a:=(oK f).2;have j:=h.a;omega
   .cases a
def aOe{d:Nat}(c:d<=512)(h:eo po l d=V (no,a)):a<=16777216:=by
 unfold eo at h;cases b:(Ps.E9 d).C4 po l with
 | error e=>
  obtain⟨f,a2⟩:=e;rw[b]at h;cases h;exact aOd (pN d c) b
 | ok z=>
  rw[b]at h;exact finish_at ((pN d c).C4 b) h
