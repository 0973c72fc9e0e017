/-
  The program, one part of its walk. Conditions: none.
-/
import Derived.Test.YtakkmiomhackiaaGreatDoorAj23
import Derived.Shelf.Abstract
import Derived.OwnWalkIn
import Derived.TacticsInMore
import Derived.RegionIn
import Derived.LoopNIn
import Derived.LoopIn
import Derived.Lib.AppendStr
set_option linter.all false
set_option maxRecDepth 100000
set_option maxHeartbeats 16000000
open Go.Proofs.Tryz
open Bool renaming false->O,true->D
open ByteArray renaming ext->iy
open Except renaming bind->gd,error->dh,map->gl,ok->bm,pure->gc
open Go renaming Addr->bj,Calls->ah,Ending->eh,Value->ag,World->E,callsIn_wide->dw,lt_of_block->ei,maxLen->cu,results->af,rounds_succ->bw
open Go.Proofs.Tryz renaming func118->dx,func155->ep,func29->dl,func31->fg,ntmps118->dy,ntmps155->et,ntmps29->dm,ntmps31->fh,prog->ae,results118->ee,results155->bu,results29->dp,results31->fj,results88->fa
open List renaming getElem?_drop->fd
open Option renaming none->G,some->U
open Or renaming inl->bg,inr->ao
namespace Go.Proofs.YtakkmiomhackiaaGreatDoor
open Go.RowKit
open Ending renaming returned->av
open IntKind renaming i32->ir,i64->J,u64->ak
open Lib renaming run_eql_slice_nil->gv,strCells->iw
open Obj renaming cells->S
open Proofs renaming intOf->ek
open Keeps renaming A2->cw,A4->bk
open Lx renaming B3->fu,B5->fv,C0->gk,E5->fz,E9->ft,F4->ge
open Pc renaming M6->bs,bad->cj,cut->eu,ok->ct
open Ps renaming B3->fm,B7->gj,C4->fk,C9->ga,D3->fw,D7->gh,E2->ie,E9->fq,F5->cz
open Rd renaming C4->il,E9->bp,F6->dq,G5->gn,I5->go,J5->im,N0->gm,whole->di
open Sz renaming B9->ii
open Tr renaming A9->ig,F3->em,num->cr
open Win renaming nil->dv
open aQ renaming nil->bz
open cK renaming L7->ij
open RowKit renaming Below->ar
open Value renaming agg->ac,bool->N,iface->bh,int->I,nilIface->ai,ownBlock->ix,pointer->C,slice->Z,string->L,tuple->aj
variable {F:Nat->Prop}{w:E}{a no r:Nat}{d:Bool}{b:ag}{l:Oo}
def aMX(F:Nat->Prop)(w:E)(r:Nat)(x:Rd)(d:Bool)(m:aMC F w r x d):ah ae 39 #[C r] w λe w'=>e=av (I J x.b.length)/\w'=w:=by
 obtain⟨-,-,f,j,k,b,-,-,g,i,-⟩:=m;obtain⟨a,c,rfl⟩:=g.A8;obtain⟨-,-,-,-,-,-,-,l,-⟩:=aMA b;clear b g;go_enter func39,ntmps39;go_wp2;go_ret;exact⟨rfl,rfl⟩
def Rd.J6(x:Rd):Rd:={x.whole with c:= [],size:=0}
def aNv(F:Nat->Prop)(w:E)(r:Nat)(x:Rd)(X:aMC F w r x O)(n:aMP x)(z:x.a<=1073741824):
 ah ae 28 #[C r] w λe w'=>e=av ai/\Keeps F w w'/\aMC (Since F w w') w' r (x.J6) D:=by
 have m:=A (aNl F w r x X n z);have q:=A X.2.1;have j:=A X.1
 have K:w.cell? ⟨r,3,G⟩=U (N O):=by
  obtain⟨_,_,f,o,v,b,_⟩:=X;rw[aA b];rfl
 have u:x.J6={x.whole with c:= [],size:=0}:=rfl;rw[u];obtain⟨Y,y⟩:∃Y,x.whole=Y:=⟨_,rfl⟩;rw[y]at m⊢;clear X n z u y;go_enter func28,ntmps28;go_wp2_with fail;refine(m.o).mono ?_;rintro e w1 ⟨rfl,g,t⟩;obtain⟨-,-,f,o,v,b,-,-,l,d,a⟩:=t;obtain⟨-,-,-,R,W,-,V,-,T⟩:=aMA b;have s:=A b;have H:=A (And.intro l (And.intro d a));have P:=A g;clear g b l d a K;go_wp2;go_ret;have c:Keeps (λk=>k=r) w1 (((w1.setCell ⟨r,3,G⟩ (N D)).setCell ⟨r,4,G⟩ (Z G 0 0)).setCell ⟨r,6,G⟩ (I J 0)):=(((bk (λk=>k=r) w1).A3 (p:=⟨r,3,G⟩) (bg rfl) _).A3 (p:=⟨r,4,G⟩) (bg rfl) _).A3 (p:=⟨r,6,G⟩) (bg rfl) _;have i:=P.o.same (c.mono λk e=>e▸j.o);obtain⟨l,d,a⟩:=H.o;exact⟨rfl,i,bg j.o,aF q.o i.size,Z G 0 0,o,v,aB (aB (aB s.o _) _) _,bz _ _ _,λk X=>(by cases X),l.A0 c (λk e B=>l.ne s.o (by decide) (e.trans (congrArg U B))),λk X=>(d k X).E8 c.size,a.A0 c (aMT s.o)⟩
def aMC.B0{x:Rd}(n:aMC F w r x d):aMC F w.drew r x d:=by
 obtain⟨m,c,a,f,k,g,j,i,l,e,b⟩:=n;exact⟨m,c,a,f,k,g,j,i,l,e,b.A0 ((bk (λ_=>False) w).B0) (λ_ _ _ _ _ n=>n)⟩
def aMH.B0{a:ag}{c:Except (Nat×Nat) Tr}(d:aMH w a b c):aMH w.drew a b c:=d.A0 ((bk (λ_=>False) w).B0) (λ_ _ _ _ _ d=>d)
def aOi(F:Nat->Prop)(w:E)(r:Nat)(x:Rd)(f:Except (Nat×Nat) Tr)(c:List (Except (Nat×Nat) Tr))(d:Bool)(e:eh)(w':E):Prop:=
 ∃a b,e=av (aj #[a,b,N D])/\aMH w' a b f/\Keeps F w w'/\aMC (Since F w w') w' r {x with b:=c} d
def aNd(F:Nat->Prop)(w:E)(r:Nat)(x:Rd)(z:Except (Nat×Nat) Tr)(m:List (Except (Nat×Nat) Tr))(d:Bool)(a0:aMC F w r x d)(y:x.b=z::m)(hl:x.b.length<=1073741824):
 ah ae 29 #[C r] w λe w'=>aOi F w r x z m d e w':=by
 have K:=A (aMX F w r x d a0);obtain⟨hF,i5,i3,j6,cs,c,hw,R,Y,V,l⟩:=a0;obtain⟨n,hn⟩:∃n,m.length=n:=⟨_,rfl⟩;have P:x.b.length=n+1:=by rw[y,cv,hn]
 rw[P]at K Y hl;obtain⟨a,b,ha,hb,B⟩:=l 0 z (by rw[y];rfl);have i6:=Y;rcases i6.2 with⟨_,s⟩|⟨g,off,cap,i7,rfl,X,j0,ho,hm,hi⟩
 .omega
 obtain⟨c0,c1,c2,c3,c4,c5,c6,c7,cf⟩:=aMA c;have ca:w.cell? ⟨g,off,G⟩=U a:=by have:=Y.B6 ha;simpa using this
 have cb:w.cell? ⟨g,off+1,G⟩=U b:=by have:=Y.B6 hb;simpa using this
 obtain⟨q,hq,j1⟩:∃q,a=C q/\(b=ai\/∃T v,b=bh T v):=by
  cases z with
  | error f=>obtain⟨h1,h2⟩:=B;exact⟨_,h1,ao ⟨_,_,h2⟩⟩
  | ok t=>obtain⟨h1,T,v,h2,_⟩:=B;exact⟨_,h2,bg h1⟩
 subst hq;have H:=A c;have o:=ei c;have i4:=A (And.intro hw R);have i8:=A (And.intro Y (And.intro V l));have W:=A B;have j2:=A i5;have HF:=A hF;have j3:=A y;have HN:=A hn;have j5:(n:Int)+1<=(cap:Int):=by omega
 have j7:cap<=9223372036854775807:=by unfold cu at hm;omega
 have j8:(1:Int)<=(n:Int)+1:=by omega
 have j9:(0:Int)<=(n:Int)+1:=by omega
 have j4:=A (show aQ 2 162 w (if n=0 then Z (g,off) 0 0 else Z (g,off+2) n n) n (cs.drop 2)from by
  have f:=Y.1;refine⟨by rw[ea,f];omega,?_⟩;by_cases s:n=0
  .rw[pz s,s]
   exact ao ⟨g,off,0,i7,rfl,X,hU _,by omega,dr _,λj u hj=>by
    have:=(bt.1 hj).1;rw[ea,f]at this;omega⟩
  .rw[py s]
   exact ao ⟨g,off+2,n,i7,rfl,X,hU _,by omega,by omega,λj u hj=>by
    rw[fd]at hj;have:=hi (2+j) u hj;rw[show off+2+j=off+(2+j) by omega];exact this⟩)
 have f:g≠r:=λe=>by subst e;rw[c]at X;simp at X
 have i9:=A f;have k0:=A X;clear c hw R Y i6 V l B ha hb X j0 ho hm hi i5 hF y hn P f
 have P:∀(b:ag)(X:ag),(∃u,X=u/\X=(if n=0 then Z (g,off) 0 0 else Z (g,off+2) n n))->aMH w (C q) b z->Keeps (λk=>k=r) w ((w.setCell ⟨r,7,G⟩ X).alloc (S #[C q,b] 162))/\aMH ((w.setCell ⟨r,7,G⟩ X).alloc (S #[C q,b] 162)) (C q) b z/\aMC (Since F w ((w.setCell ⟨r,7,G⟩ X).alloc (S #[C q,b] 162))) ((w.setCell ⟨r,7,G⟩ X).alloc (S #[C q,b] 162)) r {x with b:=m} d:=by
  rintro b X ⟨_,_,y⟩ B;have f:Keeps (λk=>k=r) w ((w.setCell ⟨r,7,G⟩ X).alloc (S #[C q,b] 162)):=((bk (λk=>k=r) w).A3 (p:=⟨r,7,G⟩) (bg rfl) _).A5 _;have i5:=aMT H.o;obtain⟨hw,R⟩:=i4.o;obtain⟨Y,V,l⟩:=i8.o;refine⟨f,B.A0 f i5,bg HF.o,aF j2.o f.size,i3,X,cs.drop 2,?_,hw.A0 f (λk e f=>hw.ne H.o (by decide) (e.trans (congrArg U f))),λk a0=>bg (R k a0),?_,?_,?_⟩
  .exact(de _ _ _ (by simpa[World.setCell]using o)).trans (aB H.o _)
  .have:=j4.o.A0 f (λk e f=>by
    subst f;by_cases s:n=0
    .rw[pz s]at e;cases e;exact i9.o rfl
    .rw[py s]at e;cases e;exact i9.o rfl)
   rw[y];show aQ 2 162 _ _ m.length _;rw[HN.o];rw[y]at this;exact this
  .intro k c;rw[y]at c
   have:k=g:=by
    by_cases s:n=0
    .rw[pz s]at c;cases c;rfl
    .rw[py s]at c;cases c;rfl
   subst this;exact bg (V k rfl)
  .intro i c hi;obtain⟨a',b',h1,h2,h3⟩:=l (i+1) c (by rw[j3.o];simpa using hi);exact⟨a',b',by rw[fd,show 2+2*i=2*(i+1) by omega];exact h1,by rw[fd,show 2+(2*i+1)=2*(i+1)+1 by omega];exact h2,h3.A0 f i5⟩
 have y:=A P;clear P;rcases j1 with rfl|⟨T,v,rfl⟩
 .rcases hG n with s|s
  .skip;subst s;have c:=aL w (S #[C q,ai] 162);have f:=(de w (S #[C q,ai] 162) _ o).trans H.o;obtain⟨d0,d1,d2,d3,d4,d5,d6,d7,df⟩:=aMA f;have x0:(w.alloc (S #[C q,ai] 162)).cell? w=U (C q):=aA c;have x1:(w.alloc (S #[C q,ai] 162)).cell? ⟨w.heap.size,1,G⟩=U (ai):=aA c;clear c f;go_enter dl,dm;go_wp2_with fail;refine(K.o).mono ?_;rintro e w1 ⟨rfl,rfl⟩;go_wp2;go_region;go_wp2;go_region;go_wp2_with fail;obtain⟨f1,f2,f3⟩:=y.o (ai) (Z (g,off) 0 0) ⟨_,rfl,by simp⟩ W.o;exact bb (v:=aj #[C q,ai,N D]) (by simp[af,dp,go_sem]) rfl ⟨_,_,rfl,f2.B0.B0,(f1.mono (λk e=>e▸HF.o)).B0.B0,f3.B0.B0⟩
  .skip;have P:¬n=0:=(by omega);have i5:=A P;clear P;have c:=aL w (S #[C q,ai] 162);have f:=(de w (S #[C q,ai] 162) _ o).trans H.o;obtain⟨d0,d1,d2,d3,d4,d5,d6,d7,df⟩:=aMA f;have x0:(w.alloc (S #[C q,ai] 162)).cell? w=U (C q):=aA c;have x1:(w.alloc (S #[C q,ai] 162)).cell? ⟨w.heap.size,1,G⟩=U (ai):=aA c;clear c f;go_enter dl,dm;go_wp2_with fail;refine(K.o).mono ?_;rintro e w1 ⟨rfl,rfl⟩;go_wp2;go_region;go_wp2;go_region;go_wp2_with fail;obtain⟨f1,f2,f3⟩:=y.o (ai) (Z (g,off+2) n n) ⟨_,rfl,(py i5.o).symm⟩ W.o;exact bb (v:=aj #[C q,ai,N D]) (by simp[af,dp,go_sem]) rfl ⟨_,_,rfl,f2.B0.B0,(f1.mono (λk e=>e▸HF.o)).B0.B0,f3.B0.B0⟩
 .rcases hG n with s|s
  .skip;subst s;have c:=aL w (S #[C q,bh T v] 162);have f:=(de w (S #[C q,bh T v] 162) _ o).trans H.o;obtain⟨d0,d1,d2,d3,d4,d5,d6,d7,df⟩:=aMA f;have x0:(w.alloc (S #[C q,bh T v] 162)).cell? w=U (C q):=aA c;have x1:(w.alloc (S #[C q,bh T v] 162)).cell? ⟨w.heap.size,1,G⟩=U (bh T v):=aA c;clear c f;go_enter dl,dm;go_wp2_with fail;refine(K.o).mono ?_;rintro e w1 ⟨rfl,rfl⟩;go_wp2;go_region;go_wp2;go_region;go_wp2_with fail;obtain⟨f1,f2,f3⟩:=y.o (bh T v) (Z (g,off) 0 0) ⟨_,rfl,by simp⟩ W.o;exact bb (v:=aj #[C q,bh T v,N D]) (by simp[af,dp,go_sem]) rfl ⟨_,_,rfl,f2.B0.B0,(f1.mono (λk e=>e▸HF.o)).B0.B0,f3.B0.B0⟩
  .skip;have P:¬n=0:=(by omega);have i5:=A P;clear P;have c:=aL w (S #[C q,bh T v] 162);have f:=(de w (S #[C q,bh T v] 162) _ o).trans H.o;obtain⟨d0,d1,d2,d3,d4,d5,d6,d7,df⟩:=aMA f;have x0:(w.alloc (S #[C q,bh T v] 162)).cell? w=U (C q):=aA c;have x1:(w.alloc (S #[C q,bh T v] 162)).cell? ⟨w.heap.size,1,G⟩=U (bh T v):=aA c;clear c f;go_enter dl,dm;go_wp2_with fail;refine(K.o).mono ?_;rintro e w1 ⟨rfl,rfl⟩;go_wp2;go_region;go_wp2;go_region;go_wp2_with fail;obtain⟨f1,f2,f3⟩:=y.o (bh T v) (Z (g,off+2) n n) ⟨_,rfl,(py i5.o).symm⟩ W.o;exact bb (v:=aj #[C q,bh T v,N D]) (by simp[af,dp,go_sem]) rfl ⟨_,_,rfl,f2.B0.B0,(f1.mono (λk e=>e▸HF.o)).B0.B0,f3.B0.B0⟩
def aNe(F:Nat->Prop)(w:E)(r:Nat)(x:Rd)(d:Bool)(c:aMC F w r x d)(a:x.b= []):
 ah ae 29 #[C r] w λe w'=>e=av (aj #[C G,ai,N O])/\w'=w:=by
 have b:=A (aMX F w r x d c);rw[a]at b;clear c a;go_enter dl,dm;go_wp2_with fail;refine(b.o).mono ?_;rintro e w1 ⟨rfl,rfl⟩;go_wp2_with fail;exact bb (v:=aj #[C G,ai,N O]) (by simp[af,dp,go_sem]) rfl ⟨rfl,rfl⟩
def aM3(w:E)(l:List UInt8)(e:eh)(w':E):Prop:=
 ∃v,e=av v/\aQ 1 5 w' v l.length (l.map bZ)/\(∀k,v.ownBlock=U k->w.heap.size<=k/\k<w'.heap.size)/\ar w w w'
def aNH(w:E):ah ae 31 #[()] w λe w'=>aM3 w [] e w':=by
 have d:∀(w:E)(a:Option bj)(n c n' b:Nat),(binOp .eql 22 (Z a n c) (Z G n' b)).run ae w=.ok (N a.isNone) w:=λw a n c n' b=>gv w _ _ a n c n' b ku;go_enter fg,fh;go_wp2_with fail;exact bb (v:=Z G 0 0) (by simp[af,fj,go_sem]) rfl ⟨_,rfl,bz _ _ _,λk f=>(by cases f),dk _ _⟩
def aNw(w:E)(a:bj)(cap:Nat)(l:Oo)(s:l.length<=1073741824)(o:∀i x,l[i]?=U x->w.cell? (a.add i)=U (I .u8 ((x.toNat:Nat):Int))):
 ah ae 31 #[Z (U a) l.length cap] w λe w'=>aM3 w l e w':=by
 have p:ar w.heap.size w (w.alloc (S #[] 5)):=(dk _ _).alloc (hU _) _;have d:=aL w (S #[] 5);have q:aQ 1 5 (w.alloc (S #[] 5)) (Z (U ⟨w.heap.size,0,G⟩) 0 0) 0 []:=⟨by simp,ao ⟨w.heap.size,0,0,#[],rfl,d,hU _,by simp,dr _,λj u f=>by simp at f⟩⟩;have t:=A p;have r:=A q;have y:=A s
 have b:∀j u,(l.map bZ)[j]?=U u->(w.alloc (S #[] 5)).cell? (a.add j)=U u:=by
  intro j u f;rw[ed]at f;cases m:l[j]? with
  | none=>rw[m]at f;cases f
  | some x=>
   rw[m]at f;simp at f;subst f;have z:=o j x m;exact(World.cell?_of_block (de _ _ _ (World.block_lt_of_cell? w _ z))).trans z
 have B:=A b;clear p d q s o b;have F:∀(w:E)(a:Option bj)(n c n' m:Nat),(binOp .eql 22 (Z a n c) (Z G n' m)).run ae w=.ok (N a.isNone) w:=λw a n c n' m=>gv w _ _ a n c n' m ku;by_cases d:l= []
 .subst d;go_enter fg,fh;go_wp2_with (at_builtin;refine sD aMO rfl _ _ rfl rfl r.o (U a) cap rfl ?_);go_wp2_with fail;exact bb (v:=Z (U ⟨w.heap.size,0,G⟩) 0 0) (by simp[af,fj,go_sem]) rfl ⟨_,rfl,r.o,λk o=>(by cases o;exact⟨hU _,by simp⟩),t.o⟩
 .obtain⟨n,p⟩:∃n,l.length=n+1:=⟨l.length-1,by have:=List.length_pos_iff.2 d;omega⟩;rw[p];have b:=A p;clear d p;go_enter fg,fh;go_wp2_with (at_builtin;refine bC aMO rfl _ _ rfl rfl r.o a (n+1) cap (l.map bZ) rfl ?_ B.o ?_ ?_ ?_ ?_ ?_)
  .rw[kt,b.o];omega
  .intro u d;rw[List.mem_map]at d;obtain⟨x,_,rfl⟩:=d;rfl
  .omega
  .have:=y.o;rw[b.o]at this;omega
  .have:=y.o;rw[b.o]at this;unfold cu;omega
  intro g off c w' q s d;have p:=A q;have H:=A s;have z:=A d;clear q s d;go_wp2_with fail;refine bb (v:=Z (g,off) (n+1) c) (by simp[af,fj,go_sem]) rfl ?_;refine⟨_,rfl,?_,?_,?_⟩
  .have:=p.o;rw[b.o];simpa using this
  .intro k d;cases d;rcases H.o with o|o
   .cases o;exact⟨hU _,a7 (by simp) z.o.size⟩
   .exact⟨bo (by simp) o.1,o.2⟩
  .exact((cw (λ_=>False) t.o).trans z.o (λk o=>ao (by cases o;exact hU _))).A6 (hU _) (λ_ o=>o.elim)
def aM4(w:E)(v:ag)(l:List UInt8):Prop:=aMD (λ_=>False) w v l
def aNI(w:E)(v:ag)(l:Oo)(F:aM4 w v l)(r:l.length<=1073741824):ah ae 31 #[v] w λe w'=>aM3 w l e w':=by
 obtain⟨⟨a,cap,rfl,y,u,f⟩,d⟩:=F;rcases d with d|⟨g,off,n,c,d⟩
 .injection d with j m p;have q:l= []:=eb m;subst q;subst j;subst p;exact aNH w
 .injection d with j m p;subst j;refine aNw w _ cap l r λi x o=>?_;rcases f with f|⟨z,k,b,B,t⟩
  .subst f;simp at o
  .injection b with b;injection b with b s _;subst b;subst s;have:(⟨g,off,G⟩:bj).add i=⟨g,off+i,G⟩:=(by unfold Addr.add;split<;>simp_all);rw[this];exact t i x o
def aOF(w:E)(l:List UInt8)(d:Nat)(e:eh)(w':E):Prop:=
 ∃a b v,e=av (aj #[.func (.func 66) #[] #[C (U ⟨a,0,G⟩),C (U ⟨b,0,G⟩)],ai])/\w'.heap[a]?=U (S #[d] 3 (0,0))/\w'.heap[b]?=U (S #[v] 22 (0,0))/\
  aQ 1 5 w' v l.length (l.map bZ)/\ar w w w'/\w.heap.size<=a/\w.heap.size<=b/\∀k,v.ownBlock=U k->w.heap.size<=k
def aOj(w:E)(v:ag)(l:Oo)(d:Nat)(s:1<=d)(q:d<=512)(H:aM4 w v l)(t:l.length<=1073741824):
 ah ae 32 #[v,d] w λe w'=>aOF w l d e w':=by
 have m:ar w w ((w.alloc (S #[d] 3)).alloc (S #[d,I J 0,N O,N O,(),I J 0,I J 0,()] 159)):=((dk _ _).alloc (hU _) _).alloc (by simp) _;have z:(w.alloc (S #[d] 3)).cell? w=U (I J d):=aA (aL w _);have x:=A (λw1=>aM1 w1 d s q);have p:=A (λw1(u:ar w w w1)=>aNI w1 v l (aMD.A0 H (cw (λ_=>False) u) (λ_ _ H=>H)) t);have B:=A (show((w.alloc (S #[d] 3)).alloc (S #[d,I J 0,N O,N O,(),I J 0,I J 0,()] 159)).heap[w.heap.size]?=U (S #[d] 3 (0,0))from(de _ _ _ (by simp)).trans (aL w _));have b:=A m;obtain⟨⟨a,cap,y,_⟩,_⟩:=H;subst y;clear m s q t;go_enter func32,ntmps32;go_wp2_with fail;refine(x.o _).mono ?_;rintro e w1 ⟨rfl,rfl⟩;go_wp2_with fail;refine(p.o _ b.o).mono ?_;rintro e w2 ⟨F,rfl,g,i,f⟩;have j:=A g;have c:=A (chain b.o f);have o:=A (λk e=>bo b.o.size (i k e).1);have n:=A (keep B.o f);clear g i f z;obtain⟨a2,c2,rfl⟩:=j.o.A8;go_wp2_with fail;have r:Keeps (λ_=>False) w2 (w2.alloc (S #[Z a2 l.length c2] 22)):=(bk _ _).A5 _
 exact bb (v:=aj #[.func (.func 66) #[] #[C w,C w2],ai]) (by simp[af,results32,go_sem]) rfl
  ⟨w.heap.size,w2.heap.size,Z a2 l.length c2,rfl,r.B4 n.o id,aL w2 _,j.o.A0 r (λ_ _=>id),c.o.alloc c.o.size _,hU _,c.o.size,o.o⟩
section
section
variable (po:List Tr->List (List UInt8)->List Tr)
def aMG(l:List UInt8)(a:Nat):Except (Nat×Nat) (List Tr):=(cz po l a).map λp=>p.c
def aN2(d:Nat)(c:1<=d):aMG po [49,10] d=bm [cr 4607182418800017408]:=by
 have b:bitsOf [49]=U 4607182418800017408:=by decide
 have a:¬0=d:=by omega
 simp[aMG,cz,fk,fm,fq,ft,fu,fv,aP,aI,aY,isD,kX,aR,fw,fz,ie,ga,a,pure,gc,bind,gd,
  bX,bL,Lx.B7,b,ge,gh,Ps.C5,iR,bB,pA,dW,ig,ii,more,gj,gk,gl]
def aNL(d:Nat)(b:1<=d):aMG po [91,10] d=dh (95,2):=by
 have a:¬0=d:=by omega
 simp[aMG,cz,fk,fm,fq,ft,fu,fv,aP,aI,aY,fw,fz,ga,a,pure,gc,bind,gd,
  ge,gh,Ps.C7,gj,gk,gl]
def aNM(d:Nat)(e:1<=d):aMG po [34,97,34,10] d=bm [.text [97]]:=by
 have c:¬0=d:=by omega
 have a:aO [] 97=U []:=by decide
 have b:aV [97]=D:=by decide
 simp[aMG,cz,fk,fm,fq,ft,fu,fv,aP,bY,a,b,aI,aY,fw,fz,ie,ga,c,pure,gc,bind,gd,
  ge,gh,Ps.E7,Ps.F0,Ps.C5,gE,bB,pA,ig,ii,more,gj,gk,gl]
end
end
def aNF{d:Nat}{t:Tr}(c:aMG po l d=bm [t]):mP l d=bm t:=by
 unfold aMG at c;unfold mP;cases a:cz po l d with
 | error e=>rw[a]at c;cases c
 | ok y=>
  rw[a]at c;have b:y.c= [t]:=by injection c
  show bm (y.c.headD .null)=_;rw[b];rfl
def aNy{d:Nat}{e:Nat×Nat}(c:aMG po l d=dh e):mP l d=dh e:=by
 unfold aMG at c;unfold mP;cases a:cz po l d with
 | ok y=>rw[a]at c;cases c
 | error b=>
  rw[a]at c;injection c with c;subst c;rfl
def aNz:(((bp 4).C4 [30,49,10,30,91,10,30,34,97,34,10]).J6).b= [bm (cr 4607182418800017408),dh (95,6),bm (.text [97])]:=by
 have j:=gm (bp 4) [] [49,10,30,91,10,30,34,97,34,10] (λc a=>by cases a);have g:(((bp 4).F6 []).whole).G5=⟨4,1,D,[],1,0,[]⟩:=by rw[Rd.P3];simp[di,bp,gn]
 have i:=gm ⟨4,1,D,[],1,0,[]⟩ [49,10] [91,10,30,34,97,34,10] (λc a=>by simp at a;rcases a with rfl|rfl<;>decide)
 have e:((dq ⟨4,1,D,[],1,0,[]⟩ [49,10]).whole).G5=⟨4,4,D,[],4,0,[bm (cr 4607182418800017408)]⟩:=by
  simp[di,gn,dq,go,aMF,aNF (aN2 po 4 (by omega)),aMK]
 have f:=gm ⟨4,4,D,[],4,0,[bm (cr 4607182418800017408)]⟩ [91,10] [34,97,34,10] (λc a=>by simp at a;rcases a with rfl|rfl<;>decide)
 have d:((dq ⟨4,4,D,[],4,0,[bm (cr 4607182418800017408)]⟩ [91,10]).whole).G5=⟨4,7,D,[],7,0,[bm (cr 4607182418800017408),dh (95,6)]⟩:=by
  simp[di,gn,dq,go,aMF,aNy (aNL po 4 (by omega)),aMK]
 rw[mq,g]at j;rw[e]at i;rw[d]at f;have k:=Rd.J9 (b:= [34,97,34,10]) ⟨4,7,D,[],7,0,[bm (cr 4607182418800017408),dh (95,6)]⟩ (λc a=>by simp at a;rcases a with rfl|rfl|rfl|rfl<;>decide);rw[li,li,mq]at i f;rw[j,i,f,k];simp[Rd.J6,di,dq,go,aMF,aNF (aNM po 4 (by omega)),aMK]
def aOL(w:E):ah ae 30 #[ai] w λe w'=>e=av (aj #[I J 0,I J 0])/\w'=w:=by
 go_enter func30,ntmps30;go_wp2_with fail;exact bb (v:=aj #[I J 0,I J 0]) (by simp[af,results30,go_sem]) rfl ⟨rfl,rfl⟩
def aON(w:E)(no a:Nat)(g:1<=no):ah ae 30 #[cU no a] w λe w'=>e=av (aj #[no,a])/\Keeps (λ_=>False) w w':=by
 unfold cU;have f:∀w,(Instr.typeAssert (bh 151 (ac #[no,a])) 26 151 D).run ae w=.ok (aj #[ac #[no,a],N D]) w:=λ_=>by kernel_rfl
 have b:=aL w (S #[no,a] 151);have d:(w.alloc (S #[no,a] 151)).cell? ⟨w.heap.size,0,G⟩=U (I J no):=aA b;have i:(w.alloc (S #[no,a] 151)).cell? ⟨w.heap.size,1,G⟩=U (I J a):=aA b;clear b;have c:=(bk (λ_=>False) w).A5 (S #[no,a] 151);go_enter func30,ntmps30;go_wp2;go_region;go_wp2_with fail;exact bb (v:=aj #[no,a]) (by simp[af,results30,go_sem]) rfl ⟨rfl,c.B0⟩
def aFB(w:E)(a:List Stp)(e:eh)(w':E):Prop:=∃V,e=av V/\cK 149 w' V a/\ar w w w'/\∀k,V.ownBlock=U k->w.heap.size<=k
def uO(t:Tr):Prop:=∀(F:Nat->Prop)(w:E)(d:Int)(f:Bool)(c:Nat)(g:ByteArray)(a:Option bj)(n m:Nat)(b:Option bj)(p q:Nat),ValAt F w (eQ d f c g (Z a n m) (Z b p q)) t->t.F3.length<=1048576->
 ah ae 60 #[ac #[d,f,I ak c,g,Z a n m,Z b p q]] w λe w'=>aFB w t.F3 e w'
def aLC{b:List (List ag)}{l:List Stp}(j:b.length=l.length)(k:∀(i:Nat)(c:List ag)(s:Stp),b[i]?=U c->l[i]?=U s->nK w c s):∀u∈b.flatten,u.oneCell'=D:=by
 intro u f;obtain⟨c,g,d⟩:=List.mem_flatten.1 f;obtain⟨i,hi,rfl⟩:=List.getElem_of_mem g;obtain⟨a,m,e,_⟩:=k i b[i] (l[i]'(by omega)) (bf hi) (bf (by omega));rw[e]at d;simp[aId]at d;rcases d with rfl|rfl|rfl|rfl|rfl|rfl<;>rfl
def aLW(w a:E)(l:List Tr)(i:Nat)(o:ag)(wr:E):Prop:=cK 149 wr o (dX (l.take i))/\ar a a wr/\∀k,o.ownBlock=U k->a.heap.size<=k
def aFC{a:Option bj}{n m:Nat}{d:List (List ag)}{l:List Tr}(hn:l.length=n)(T:aQ 6 34 w (Z a n m) n d.flatten)(B:d.length=l.length)(V:∀(i:Nat)(c:List ag)(t:Tr),d[i]?=U c->l[i]?=U t->ValAt F w c t)(ih:∀t∈l,uO t)
 (i:Nat)(hi:i<n):∃(t:Tr)(g off:Nat)(k:Int)(o:Bool)(r:Nat)(s:ByteArray)(v:Option bj)(n' x:Nat)(b:Option bj)(p q:Nat),l[i]?=U t/\a=U ⟨g,off,G⟩/\∀W,ar w w W->
  (W.cell? ⟨g,off+i*6,G⟩=U (I J k)/\W.cell? ⟨g,off+i*6+1,G⟩=U (N o)/\W.cell? ⟨g,off+i*6+2,G⟩=U (I ak r)/\W.cell? ⟨g,off+i*6+3,G⟩=U (L s)/\W.cell? ⟨g,off+i*6+4,G⟩=U (Z v n' x)/\W.cell? ⟨g,off+i*6+5,G⟩=U (Z b p q))/\
  (t.F3.length<=1048576->ah ae 60 #[ac #[k,o,I ak r,s,Z v n' x,Z b p q]] W λe w'=>aFB W t.F3 e w'):=by
 have X:l[i]?=U (l[i]'(by omega)):=bf (by omega);have H:d[i]?=U (d[i]'(by omega)):=bf (by omega);have K:=V i _ _ H X;obtain⟨k,o,r,s,v,n',x,b,p,q,P⟩:=K.A8;rw[P]at H K;obtain⟨Y,o2,g1,e2⟩:=T.S0 (by omega);injection e2 with y1 y2 y3;subst y1
 have y:∀c∈d,c.length=6:=by
  intro c P;obtain⟨j,z⟩:=List.getElem?_of_mem P;have f:j<l.length:=by rw[<-B];exact(bt.1 z).1
  exact(V j c _ z (bf f)).O9
 refine⟨_,Y,o2,k,o,r,s,v,n',x,b,p,q,X,rfl,λW hW=>⟨?_,λhl=>ih _ (List.getElem_mem _) F W _ _ _ _ _ _ _ _ _ _ (K.A0 (cw (λ_=>False) hW) λ_ _ _ a0=>a0.elim) hl⟩⟩
 have f:∀(j:Nat)(u:ag),(eQ k o r s (Z v n' x) (Z b p q))[j]?=U u->W.cell? ⟨Y,o2+i*6+j,G⟩=U u:=λj u z=>by
  have R:j<6:=(bt.1 z).1;have:=(T.A0 (cw (λ_=>False) hW) λ_ _=>id).B6 (j:=i*6+j) (u:=u) (by rw[pH y H R];exact z);rw[fo];exact this
 exact⟨f 0 _ rfl,f 1 _ rfl,f 2 _ rfl,f 3 _ rfl,f 4 _ rfl,f 5 _ rfl⟩
def iP(F:Nat->Prop)(w:E)(R:Nat)(y:Bool)(z:Nat)(B:Oo)(a:Option bj)(m:Nat)(b:Option bj)(p q:Nat)(l:List Tr)(h9:List (List ag))(x:List Oo)
 (T:aQ 6 34 w (Z a l.length m) l.length h9.flatten)(H:h9.length=l.length)(V:∀(i:Nat)(c:List ag)(t:Tr),h9[i]?=U c->l[i]?=U t->ValAt F w c t)(X:Win 9 encS w (Z b p q) x)(Y:∀t∈l,uO t)(f:(dX l).length+1<=1048576):
 ah ae 60 #[ac #[R,y,I ak z,L ⟨B.toArray⟩,Z a l.length m,Z b p q]] w λe w'=>aFB w (dX l++ [⟨R,y,z,B,if R=5 then l.length else 0,x⟩]) e w':=by
 obtain rfl:p=x.length:=by
  obtain⟨d,r,e⟩:=X.A8;injection e
 obtain⟨n,P⟩:∃n,l.length=n:=⟨_,rfl⟩;have K:=tE l;rw[P]at T⊢;have r:=aL w (S #[R,y,I ak z,L ⟨B.toArray⟩,Z a n m,Z b x.length q] 34);have s:=(dk w w).alloc (hU _) (S #[R,y,I ak z,L ⟨B.toArray⟩,Z a n m,Z b x.length q] 34);have HT:=A (aFC P T H V Y);have HK:=A X;have HN:=A (And.intro P (And.intro K f));have j0:n<=1048576:=by omega
 obtain⟨W0,d⟩:∃W0,w.alloc (S #[R,y,I ak z,L ⟨B.toArray⟩,Z a n m,Z b x.length q] 34)=W0:=⟨_,rfl⟩;rw[d]at r s;have W:=A (And.intro r s);have i2:=A (show aLW w W0 l 0 (Z G 0 0) W0 from⟨cK.nil _ _,dk _ _,λk e=>by cases e⟩);clear T H V Y s K f X P r;have i4:=A d;rw[<-d]at i2;clear d;go_enter func60,ntmps60;go_wp2;go_loopw [4,3] (λv o wr=>∃i:Nat,v=I J i/\i<=n/\M (aLW w W0 l i o wr)) (λv _ _=>n-(ek v).toNat)
 case atStart=>exact⟨0,rfl,dr _,i4.o▸i2⟩
 case round=>
  obtain⟨i,rfl,hi,HL⟩:=hrel;obtain⟨hs,T,ho⟩:=HL.o;obtain⟨oa,oc,rfl⟩:=hs.A8;obtain⟨c0,c1,c2,c3,c4,c5,-⟩:=bJ (keep W.o.1 T);by_cases i5:i<n
  .have e1:(i:Int)<(n:Int):=(by omega);have i0:(0:Int)<=(i:Int):=(by omega);obtain⟨t,g,off,j1,j2,j3,j4,a1,n1,m1,b1,p1,q1,h8,rfl,r⟩:=HT.o i i5;obtain⟨⟨d0,d1,d2,d3,d4,d5⟩,d⟩:=r wr (chain W.o.2 T);have f:=aA7 h8;have HC:=A (d (by have:=HN.o.2.2;omega));have HM:=A (And.intro h8 f);clear r d h8 f hs T ho;go_wp2_with fail;refine HC.o.mono ?_;rintro e w3 ⟨V2,rfl,⟨css2,H,s,K⟩,Y,P⟩;obtain⟨g2,o2,c2,rfl⟩:=s.S0 (aBV t);obtain⟨i3,d,r,f⟩:=HL.o.1.A7 Y;have HW:=A r;have i6:=A (show ∀(j:Nat)(u:ag),css2.flatten[j]?=U u->w3.cell? ((⟨g2,o2,G⟩:bj).add j)=U u from λj u hj=>by rw[Addr.add_lit];exact s.B6 hj);have HX:=A (And.intro d (And.intro f (And.intro H (And.intro s (And.intro K Y)))));have i7:=A (aLC H K);have j5:(dX (l.take i)).length+t.F3.length<=1048576:=(by have:=HM.o.2;have:=HN.o.2.2;omega);clear d r f H s K Y P;go_wp2_with (at_builtin;refine bC zA rfl _ _ rfl rfl HW.o ⟨g2,o2,G⟩ _ c2 css2.flatten rfl HX.o.2.2.2.1.1 i6.o i7.o (aBV t) ?_ ?_ ?_)
   .omega
   .unfold cu;omega
   intro g' i8 i9 w' s P X;have V:=A (And.intro s (And.intro P X));clear s P X;go_wp2_with fail;obtain⟨d,f,H,_,K,Y⟩:=HX.o;have i1:=chain HL.o.2.1 Y;refine⟨⟨i+1,by go_num,by omega,A ⟨?_,i1.trans (V.o.2.2.A6 i1.size HL.o.2.2),λk e=>?_⟩⟩,by simp[ek];omega⟩
   .rw[uN HM.o.1];exact cK.N3 (by decide) d HW.o f H K V.o.2.2 V.o.1
   .cases e;exact V.o.2.1.elim (HL.o.2.2 _) λa0=>bo i1.size a0.1
  .have e1:¬(i:Int)<(n:Int):=(by omega);have i1:i=n:=(by omega);have H:l.take i=l:=(by rw[i1,<-HN.o.1,List.take_length]);rw[H];have h8:=ei (keep W.o.1 T);have K:=HL.o.1;rw[H]at K;obtain⟨i3,d,r,f⟩:=K;obtain⟨i6,-,-⟩:=r.A8;have HX:=A (And.intro d (And.intro r (And.intro f (And.intro (chain W.o.2 T) λk e=>bo W.o.2.size (HL.o.2.2 k (by rw[H];exact e))))));have Y:=A (HK.o.A0 (cw (λ_=>False) (chain W.o.2 T)) λ_ _=>id);have i7:(dX l).length+1<=1048576:=HN.o.2.2;clear hs T ho d f H;by_cases h5:R=5
   .subst h5;have A1:=A (lU (wr.alloc (S #[I J 5,y,I ak z,L ⟨B.toArray⟩,I J n,Z b x.length q] 149)) (I J 5) (N y) (I ak z) (L ⟨B.toArray⟩) (I J n) (Z b x.length q) 149);have H:=A (show ∀(j:Nat)(u:ag),[I J 5,N y,I ak z,L ⟨B.toArray⟩,I J n,Z b x.length q][j]?=U u->((wr.alloc (S #[I J 5,y,I ak z,L ⟨B.toArray⟩,I J n,Z b x.length q] 149)).alloc (S #[I J 5,y,I ak z,L ⟨B.toArray⟩,I J n,Z b x.length q] 149)).cell? ((⟨wr.heap.size+1,0,G⟩:bj).add j)=U u from λj u hj=>by have:=A1.o j u hj;simpa using this);have HW:=A (r.A0 (((bk (λ_=>False) wr).A5 (S #[I J 5,y,I ak z,L ⟨B.toArray⟩,I J n,Z b x.length q] 149)).A5 (S #[I J 5,y,I ak z,L ⟨B.toArray⟩,I J n,Z b x.length q] 149)) λ_ _=>id);clear r;go_wp2_with (at_builtin;refine bC zA rfl _ _ rfl rfl HW.o ⟨wr.heap.size+1,0,G⟩ 1 1 _ rfl rfl H.o (by intro u hu;simp at hu;rcases hu with rfl|rfl|rfl|rfl|rfl|rfl<;>rfl) (by decide) ?_ ?_ ?_)
    .omega
    .unfold cu;omega
    intro g off cap w4 s P X;have V:=A (And.intro s (And.intro P X));clear s P X;go_wp2;go_ret;obtain⟨d,r,f,T,ho⟩:=HX.o;refine⟨_,rfl,ij (by decide) d r f ⟨b,q,rfl,Y.o⟩ ((((bk _ wr).A5 _).A5 _).same V.o.2.2) V.o.1,T.trans ((((bk _ wr).A5 _).A5 _).same V.o.2.2 |>.A6 T.size λk e=>ho k e),λk e=>?_⟩;cases e;exact V.o.2.1.elim (λa0=>ho _ a0) λa0=>by have:=a0.1;have:=T.size;simp at*;show w.heap.size<=g;omega
   .have e5:((R:Int)==5)=O:=(by simp;omega);have A1:=A (lU (wr.alloc (S #[R,y,I ak z,L ⟨B.toArray⟩,I J 0,Z b x.length q] 149)) (I J R) (N y) (I ak z) (L ⟨B.toArray⟩) (I J 0) (Z b x.length q) 149);have H:=A (show ∀(j:Nat)(u:ag),[I J R,N y,I ak z,L ⟨B.toArray⟩,I J 0,Z b x.length q][j]?=U u->((wr.alloc (S #[R,y,I ak z,L ⟨B.toArray⟩,I J 0,Z b x.length q] 149)).alloc (S #[R,y,I ak z,L ⟨B.toArray⟩,I J 0,Z b x.length q] 149)).cell? ((⟨wr.heap.size+1,0,G⟩:bj).add j)=U u from λj u hj=>by have:=A1.o j u hj;simpa using this);have HW:=A (r.A0 (((bk (λ_=>False) wr).A5 (S #[R,y,I ak z,L ⟨B.toArray⟩,I J 0,Z b x.length q] 149)).A5 (S #[R,y,I ak z,L ⟨B.toArray⟩,I J 0,Z b x.length q] 149)) λ_ _=>id);clear r;go_wp2_with (at_builtin;refine bC zA rfl _ _ rfl rfl HW.o ⟨wr.heap.size+1,0,G⟩ 1 1 _ rfl rfl H.o (by intro u hu;simp at hu;rcases hu with rfl|rfl|rfl|rfl|rfl|rfl<;>rfl) (by decide) ?_ ?_ ?_)
    .omega
    .unfold cu;omega
    intro g off cap w4 s P X;have V:=A (And.intro s (And.intro P X));clear s P X;go_wp2;go_ret;obtain⟨d,r,f,T,ho⟩:=HX.o;refine⟨_,rfl,ij (by decide) d r f ⟨b,q,rfl,Y.o⟩ ((((bk _ wr).A5 _).A5 _).same V.o.2.2) V.o.1,T.trans ((((bk _ wr).A5 _).A5 _).same V.o.2.2 |>.A6 T.size λk e=>ho k e),λk e=>?_⟩;cases e;exact V.o.2.1.elim (λa0=>ho _ a0) λa0=>by have:=a0.1;have:=T.size;simp at*;show w.heap.size<=g;omega
def aAt{t:Tr}(Y:Small t):uO t:=by
 induction Y with
 | null=>
  intro F w f k g o a n m b p q d j;generalize r:eQ f k g o (Z a n m) (Z b p q)=c at d;cases d;cases r;rw[em];exact iP F w 1 O 0 [] G 0 G 0 0 [] [] [] (bz _ _ _) rfl (λi c t Y=>by simp at Y) (dv _ _ _) (λt Y=>by simp at Y) (by simp[dX])
 | flag x=>
  intro F w f k g o a n m b p q d j;generalize r:eQ f k g o (Z a n m) (Z b p q)=c at d;cases d;cases r;rw[em];exact iP F w 2 x 0 [] G 0 G 0 0 [] [] [] (bz _ _ _) rfl (λi c t Y=>by simp at Y) (dv _ _ _) (λt Y=>by simp at Y) (by simp[dX])
 | num x=>
  intro F w f k g o a n m b p q d j;generalize r:eQ f k g o (Z a n m) (Z b p q)=c at d;cases d;cases r;rw[em];exact iP F w 3 O x [] G 0 G 0 0 [] [] [] (bz _ _ _) rfl (λi c t Y=>by simp at Y) (dv _ _ _) (λt Y=>by simp at Y) (by simp[dX])
 | text s=>
  intro F w f k g o a n m b p q d j;generalize r:eQ f k g o (Z a n m) (Z b p q)=c at d;cases d;cases r;rw[em];exact iP F w 4 O 0 s G 0 G 0 0 [] [] [] (bz _ _ _) rfl (λi c t Y=>by simp at Y) (dv _ _ _) (λt Y=>by simp at Y) (by simp[dX])
 | list l z Y P=>
  intro F w f k g o a n m b p q d j;generalize r:eQ f k g o (Z a n m) (Z b p q)=c at d;rw[tD]at j⊢;rw[cn,ki]at j;cases d with
  | list V u l y T v H=>
   cases r;obtain⟨_,_,e⟩:=y.A8;cases e;exact iP F w 5 O 0 [] a m G 0 0 l u [] y v H (dv _ _ _) P j
 | object keys l X z Y P=>
  intro F w f k g o a n m b p q d j;generalize r:eQ f k g o (Z a n m) (Z b p q)=c at d;rw[nE]at j⊢;rw[cn,ki]at j;cases d with
  | object V K u keys l y T B W v R H=>
   cases r;obtain⟨_,_,e⟩:=y.A8;cases e;exact iP F w 6 O 0 [] a m b p q l u keys y v H B P j
section
open Go.RowKit Go.Shelf
attribute [local go_sem] Oper.semAt_some
structure Rec where
 q:Option bj
 e:ag
 a:Except (Nat×Nat) Tr
def aN0(x:Rec):Array ag:= #[C x.q,x.e]
def aNo(a:List (Except (Nat×Nat) Tr))(k:Nat)(x:Rec)(w:E):Prop:=a[k]?=U x.a/\aMH w (C x.q) x.e x.a
def aMH.A8{a:ag}{e:Except (Nat×Nat) Tr}(g:aMH w a b e):∃q,a=C q/\(b=ai\/∃T v,b=bh T v):=by
 cases e with
 | error f=>obtain⟨d,c⟩:=g;exact⟨_,d,ao ⟨_,_,c⟩⟩
 | ok t=>obtain⟨d,T,v,c,_⟩:=g;exact⟨_,c,bg d⟩
def aMC.W4{x:Rd}(t:aMC F w r x d):aMC (λk=>F k/\RdT w k) w r x d:=by
 obtain⟨s,f,b,n,q,e,o,i,p,l,a⟩:=t;refine⟨⟨s,_,_,e,bg rfl⟩,λk t=>f k t.1,b,n,q,e,o,λk c=>⟨i k c,?_⟩,p,λk c=>⟨l k c,?_⟩,a⟩
 .rcases o.2 with⟨rfl,_⟩|⟨g,off,cap,m,rfl,j,_⟩
  .cases c
  .cases c;exact⟨_,_,j,ao (bg rfl)⟩
 .rcases p.2 with⟨rfl,_⟩|⟨g,off,cap,m,rfl,j,_⟩
  .cases c
  .cases c;exact⟨_,_,j,ao (ao rfl)⟩
def aMH.S2{w':E}{a:ag}{e:Except (Nat×Nat) Tr}(j:aMH w a b e)(f:aMB w w'):aMH w' a b e:=
 j.A0 f.A0 (λk c T d i g=>g ⟨_,_,i,by unfold TT5 at d;unfold StT;exact ao (ao (ao d))⟩)
def aMC.S2{w':E}{x:Rd}(H:aMC F w r x d)(n:aMB w w'):aMC F w' r x d:=by
 obtain⟨z,j,e,s,y,q,u,l,v,o,b⟩:=H;have f:=n.A0;refine⟨z,λk H=>a7 (j k H) n.size,e,s,y,n.block _ _ _ q (by decide),u.A0 f ?_,l,v.A0 f ?_,o,b.A0 f (λk c T t B i=>i ⟨_,_,B,by unfold TT5 at t;unfold StT;exact ao (ao (ao t))⟩)⟩
 .intro k a i;rcases u.2 with⟨rfl,_⟩|⟨g,off,cap,p,rfl,m,_⟩
  .cases a
  .cases a;exact i ⟨_,_,m,by decide⟩
 .intro k a i;rcases v.2 with⟨rfl,_⟩|⟨g,off,cap,p,rfl,m,_⟩
  .cases a
  .cases a;exact i ⟨_,_,m,by decide⟩
def aM5(w:E)(r:Nat):Nat:=match w.cell? ⟨r,7,G⟩with
 | some (Z _ n _)=>n
 | _=>0
def aMC.O6{x:Rd}(k:aMC F w r x d):aM5 w r=x.b.length:=by
 obtain⟨-,-,b,g,j,e,-,-,i,f,-⟩:=k;obtain⟨a,c,rfl⟩:=i.A8;unfold aM5;rw[show w.cell? ⟨r,7,G⟩=U (Z a x.b.length c) by rw[aA e];rfl]
def Rd.O7:∀(b:Oo){x:Rd},aMP x->aMP (x.C4 b)
 | [],x,a=>a
 | c::b,x,a=>by
  show aMP (il (x.J5 c) b);refine Rd.O7 b ?_;unfold im;split
  .exact Rd.P4 a
  .exact Rd.R5 a [c]
def Rd.M4:∀(b:Oo)(x:Rd),(x.C4 b).a=x.a+b.length
 | [],x=>rfl
 | c::b,x=>by
  show(il (x.J5 c) b).a=_;rw[Rd.M4 b]
  have:(x.J5 c).a=x.a+1:=by
   unfold im;split
   .show(x.whole).a+1=_;unfold di;split<;>rfl
   .rfl
  rw[this,cv];omega
def aMC.I7{x:Rd}{B:Nat}(c:aMC F w r x d)(b:∀k,F k->B<=k):∀k,F k/\RdT w k->B<=k/\RdT w k:=λk a=>⟨b k a.1,a.2⟩
def Rd.P5{x:Rd}(a:aMP x):(x.J6).b.length<=x.a:=by
 have:=a.b;unfold Rd.J6 di;simp only[];split
 .omega
 .simp;omega
def aN1(B:Nat)(c:List Rec->E->Prop)(r:Nat)(b:List (Except (Nat×Nat) Tr))(wr:E):Prop:=
 ∃(F:Nat->Prop)(x:Rd)(a:List Rec),aMC F wr r x D/\(∀k,F k->B<=k)/\a.map (·.a)++x.b=b/\c a wr
end
section
open Go.RowKit Go.Shelf
attribute [local go_sem] Oper.semAt_some
def aNK(n:Nat)(db rb d:Nat)(b:Oo)(a:ag)(w:E)(R:1<=d)(V:d<=512)(g0:w.heap[db]?=U (S #[d] 3 (0,0)))(g1:w.heap[rb]?=U (S #[a] 22 (0,0)))
 (m:aQ 1 5 w a b.length (b.map bZ))(hb:b.length<=1073741824):
 aOK n ae 66 #[C db,C rb] aN0 (aNo (((bp d).C4 b).J6).b) (λxs=>xs.map (·.a)=(((bp d).C4 b).J6).b) (λxs=>∃o,xs.map (·.a)++o=(((bp d).C4 b).J6).b) w:=by
 intro l a0 Jx W hW hJ z h0;have H:=(hW.block db (ei g0)).trans g0;have K:=(hW.block rb (ei g1)).trans g1;have i4:W.cell? db=U (I J d):=by rw[aA H];rfl
 have g8:W.cell? rb=U a:=by rw[aA K];rfl
 have c:aQ 1 5 W a b.length (b.map bZ):=m.A0 (F:=λk=>w.heap.size<=k) (cw _ hW) (λk p f=>absurd (m.lt p) (Nat.not_lt.2 f));refine callsIn_of_wp func66 rfl trivial ?_ rfl;simp only[ntmps66,List.size_toArray,cv,ib,Nat.reduceAdd,Nat.reduceSub,Array.replicate_succ,Array.replicate_zero,List.push_toArray,List.append_toArray,mq,li];have HN:=A (λw1=>aM1 w1 d R V);obtain⟨y,g2⟩:∃y,W.alloc (S #[d,I J 0,N O,N O,(),I J 0,I J 0,()] 159)=y:=⟨_,rfl⟩;have r:Keeps (λ_=>False) W y:=by rw[<-g2];exact(bk _ _).A5 _
 have g3:aMC (λk=>k=W.heap.size) y W.heap.size (bp d) O:=by
  subst g2;exact⟨rfl,λk e=>by subst e;simp,Z G 0 0,Z G 0 0,[],aL W _,bz _ _ _,λk f=>(by cases f),bz _ _ _,λk f=>(by cases f),λi rc f=>by simp[bp]at f⟩
 have g6:a0 [] y:=hJ [] _ _ h0 (r.mono λ_ f=>f.elim);have i3:y.cell? rb=U a:=r.B6 g8 id;have s:aMP (bp d):=⟨R,V,rfl,hU _,hU _,hU _⟩
 have t:aMD (λk=>k=W.heap.size) y a b:=by
  have j:=c.A0 (F:=λ_=>False) r (λ_ _=>id);rcases j.2 with⟨rfl,u⟩|⟨g,off,cap,B,rfl,P,hc,-,hm,hi⟩
  .exact⟨⟨G,0,by rw[u],by omega,dr _,bg (eb u)⟩,bg (by rfl)⟩
  .refine⟨⟨_,cap,rfl,hc,hm,ao ⟨g,off,rfl,λe=>?_,λi x j=>?_⟩⟩,ao ⟨g,off,_,_,rfl⟩⟩
   .have:=c.lt (k:=g) rfl;omega
   .rw[aA P];exact hi i (bZ x) (by rw[ed,j];rfl)
 have j:=aNn _ y W.heap.size (bp d) b a g3 s (by show 0+b.length<=_;omega) t;obtain⟨X,hX⟩:∃X,(bp d).C4 b=X:=⟨_,rfl⟩;have u:aMP X:=by rw[<-hX];exact Rd.O7 b s
 have g4:X.a<=1073741824:=by rw[<-hX,Rd.M4];show 0+b.length<=_;omega
 rw[hX]at j z⊢;have g5:(X.J6).b.length<=1073741824:=bo (Rd.P5 u) g4;obtain⟨Y,hY⟩:∃Y,X.J6=Y:=⟨_,rfl⟩;rw[hY]at g5 z⊢;obtain⟨-,-⟩:∃g9:Nat,g9=0:=⟨0,rfl⟩;have HF:=A j;have P:=A (λ(F:Nat->Prop) w2(h2:aMC F w2 W.heap.size X O)=>aNv F w2 W.heap.size X h2 u g4);rw[hY]at P;have g7:=A r;have h1:=A g3;have HJ:=A hJ;have h3:=A g6;have h4:=A g5;have B:=A z;have h5:=A g2;obtain⟨⟨ra,rc,h6,_⟩,_⟩:=t;subst h6;clear R V g0 g1 m hb hW hJ z h0 H K c r g3 g6 s j hX u g4 hY g5;gi_wp2_with fail;refine⟨trivial,λf=>(by cases f),?_⟩;refine(dw.2 (HN.o _)).mono ?_;rintro e w1 ⟨rfl,rfl⟩;rw[h5.o];gi_wp2_with fail;refine⟨trivial,λf=>(by cases f),?_⟩;refine(dw.2 (HF.o)).mono ?_;rintro e w2 ⟨rfl,j,m⟩;have r:∀k,Since (λk=>k=W.heap.size) y w2 k->W.heap.size<=k:=λk p=>p.elim (λe=>by omega) (λf=>bo g7.o.size f.1);have s:a0 [] w2:=HJ.o [] _ _ h3.o (j.mono λk e=>⟨by omega,by subst e;exact⟨_,_,h1.o.2.2.choose_spec.choose_spec.choose_spec.1,bg rfl⟩⟩);have c:=m.W4;have h7:=A (P.o _ w2 c);have g0:=A r;have h8:=A (bo g7.o.size j.size);have h9:=A s;clear j m r s c;gi_wp2_with fail;refine⟨trivial,λf=>(by cases f),?_⟩;refine(dw.2 (h7.o)).mono ?_;rintro e w3 ⟨rfl,c,m⟩;have r:a0 [] w3:=HJ.o [] _ _ h9.o (c.mono λk p=>⟨g0.o k p.1,p.2⟩);have s:∀k,Since (λk=>Since (λk=>k=W.heap.size) y w2 k/\RdT w2 k) w2 w3 k->W.heap.size<=k:=λk p=>p.elim (λf=>g0.o k f.1) (λf=>bo h8.o f.1);have j:=A (show aN1 W.heap.size a0 W.heap.size Y.b w3 from⟨_,Y,[],m,s,rfl,r⟩);clear c m r s;gi_wp2_with fail;gi_loopw [] (λwr=>M (aN1 W.heap.size a0 W.heap.size Y.b wr)) (λwr=>aM5 wr W.heap.size)
 case atStart=>exact j
 case round=>
  obtain⟨F,x,r,s,g1,c,z⟩:=hrel.o;clear hrel j
  have i0:x.b.length<=1073741824:=by
   have:=congrArg List.length c;rw[cn,kt]at this;have:=h4.o;omega
  have H:=A s;have j:=A c;cases m:x.b with
  | nil=>
   have K:=A (aNe F wr W.heap.size x D s m);have u:=A m;have R:=A z;clear s c m z;gi_wp2_with fail;refine⟨trivial,λf=>(by cases f),?_⟩;refine(dw.2 (K.o)).mono ?_;rintro e w4 ⟨rfl,rfl⟩;gi_wp2_with fail;refine⟨λ_ f=>(by cases f),?_⟩;gi_wp2_with fail;refine bb (md rfl _ _ _) rfl ?_;exact⟨⟨_,rfl⟩,bg ⟨r,by have:=j.o;rw[u.o,List.append_nil]at this;exact this,R.o⟩⟩
  | cons V o=>
   have K:=A (aNd _ wr W.heap.size x V o D s.W4 m i0);have u:=A m
   have g3:Y.b[r.length]?=U V:=by
    rw[<-c,m,List.getElem?_append_right (by simp)];simp
   have g4:=A g3;have R:=A z;have g5:=A g1;clear s c m z g3 g1;gi_wp2_with fail;refine⟨trivial,λf=>(by cases f),?_⟩;refine(dw.2 (K.o)).mono ?_;rintro e w4 ⟨qa,b,rfl,m,s,z⟩;obtain⟨q,rfl,i1⟩:=m.A8;have g1:a0 r w4:=HJ.o r _ _ R.o (s.mono λk p=>⟨g5.o k p.1,p.2⟩);have c:W.heap.size<=wr.heap.size:=Nat.le_of_lt (H.o.2.1 _ H.o.1);have g3:∀k,Since (λk=>F k/\RdT wr k) wr w4 k->W.heap.size<=k:=λk p=>p.elim (λf=>g5.o k f.1) (λf=>bo c f.1);clear c;obtain⟨fn,c,assign,body,hy,hR⟩:=B.o r ⟨q,b,V⟩ w4 g1 ⟨g4.o,m⟩;have i5:(Instr.yield l #[C q,b]).run ae w4=.ok (.round l fn c assign body) w4:=hy;have HR:=A hR;have g6:=A z;have i2:=A g3;clear s z m g1 g3 hy hR;rcases i1 with rfl|⟨T,v,rfl⟩
   all_goals
    gi_wp2_with fail;refine⟨λf=>(by cases f),?_⟩;refine(HR.o).mono ?_;rintro e w5 (⟨rfl,m,s⟩|⟨rfl,z⟩);rotate_left
    .have g1:=A z;clear z;gi_wp2_with fail;refine bb (md rfl _ _ _) rfl ?_;exact⟨⟨_,rfl⟩,ao ⟨_,⟨o,by rw[kr,kd,<-j.o,u.o];rfl⟩,g1.o⟩⟩
    have g3:=A m;have g1:=A s;clear m s;gi_wp2_with fail;go_roundw
    case rel=>exact A ⟨_,_,_,g6.o.S2 g1.o,i2.o,by rw[kr,kd,<-j.o,u.o];rfl,g3.o⟩
    case measure=>
     rw[(g6.o.S2 g1.o).O6,H.o.O6,u.o];simp
end
def aC2(w:E)(s:ByteArray)(b:Nat)(hs:s.size<=2147483648)(he:b+1<s.size)(c:s[b+1]=117)(F:∀n,cX O 4 0 (s.data.toList.drop (b+2))≠ct n):ah ae 155 #[s,b] w λe w'=>
 e=av (gP b (jG (s.data.toList.drop (b+1))))/\ar w w w':=by
 obtain⟨p,u⟩:∃p,b+1=p:=⟨_,rfl⟩;have c:s[p]'(by omega)=117:=by subst u;exact c
 have H:p<s.size:=by omega
 have q1:J.wrap ((b:Int)+1)=(p:Int):=by rw[b9];omega
 have q2:¬(s.size:Int)<=(p:Int):=by omega
 have q3:(p:Int)<(s.size:Int):=by omega
 have q4:J.wrap ((b:Int)+2)=((b+2:Nat):Int):=by rw[b9];omega
 have y:=A (λW=>pJ W s (b+2) O (by omega) hs);rw[u,bA H,jG,pz c,show p+1=b+2 by omega];have e1:(((s[p].toNat:Nat):Int)!=117)=O:=by rw[c];rfl
 have i:(w.alloc (S #["",I J 0,I J 0,I J 0,N O] 200)).heap[w.heap.size]?=U (S #["",I J 0,I J 0,I J 0,N O] 200 (0,0)):=aL w _;have j:=(dk w w).alloc (hU _) (S #["",I J 0,I J 0,I J 0,N O] 200);clear c;cases f:cX O 4 0 (s.data.toList.drop (b+2))with
 | ok n=>exact absurd f (F n)
 | cut=>
  rw[f,kE]at y;clear f F u;go_enter ep,et;go_wp2_with fail;refine(y.o _).mono ?_;rintro e k ⟨rfl,c⟩;have d:=(dk k k).alloc (hU _) (S #["",I J 0,I J 0,I J 0,N D] 200);have z:=A (keep (keep i c) d);have B:=A (chain (chain j c) d);obtain⟨T,c1,c2,V,X,Y⟩:=cells5 (keep (keep i c) d);clear c d i j;go_wp2;obtain⟨P,l⟩:=aS (L ⟨#[]⟩) (I J 0) (I J 0) (I J 0) (N D) z.o B.o (hU _);have g:=A l;obtain⟨m,o,q,r,t,_⟩:=cells5 P;exact bb (v:=ac #["",I J 0,I J 0,I J 0,N D]) (by simp[af,bu,go_sem,m,o,q,r,t]) rfl ⟨by rfl,g.o⟩
 | bad no a=>
  have K:=oH f;obtain⟨x,R⟩:∃x,b+2+a=x:=⟨_,rfl⟩;rw[f,kE,R]at y;have HX:=A R;clear f F u R;rcases K with rfl|rfl
  all_goals
   go_enter ep,et;go_wp2_with fail;refine(y.o _).mono ?_;rintro e k ⟨rfl,c⟩;have d:=λno=>(dk k k).alloc (hU _) (S #["",I J 0,I J no,I J (x:Int),N O] 200);have z:=A (λno=>keep (keep i c) (d no));have B:=A (λno=>chain (chain j c) (d no));first
   | (obtain ⟨T, c1, c2, V, X, Y⟩ := cells5 (keep (keep i c) (d 92))
      clear c d i j;go_wp2;obtain⟨P,l⟩:=aS (L ⟨#[]⟩) (I J 0) (I J 92) (I J (x:Int)) (N O) (z.o 92) (B.o 92) (hU _);have g:=A l;obtain⟨m,o,q,r,t,_⟩:=cells5 P;exact bb (v:=ac #["",I J 0,I J 92,I J (x:Int),N O]) (by simp[af,bu,go_sem,m,o,q,r,t]) rfl ⟨by rw[<-HX.o,fo];rfl,g.o⟩)
   | (obtain ⟨T, c1, c2, V, X, Y⟩ := cells5 (keep (keep i c) (d 93))
      clear c d i j;go_wp2;obtain⟨P,l⟩:=aS (L ⟨#[]⟩) (I J 0) (I J 93) (I J (x:Int)) (N O) (z.o 93) (B.o 93) (hU _);have g:=A l;obtain⟨m,o,q,r,t,_⟩:=cells5 P;exact bb (v:=ac #["",I J 0,I J 93,I J (x:Int),N O]) (by simp[af,bu,go_sem,m,o,q,r,t]) rfl ⟨by rw[<-HX.o,fo];rfl,g.o⟩)
def aJM(w:E)(s:ByteArray)(a n:Nat)(q:s.size<=2147483648)(z:a+1<s.size)(c:s[a+1]=117)(b:cX O 4 0 (s.data.toList.drop (a+2))=ct n)(f:n<55296\/56319<n):ah ae 155 #[s,a] w λe w'=>
 e=av (gP a (jG (s.data.toList.drop (a+1))))/\ar w w w':=by
 obtain⟨p,d⟩:∃p,a+1=p:=⟨_,rfl⟩;have c:s[p]'(by omega)=117:=by subst d;exact c
 have g:p<s.size:=by omega
 have B:J.wrap ((a:Int)+1)=(p:Int):=by rw[b9];omega
 have F:¬(s.size:Int)<=(p:Int):=by omega
 have H:(p:Int)<(s.size:Int):=by omega
 have K:J.wrap ((a:Int)+2)=((a+2:Nat):Int):=by rw[b9];omega
 have k:=A (λW=>pJ W s (a+2) O (by omega) q);rw[d,bA g,jG,pz c,show p+1=a+2 by omega];have R:(((s[p].toNat:Nat):Int)!=117)=O:=by rw[c];rfl
 obtain⟨o,j,_⟩:=vB b;have r:=A (λW=>vA W n (by omega) (by have:=j rfl;omega));have T:ir.wrap (n:Int)=(n:Int):=by rw[og];omega
 have l:(w.alloc (S #["",I J 0,I J 0,I J 0,N O] 200)).heap[w.heap.size]?=U (S #["",I J 0,I J 0,I J 0,N O] 200 (0,0)):=aL w _;have m:=(dk w w).alloc (hU _) (S #["",I J 0,I J 0,I J 0,N O] 200);rw[b,kE]at k;rw[b,bs,pz f];have i:(n:Int)<55296\/(¬(n:Int)<55296/\(56319:Int)<(n:Int)):=by omega
 clear c b d o j f;rcases i with f|⟨f,t⟩
 all_goals
  go_enter ep,et;go_wp2_with fail;refine(k.o _).mono ?_;rintro e o ⟨rfl,b⟩;have c:=(dk o o).alloc (hU _) (S #["",I J 0,I J 0,I J 0,N O] 200);have j:=keep (keep l b) c;have d:=chain (chain m b) c;clear b c l m;go_wp2_with fail;refine(r.o _).mono ?_;rintro e V ⟨rfl,b⟩;have c:=A (keep j b);have l:=A (chain d b);obtain⟨X,c1,c2,Y,c4,cf⟩:=cells5 (keep j b);clear b j d;go_wp2;obtain⟨P,d⟩:=aS (L ⟨(aT n).toArray⟩) (I J 6) (I J 0) (I J 0) (N O) c.o l.o (hU _);have b:=A d;obtain⟨j,m,u,x,y,_⟩:=cells5 P;exact bb (v:=ac #[L ⟨(aT n).toArray⟩,I J 6,I J 0,I J 0,N O]) (by simp[af,bu,go_sem,j,m,u,x,y]) rfl ⟨by rfl,b.o⟩
def aDI(s:ByteArray):(s !=s)=O:=by
 rcases s with⟨d⟩;show(!(d==d))=O;simp
def aJN(w:E)(s:ByteArray)(c n:Nat)(hs:s.size<=2147483648)(he:c+1<s.size)(d:s[c+1]=117)(b:cX O 4 0 (s.data.toList.drop (c+2))=ct n)(g:55296<=n/\n<=56319):ah ae 155 #[s,c] w λe w'=>
 e=av (gP c (jG (s.data.toList.drop (c+1))))/\ar w w w':=by
 obtain⟨p,f⟩:∃p,c+1=p:=⟨_,rfl⟩;have d:s[p]'(by omega)=117:=by subst f;exact d
 have i5:p<s.size:=by omega
 have q1:J.wrap ((c:Int)+1)=(p:Int):=by rw[b9];omega
 have q2:¬(s.size:Int)<=(p:Int):=by omega
 have q3:(p:Int)<(s.size:Int):=by omega
 have q4:J.wrap ((c:Int)+2)=((c+2:Nat):Int):=by rw[b9];omega
 have HF:=A (λW=>pJ W s (c+2) O (by omega) hs);rw[f,bA i5,jG,pz d,show p+1=c+2 by omega];have e1:(((s[p].toNat:Nat):Int)!=117)=O:=by rw[d];rfl
 have i:(w.alloc (S #["",I J 0,I J 0,I J 0,N O] 200)).heap[w.heap.size]?=U (S #["",I J 0,I J 0,I J 0,N O] 200 (0,0)):=aL w _;have j:=(dk w w).alloc (hU _) (S #["",I J 0,I J 0,I J 0,N O] 200);rw[b,kE]at HF;rw[b,bs,py,lr,show c+2+4=c+6 by omega];have i6:¬(n:Int)<55296:=by omega
 have i7:¬(56319:Int)<(n:Int):=by omega
 have HN:=A g;have HA:=A he;clear d b f g;obtain⟨r,b⟩:∃r,c+6=r:=⟨_,rfl⟩;have H:J.wrap ((c:Int)+6)=(r:Int):=by have:=HA.o;rw[b9];omega
 have K:J.wrap (r:Int)=(r:Int):=by have:=HA.o;rw[b9];omega
 have F:J.wrap ((r:Int)+1)=((r+1:Nat):Int):=by have:=HA.o;rw[b9];omega
 rw[b];have HR:=A b;clear b;obtain⟨R,d⟩:∃R,qN n (s.data.toList.drop r)=R:=⟨_,rfl⟩;rw[d];go_enter ep,et;go_wp2_with fail;refine(HF.o _).mono ?_;rintro e w3 ⟨rfl,b⟩;have f:=(dk w3 w3).alloc (hU _) (S #["",I J 0,I J 0,I J 0,N O] 200);have g8:=A (keep (keep i b) f);have i3:=A (chain (chain j b) f);clear b f i j;go_wp2_with fail;generalize w3.alloc (S #["",I J 0,I J 0,I J 0,N O] 200)=w4 at*;have i:=A (λq=>show(w4.drewN q).heap[w.heap.size]?=U (S #["",I J 0,I J 0,I J 0,N O] 200 (0,0))from g8.o);have j:=A (λq=>show ar w w (w4.drewN q)from i3.o.trans ⟨rfl,rfl,rfl,hU _,λ_ _=>rfl⟩);refine wp_loop_rounds 3 ?_;by_cases h6:r<s.size
 .have a1:¬(s.size:Int)<=(r:Int):=by omega
  have a2:(r:Int)<(s.size:Int):=by omega
  have p0:(((⟨#[92,117]⟩:ByteArray)[0].toNat:Nat):Int)=92:=rfl;have p1:(((⟨#[92,117]⟩:ByteArray)[1].toNat:Nat):Int)=117:=rfl;rw[bA h6]at d;simp only[qN]at d;by_cases T:s[r]=92
  .have e2:(((s[r].toNat:Nat):Int)!=92)=O:=(by rw[T];rfl);rw[pz T]at d;obtain⟨q,b⟩:∃q,r+1=q:=⟨_,rfl⟩;rw[b]at d F;have HQ:=A b;clear T b;rw[bw];go_wp2;go_quiet (fail);go_wp2_with fail;by_cases h7:q<s.size
   .have a3:¬(s.size:Int)<=(q:Int):=(by omega);have a4:(q:Int)<(s.size:Int):=(by omega);rw[bA h7]at d;simp only at d;by_cases k:s[q]=117
    .have e3:(((s[q].toNat:Nat):Int)!=117)=O:=(by rw[k];rfl);obtain⟨t,b⟩:∃t,c+8=t:=⟨_,rfl⟩;have t1:J.wrap ((c:Int)+8)=(t:Int):=(by have:=HA.o;rw[b9];omega);have l:=A (λW=>pJ W s t D (by have:=HA.o;omega) hs);rw[pz k,show q+1=t by have:=HQ.o;have:=HR.o;omega]at d;have HT:=A b;clear k b;cases B:cX D 4 0 (s.data.toList.drop t)with
     | cut=>
      rw[B]at l d;rw[kE]at l;have d:eu=R:=d;subst d;clear B;rw[bw];go_wp2;go_quiet (fail);go_wp2_with fail;rw[bw];go_wp2_with fail;refine(l.o _).mono ?_;rintro e w5 ⟨rfl,b⟩;have f:=(dk w5 w5).alloc (hU _) (S #["",I J 0,I J 0,I J 0,N D] 200);have K7:=A (keep (keep (i.o _) b) f);have KB:=A (chain (chain (j.o _) b) f);obtain⟨c0,c1,c2,c3,c4,cf⟩:=cells5 (keep (keep (i.o _) b) f);clear b f;go_wp2;obtain⟨P,V⟩:=aS (L ⟨#[]⟩) (I J 0) (I J 0) (I J 0) (N D) K7.o KB.o (hU _);have g:=A V;obtain⟨X,H,K,F,Y,_⟩:=cells5 P;exact bb (v:=ac #["",I J 0,I J 0,I J 0,N D]) (by simp[af,bu,go_sem,X,H,K,F,Y]) rfl ⟨rfl,g.o⟩
     | bad no a=>
      have i4:=oH B;have hz:((no:Int)!=0)=D:=(by rcases i4 with rfl|rfl<;>rfl);rw[B]at l d;obtain⟨x,hx⟩:∃x,t+a=x:=⟨_,rfl⟩;rw[kE,hx]at l;have d:cj no (8+a)=R:=d;subst d;have HX:=A hx;clear B i4 hx;rw[bw];go_wp2;go_quiet (fail);go_wp2_with fail;rw[bw];go_wp2_with fail;refine(l.o _).mono ?_;rintro e w5 ⟨rfl,b⟩;have f:=(dk w5 w5).alloc (hU _) (S #["",I J 0,no,I J (x:Int),N O] 200);have K7:=A (keep (keep (i.o _) b) f);have KB:=A (chain (chain (j.o _) b) f);obtain⟨c0,c1,c2,c3,c4,cf⟩:=cells5 (keep (keep (i.o _) b) f);clear b f;go_wp2;obtain⟨P,V⟩:=aS (L ⟨#[]⟩) (I J 0) (I J no) (I J (x:Int)) (N O) K7.o KB.o (hU _);have g:=A V;obtain⟨X,H,K,F,Y,_⟩:=cells5 P;exact bb (v:=ac #["",I J 0,no,I J (x:Int),N O]) (by simp[af,bu,go_sem,X,H,K,F,Y]) rfl ⟨by rw[<-HX.o,<-HT.o,fo];rfl,g.o⟩
     | ok m=>
      obtain⟨m1,_,m2⟩:=vB B;have m2:=m2 rfl;rw[B]at l d;rw[kE]at l;obtain⟨v,hv⟩:∃v,65536+(n-55296)*1024+m-56320=v:=⟨_,rfl⟩;have d:ct (aT (65536+(n-55296)*1024+m-56320),12)=R:=d;rw[hv]at d;subst d;obtain⟨y,hy⟩:∃y,n-55296=y:=⟨_,rfl⟩;have f1:J.wrap ((n:Int)-55296)=(y:Int):=(by have:=HN.o;rw[b9];omega);have i4:y<=1023:=(by have:=HN.o;omega);rw[hy]at hv;have f2:J.wrap ((y:Int)*1024)=((y*1024:Nat):Int):=(by rw[b9];omega);obtain⟨z,hz⟩:∃z,y*1024=z:=⟨_,rfl⟩;rw[hz]at f2 hv;have f3:J.wrap (65536+(z:Int))=((65536+z:Nat):Int):=(by rw[b9];omega);obtain⟨u,hu⟩:∃u,65536+z=u:=⟨_,rfl⟩;rw[hu]at f3 hv;have f4:J.wrap ((u:Int)+(m:Int))=((u+m:Nat):Int):=(by rw[b9];omega);obtain⟨o,ho⟩:∃o,u+m=o:=⟨_,rfl⟩;rw[ho]at f4 hv;have f5:J.wrap ((o:Int)-56320)=(v:Int):=(by rw[b9];omega);have f6:ir.wrap (v:Int)=(v:Int):=(by rw[og];omega);have HE:=A (λW=>vA W v (by omega) (by omega));clear B m1 m2 hv hy i4 hz hu ho;rw[bw];go_wp2;go_quiet (fail);go_wp2_with fail;rw[bw];go_wp2_with fail;refine(l.o _).mono ?_;rintro e w5 ⟨rfl,b⟩;have f:=(dk w5 w5).alloc (hU _) (S #["",I J 0,I J 0,I J 0,N O] 200);have g9:=A (keep (keep (i.o _) b) f);have B:=A (chain (chain (j.o _) b) f);clear b f;go_wp2_with fail;refine(HE.o _).mono ?_;rintro e w6 ⟨rfl,f⟩;have K7:=A (keep g9.o f);have KB:=A (chain B.o f);obtain⟨c0,c1,c2,c3,c4,cf⟩:=cells5 (keep g9.o f);clear f;go_wp2;obtain⟨P,V⟩:=aS (L ⟨(aT v).toArray⟩) (I J 12) (I J 0) (I J 0) (N O) K7.o KB.o (hU _);have g:=A V;obtain⟨X,H,K,F,Y,_⟩:=cells5 P;exact bb (v:=ac #[L ⟨(aT v).toArray⟩,I J 12,I J 0,I J 0,N O]) (by simp[af,bu,go_sem,X,H,K,F,Y]) rfl ⟨rfl,g.o⟩
    .have e3:(((s[q].toNat:Nat):Int)!=117)=D:=by
      have:s[q].toNat≠117:=λe=>k (kb e);simp;omega
     rw[py k]at d;subst d;clear k;have f:M (∀W:E,ah ae 156 #[I J 93,I J q] W λe w'=>e=av (ac #["",I J 0,I J 93,I J (q:Int),N O])/\ar W.heap.size W w'):=λW=>mA W 93 q;rw[bw];go_wp2;go_quiet (fail);go_wp2_with fail;refine(f.o _).mono ?_;rintro e w5 ⟨rfl,b⟩;have K7:=A (keep (i.o _) b);have KB:=A (chain (j.o _) b);obtain⟨c0,c1,c2,c3,c4,cf⟩:=cells5 (keep (i.o _) b);clear b;go_wp2;obtain⟨P,V⟩:=aS (L ⟨#[]⟩) (I J 0) (I J 93) (I J (q:Int)) (N O) K7.o KB.o (hU _);have g:=A V;obtain⟨X,H,K,F,Y,_⟩:=cells5 P;exact bb (v:=ac #["",I J 0,I J 93,I J (q:Int),N O]) (by simp[af,bu,go_sem,X,H,K,F,Y]) rfl ⟨by rw[<-HQ.o,<-HR.o];rfl,g.o⟩
   .have a3:(s.size:Int)<=(q:Int):=(by omega);rw[cY h7]at d;have d:eu=R:=d;subst d;clear h7;obtain⟨c0,c1,c2,c3,c4,cf⟩:=cells5 g8.o;rw[bw];go_wp2;obtain⟨P,V⟩:=aS (L ⟨#[]⟩) (I J 0) (I J 0) (I J 0) (N D) (i.o _) (j.o _) (hU _);have g:=A V;obtain⟨X,H,K,F,Y,_⟩:=cells5 P;exact bb (v:=ac #["",I J 0,I J 0,I J 0,N D]) (by simp[af,bu,go_sem,X,H,K,F,Y]) rfl ⟨rfl,g.o⟩
  .have e2:(((s[r].toNat:Nat):Int)!=92)=D:=by
    have:s[r].toNat≠92:=λe=>T (kb e);simp;omega
   rw[py T]at d;subst d;clear T;have f:M (∀W:E,ah ae 156 #[I J 93,I J r] W λe w'=>e=av (ac #["",I J 0,I J 93,I J (r:Int),N O])/\ar W.heap.size W w'):=λW=>mA W 93 r;rw[bw];go_wp2;go_quiet (fail);go_wp2_with fail;refine(f.o _).mono ?_;rintro e w5 ⟨rfl,b⟩;have K7:=A (keep (i.o _) b);have KB:=A (chain (j.o _) b);obtain⟨c0,c1,c2,c3,c4,cf⟩:=cells5 (keep (i.o _) b);clear b;go_wp2;obtain⟨P,V⟩:=aS (L ⟨#[]⟩) (I J 0) (I J 93) (I J (r:Int)) (N O) (K7.o) (KB.o) (hU _);have g:=A V;obtain⟨X,H,K,F,Y,_⟩:=cells5 P;exact bb (v:=ac #["",I J 0,I J 93,I J (r:Int),N O]) (by simp[af,bu,go_sem,X,H,K,F,Y]) rfl ⟨by rw[<-HR.o];rfl,g.o⟩
 .have a1:(s.size:Int)<=(r:Int):=by omega
  rw[cY h6,qN]at d;subst d;clear h6;obtain⟨c0,c1,c2,c3,c4,cf⟩:=cells5 g8.o;rw[bw];go_wp2;obtain⟨P,V⟩:=aS (L ⟨#[]⟩) (I J 0) (I J 0) (I J 0) (N D) g8.o i3.o (hU _);have g:=A V;obtain⟨X,H,K,F,Y,_⟩:=cells5 P;exact bb (v:=ac #["",I J 0,I J 0,I J 0,N D]) (by simp[af,bu,go_sem,X,H,K,F,Y]) rfl ⟨rfl,g.o⟩
def aJO(w:E)(s:ByteArray)(b:Nat)(i:b<s.size)(d:s.size<=2147483648):ah ae 155 #[s,b] w λe w'=>
 e=av (gP b (jG (s.data.toList.drop (b+1))))/\ar w w w':=by
 by_cases c:b+1<s.size
 .by_cases f:s[b+1]=117
  .cases g:cX O 4 0 (s.data.toList.drop (b+2))with
   | ok n=>
    by_cases j:n<55296\/56319<n
    .exact aJM w s b n d c f g j
    .exact aJN w s b n d c f g (by omega)
   | cut=>exact aC2 w s b d c f (by rw[g];intro n k;cases k)
   | bad no a=>exact aC2 w s b d c f (by rw[g];intro n k;cases k)
  .exact aJL w s b d c f
 .exact aJK w s b i d c
def aC3{f:Form}:∀{m i no a:Nat}{l:Oo},cJ f m i l=cj no a->no=90
 | 0,_,_,_,l,d=>by rw[cJ]at d;cases d
 | m+1,_,_,_,[],d=>by rw[cJ]at d;cases d
 | m+1,i,no,a,c::l,d=>by
  rw[cJ]at d;split at d
  .exact aC3 d
  .injection d with b h2;exact b.symm
def aC4(d:eC l=cj no a):no=90:=by
 cases l with
 | nil=>cases d
 | cons c t=>
  rw[eC]at d;split at d
  .injection d with b h2;exact b.symm
  .exact aC3 d
def kJ{s:ByteArray}{i n:Nat}:s.extract i (i+n)=⟨((s.data.toList.drop i).take n).toArray⟩:=by
 apply iy;apply Array.ext';simp
def aC5(i:Nat)(R:Pc (Oo×Nat)):∃u a b c d,gP i R=ac #[L u,I J a,I J b,I J c,N d]:=by cases R<;>exact⟨_,_,_,_,_,rfl⟩
def aE1(w:E)(s:ByteArray)(i:Nat)(hi:i<s.size)(hs:s.size<=2147483648):ah ae 118 #[s,i] w λe w'=>
 e=av (gP i (eX (s.data.toList.drop i)))/\ar w w w':=by
 have i1:(i:Int)<(s.size:Int):=by omega
 have j:(w.alloc (S #["",I J 0,I J 0,I J 0,N O] 200)).heap[w.heap.size]?=U (S #["",I J 0,I J 0,I J 0,N O] 200 (0,0)):=aL w _;have F:=(dk w w).alloc (hU _) (S #["",I J 0,I J 0,I J 0,N O] 200);have HE:=A (λW=>aJO W s i hi hs);have H:=A (λW=>aBE W s i hi hs);have f:eX (s.data.toList.drop i)=if s[i]=92 then jG (s.data.toList.drop (i+1))else if s[i].toNat<32 then cj 91 0 else(eC (s.data.toList.drop i)).M6 0 λn=>ct ((s.data.toList.drop i).take n,n):=by rw[bA hi,eX]
 rw[f];clear f;by_cases k:s[i]=92
 .have e1:(((s[i].toNat:Nat):Int)==92)=D:=by rw[k];rfl
  rw[pz k];clear k;obtain⟨R,l⟩:∃R,jG (s.data.toList.drop (i+1))=R:=⟨_,rfl⟩;rw[l]at HE⊢;obtain⟨u,a,b,c,d,f⟩:=aC5 i R;rw[f]at HE⊢;clear l f;go_enter dx,dy;go_wp2_with fail;refine(HE.o _).mono ?_;rintro e T ⟨rfl,f⟩;have m:=A (keep j f);have o:=A (chain F f);obtain⟨V,c1,c2,X,Y,cf⟩:=cells5 (keep j f);clear f j F;go_wp2;obtain⟨P,p⟩:=aS (L u) (I J a) (I J b) (I J c) (N d) m.o o.o (hU _);have g:=A p;obtain⟨r,t,y,z,B,_⟩:=cells5 P;exact bb (v:=ac #[u,a,b,c,d]) (by simp[af,ee,go_sem,r,t,y,z,B]) rfl ⟨rfl,g.o⟩
 .have e1:(((s[i].toNat:Nat):Int)==92)=O:=by
   have:s[i].toNat≠92:=λe=>k (kb e);simp;omega
  rw[py k];clear k;by_cases k:s[i].toNat<32
  .have e2:((s[i].toNat:Nat):Int)<32:=(by omega);rw[pz k];clear k;have K:M (∀W:E,ah ae 156 #[I J 91,i] W λe w'=>e=av (ac #["",I J 0,I J 91,i,N O])/\ar W.heap.size W w'):=λW=>mA W 91 i;go_enter dx,dy;go_wp2_with fail;refine(K.o _).mono ?_;rintro e T ⟨rfl,f⟩;have m:=A (keep j f);have o:=A (chain F f);obtain⟨V,c1,c2,X,Y,cf⟩:=cells5 (keep j f);clear f j F;go_wp2;obtain⟨P,p⟩:=aS (L ⟨#[]⟩) (I J 0) (I J 91) (I J i) (N O) m.o o.o (hU _);have g:=A p;obtain⟨r,t,y,z,B,_⟩:=cells5 P;exact bb (v:=ac #["",I J 0,I J 91,i,N O]) (by simp[af,ee,go_sem,r,t,y,z,B]) rfl ⟨rfl,g.o⟩
  .have e2:¬((s[i].toNat:Nat):Int)<32:=(by omega);rw[py k];clear k;cases l:eC (s.data.toList.drop i)with
   | cut=>
    rw[l,aCY]at H;clear l;obtain⟨V,c1,c2,X,Y,cf⟩:=cells5 j;have m:=A j;have o:=A F;go_enter dx,dy;go_wp2_with fail;generalize w.alloc (S #["",I J 0,I J 0,I J 0,N O] 200)=w1 at*;refine(H.o _).mono ?_;rintro e T ⟨rfl,rfl⟩;go_wp2;obtain⟨P,p⟩:=aS (L ⟨#[]⟩) (I J 0) (I J 0) (I J 0) (N D) m.o o.o (hU _);have g:=A p;obtain⟨r,t,y,z,B,_⟩:=cells5 P;exact bb (v:=ac #["",I J 0,I J 0,I J 0,N D]) (by simp[af,ee,go_sem,r,t,y,z,B]) rfl ⟨rfl,g.o⟩
   | bad no a=>
    rw[l,aCY]at H;obtain rfl:=aC4 l;obtain⟨x,f⟩:∃x,i+a=x:=⟨_,rfl⟩;rw[show(i:Int)+(a:Int)=(x:Int) by omega]at H;have k:=A f;have K:M (∀W:E,ah ae 156 #[I J 90,I J x] W λe w'=>e=av (ac #["",I J 0,I J 90,I J (x:Int),N O])/\ar W.heap.size W w'):=λW=>mA W 90 x;clear l f;go_enter dx,dy;go_wp2_with fail;refine(H.o _).mono ?_;rintro e T ⟨rfl,rfl⟩;go_wp2_with fail;refine(K.o _).mono ?_;rintro e w4 ⟨rfl,f⟩;have m:=A (keep j f);have o:=A (chain F f);obtain⟨V,c1,c2,X,Y,cf⟩:=cells5 (keep j f);clear f j F;go_wp2;obtain⟨P,p⟩:=aS (L ⟨#[]⟩) (I J 0) (I J 90) (I J (x:Int)) (N O) m.o o.o (hU _);have g:=A p;obtain⟨r,t,y,z,B,_⟩:=cells5 P;exact bb (v:=ac #["",I J 0,I J 90,I J (x:Int),N O]) (by simp[af,ee,go_sem,r,t,y,z,B]) rfl ⟨by rw[<-k.o];simp[gP,bs],g.o⟩
   | ok n=>
    rw[l,aCY]at H;obtain⟨q,f⟩:∃q,i+n=q:=⟨_,rfl⟩;have K:=(aGI hi l).2;have q1:J.wrap ((i:Int)+(n:Int))=(q:Int):=(by rw[b9];omega);have q2:(i:Int)<=(q:Int):=(by omega);have q3:(q:Int)<=(s.size:Int):=(by omega);have k:=A (show s.extract i q=⟨((s.data.toList.drop i).take n).toArray⟩ by rw[<-f];exact kJ);clear l f K;obtain⟨V,c1,c2,X,Y,cf⟩:=cells5 j;have m:=A j;have o:=A F;go_enter dx,dy;go_wp2_with fail;generalize w.alloc (S #["",I J 0,I J 0,I J 0,N O] 200)=w1 at*;refine(H.o _).mono ?_;rintro e T ⟨rfl,rfl⟩;go_wp2;obtain⟨P,p⟩:=aS (L (s.extract i q)) (I J (n:Int)) (I J 0) (I J 0) (N O) m.o o.o (hU _);have g:=A p;obtain⟨r,t,y,z,B,_⟩:=cells5 P;exact bb (v:=ac #[L (s.extract i q),I J (n:Int),I J 0,I J 0,N O]) (by simp[af,ee,go_sem,r,t,y,z,B]) rfl ⟨by rw[k.o];rfl,g.o⟩
def aDe(b:Nat):Pc (List UInt8×Nat)->ag
 | .cut=>aj #["",I J 0,ac #["",I J 0,I J 0,I J 0,N D]]
 | .bad no a=>aj #["",I J 0,ac #["",I J 0,no,I J ((b+a:Nat):Int),N O]]
 | .ok x=>aj #[L ⟨x.1.toArray⟩,I J ((b+x.2:Nat):Int),ac #["",I J 0,I J 0,I J 0,N O]]
def aLh(i:jG l=cj no a):no=92\/no=93:=by
 unfold jG at i;cases l with
 | nil=>cases i
 | cons c t=>
  simp only at i;split at i
  .cases g:cX O 4 0 t with
   | cut=>rw[g]at i;cases i
   | bad n b=>
    rw[g,bs]at i;injection i with e h2;subst e;exact oH g
   | ok n=>
    rw[g,bs]at i;split at i
    .cases i
    .unfold qN at i;split at i
     .cases i
     .split at i
      .split at i
       .cases i
       .rename_i d u _;split at i
        .cases f:cX D 4 0 u with
         | cut=>rw[f]at i;cases i
         | bad m b=>
          rw[f,bs]at i;injection i with e h2;subst e;exact oH f
         | ok m=>rw[f,bs]at i;cases i
        .injection i with e;exact ao e.symm
      .injection i with e;exact ao e.symm
  .split at i
   .injection i with e;exact bg e.symm
   .cases i
def aAY(f:eX l=cj no a):no≠0:=by
 unfold eX at f;cases l with
 | nil=>cases f
 | cons c t=>
  simp only at f;split at f
  .rcases aLh f with rfl|rfl<;>decide
  .split at f
   .injection f with e;omega
   .cases d:eC (c::t)with
    | cut=>rw[d]at f;cases f
    | bad n b=>
     rw[d,bs]at f;injection f with e h2;rw[<-e,aC4 d];decide
    | ok n=>rw[d,bs]at f;cases f
def aLi{x:Oo×Nat}(q:jG l=ct x):2<=x.2/\x.2<=l.length+1/\x.1.length<=x.2:=by
 unfold jG at q;cases l with
 | nil=>cases q
 | cons c t=>
  simp only at q;split at q
  .cases f:cX O 4 0 t with
   | cut=>rw[f]at q;cases q
   | bad n b=>rw[f]at q;cases q
   | ok n=>
    have o:=oL f;rw[f,bs]at q;split at q
    .injection q with e;subst e;have:=(fS n).2.1;simp only[cv];omega
    .unfold qN at q;have g:(t.drop 4).length=t.length-4:=ea ..;split at q
     .cases q
     .rename_i j k i;rw[i]at g;split at q
      .split at q
       .cases q
       .rename_i d u;split at q
        .cases a:cX D 4 0 u with
         | cut=>rw[a]at q;cases q
         | bad m b=>rw[a]at q;cases q
         | ok m=>
          have p:=oL a;rw[a,bs]at q;injection q with e;subst e;have:=(fS (65536+(n-55296)*1024+m-56320)).2.1;simp only[cv]at g⊢;omega
        .cases q
      .cases q
  .split at q
   .cases q
   .injection q with e;subst e;simp only[cv,ib];omega
def pO{x:Oo×Nat}(f:eX l=ct x):1<=x.2/\x.2<=l.length/\x.1.length<=x.2:=by
 unfold eX at f;cases l with
 | nil=>cases f
 | cons c t=>
  simp only at f;split at f
  .have:=aLi f;simp only[cv];omega
  .split at f
   .cases f
   .cases a:eC (c::t)with
    | cut=>rw[a]at f;cases f
    | bad n b=>rw[a]at f;cases f
    | ok n=>
     have d:=aDd a;rw[a,bs]at f;injection f with e;subst e;refine⟨d.1,d.2,?_⟩;rw[List.length_take];exact Nat.min_le_left _ _
def aMo:∃i,ae.info? 5=U i/\i.zero=U (I .u8 0)/\i.size=1/\i.bytes=1:=by
 have a:(ae.info? 5).map (λi=>(i.zero,i.size,i.bytes))=U (U (I .u8 0),1,1):=by kernel_rfl
 exact info_parts a
def aE9{B:Nat}{v:ag}{g:Array Oper}{b:List Oper}{o:Oper}{a:Act}{K:Exit->Act->E->Prop}(k:o.guard=G)(s x:Operand)
 (u:o.op=.call {callee:=.builtin .append,args:= #[s,x],argTypes:= #[22,9]})(z:a.eval s=v)(f:Row B 5 bZ w v l)(t:Oo)(F:a.eval x=L ⟨t.toArray⟩)(H:l.length+t.length<=140737488355328)(c:B<=w.heap.size)
 (P:∀j w',Row B 5 bZ w' j (l++t)->w.grownBy w' v.ownBlock->wpList ae g K b (a.put o.dst j) w'):wpList ae g K (o::b) a w:=by
 obtain⟨i,r,n,y,q⟩:=aMo;have d:(⟨t.toArray⟩:ByteArray).size=t.length:=by show t.toArray.size=_;simp
 refine Lib.wpList_append_own_string w k s x 22 9 u B 5 i ku underlying9 r n y q v l.length (l.map bZ) z f ⟨t.toArray⟩ F (by rw[d];unfold cu;omega) (by rw[d];exact H) c λj w' m p _=>P j w' ?_ p;have e:iw ⟨t.toArray⟩=t.map bZ:=by simp[iw]
 rw[d,e,<-kr,<-cn]at m;exact m
def lD{b:Oo}{j:Nat}{c:UInt8}{t:Oo}(d:c≠34):cM b j (c::t)=match eX (c::t)with
 | .cut=>eu
 | .bad no a=>cj no (j+a)
 | .ok x=>cM (b++x.1) (j+x.2) (t.drop (x.2-1)):=by
 rw[cM,py d];cases eX (c::t)<;>rfl
def uG(w:E)(s:ByteArray)(l:Nat)(ha:l<s.size)(hs:s.size<=2147483648):ah ae 88 #[s,l] w λe w'=>
 e=av (aDe l (cM [] 1 (s.data.toList.drop (l+1))))/\ar w w w':=by
 obtain⟨R,d⟩:∃R,cM [] 1 (s.data.toList.drop (l+1))=R:=⟨_,rfl⟩;rw[d];have HR:=A d;have h6:=A (λ(W:E)(i:Nat)(hi:i<s.size)=>aE1 W s i hi hs);obtain⟨p0,b⟩:∃p,l+1=p:=⟨_,rfl⟩;have a1:J.wrap ((l:Int)+1)=(p0:Int):=by rw[b9];omega
 have h8:=A b;rw[b]at HR;have i0:p0<=s.size:=by omega
 clear d b;have r:=A ((de (w.alloc (S #["",I J 0,I J 0,I J 0,N O] 200)) (S #[] 5) w.heap.size (by simp)).trans (aL w (S #["",I J 0,I J 0,I J 0,N O] 200)));have B:=A (((dk w w).alloc (hU _) (S #["",I J 0,I J 0,I J 0,N O] 200)).alloc (by simp) (S #[] 5))
 have b:=A (show Row (w.heap.size+1) 5 bZ ((w.alloc (S #["",I J 0,I J 0,I J 0,N O] 200)).alloc (S #[] 5)) (Z (w.heap.size+1,0) 0 0) [] by
  have:=Row.E9 (w.heap.size+1) 5 bZ (w.alloc (S #["",I J 0,I J 0,I J 0,N O] 200)) ([]:Oo) (by simp) (by simp)
  simpa using this)
 go_enter func88,ntmps88;go_wp2;go_loopw [7,8] (λV v wr=>∃(f:Oo)(j p:Nat),v=I J p/\M (l+j=p)/\p<=s.size/\f.length<=j/\Row (w.heap.size+1) 5 bZ wr V f/\M (cM f j (s.data.toList.drop p)=R)/\wr.heap[w.heap.size]?=U (S #["",I J 0,I J 0,I J 0,N O] 200 (0,0))/\ar w w wr/\w.heap.size+1<=wr.heap.size) (λ_ v _=>s.size-(ek v).toNat)
 case atStart=>exact⟨[],1,p0,rfl,h8,i0,dr _,b.o,HR,r.o,B.o,by simp⟩
 case round=>
  obtain⟨f,j,p,rfl,HJ,hp,y,b,T,r,B,i8⟩:=hrel;by_cases F:p<s.size
  .have q1:(p:Int)<(s.size:Int):=(by omega);by_cases o:s[p]=34
   .have e1:(((s[p].toNat:Nat):Int)==34)=D:=(by rw[o];rfl);have g:=T.o;rw[bA F,o,cM,pz rfl]at g;subst g;have q2:J.wrap ((p:Int)+1)=((p+1:Nat):Int):=(by rw[b9];omega);obtain⟨a,c,rfl⟩:=b.A8;have d:=fK (Win.I6 b);obtain⟨c0,c1,c2,c3,c4,cf⟩:=cells5 r;have K7:=A r;have KB:=A B;clear o T HR b y r B;go_wp2;obtain⟨P,PB⟩:=aS (L ⟨#[]⟩) (I J 0) (I J 0) (I J 0) (N O) K7.o KB.o (hU _);have t:=A PB;obtain⟨r0,r1,r2,r3,r4,_⟩:=cells5 P;exact bb (v:=aj #[L ⟨f.toArray⟩,I J ((p+1:Nat):Int),ac #["",I J 0,I J 0,I J 0,N O]]) (by simp[af,fa,go_sem,r0,r1,r2,r3,r4]) rfl ⟨by rw[<-HJ.o];rfl,t.o⟩
   .have e1:(((s[p].toNat:Nat):Int)==34)=O:=by
     have:s[p].toNat≠34:=λe=>o (kb e);simp;omega
    have g:=T.o;rw[bA F,lD o,<-bA F]at g;have K:=A (λW=>h6.o W p F);have H:(s.data.toList.drop p).length=s.size-p:=(by rw[ea];simp);cases X:eX (s.data.toList.drop p)with
    | cut=>
     rw[X]at g K;have g:eu=R:=g;rw[gP]at K;subst g;clear o T HR b y X H;go_wp2_with fail;refine(K.o _).mono ?_;rintro e z ⟨rfl,d⟩;have n:=(dk z z).alloc (hU _) (S #["",I J 0,I J 0,I J 0,N D] 200);have K7:=A (keep (keep r d) n);have KB:=A (chain (chain B d) n);obtain⟨c0,c1,c2,c3,c4,cf⟩:=cells5 (keep (keep r d) n);clear d n r B;go_wp2_with fail;obtain⟨d0,d1,d2,d3,d4,df⟩:=cells5 (aL z (S #["",I J 0,I J 0,I J 0,N D] 200));generalize z.alloc (S #["",I J 0,I J 0,I J 0,N D] 200)=Y at*
     go_still_tail 3,(by kernel_rfl)
     go_wp2;obtain⟨P,PB⟩:=aS (w:=Y) (L ⟨#[]⟩) (I J 0) (I J 0) (I J 0) (N D) K7.o KB.o (hU _);have t:=A PB;obtain⟨r0,r1,r2,r3,r4,_⟩:=cells5 P;exact bb (v:=aj #["",I J 0,ac #["",I J 0,I J 0,I J 0,N D]]) (by simp[af,fa,go_sem,r0,r1,r2,r3,r4]) rfl ⟨rfl,t.o.drew⟩
    | bad no a=>
     have h5:((no:Int)!=0)=D:=(by have:=aAY X;simp;omega);rw[X]at g K;have g:cj no (j+a)=R:=g;obtain⟨x,hx⟩:∃x,p+a=x:=⟨_,rfl⟩;rw[gP,hx]at K;have HX:=A hx;subst g;clear o T HR b y X H hx;go_wp2_with fail;refine(K.o _).mono ?_;rintro e z ⟨rfl,d⟩;have n:=(dk z z).alloc (hU _) (S #["",I J 0,no,I J (x:Int),N O] 200);have K7:=A (keep (keep r d) n);have KB:=A (chain (chain B d) n);obtain⟨c0,c1,c2,c3,c4,cf⟩:=cells5 (keep (keep r d) n);clear d n r B;go_wp2_with fail;obtain⟨d0,d1,d2,d3,d4,df⟩:=cells5 (aL z (S #["",I J 0,no,I J (x:Int),N O] 200));generalize z.alloc (S #["",I J 0,no,I J (x:Int),N O] 200)=Y at*
     go_still_tail 3,(by kernel_rfl)
     go_wp2;obtain⟨P,PB⟩:=aS (w:=Y) (L ⟨#[]⟩) (I J 0) (I J no) (I J (x:Int)) (N O) K7.o KB.o (hU _);have t:=A PB;obtain⟨r0,r1,r2,r3,r4,_⟩:=cells5 P;exact bb (v:=aj #["",I J 0,ac #["",I J 0,no,I J (x:Int),N O]]) (by simp[af,fa,go_sem,r0,r1,r2,r3,r4]) rfl ⟨by rw[<-HX.o,<-HJ.o,fo];rfl,t.o.drew⟩
    | ok x=>
     obtain⟨k1,k2,n⟩:=pO X;obtain⟨u,m⟩:=x;rw[X]at g K;simp only at k1 k2 n g;rw[gP]at K;rw[lr,show p+1+(m-1)=p+m by omega]at g;obtain⟨q,hq⟩:∃q,p+m=q:=⟨_,rfl⟩;have q2:J.wrap ((p:Int)+(m:Int))=(q:Int):=(by rw[b9];omega);rw[hq]at g;have i1:=A g;have i2:=A (show l+(j+m)=q by have:=HJ.o;omega);have HL:=A (show f.length<=j/\u.length<=m/\p<q/\q<=s.size/\j<=p/\m<=s.size from⟨y,n,by omega,by omega,by have:=HJ.o;omega,by omega⟩);have Y:=A b;have HB:=A B;have G7:=A r;clear o T HR b y X H g hq k1 k2 n B r;go_wp2_with fail;refine(K.o _).mono ?_;rintro e z ⟨rfl,d⟩;have i7:=d.size;have i3:=A ((chain HB.o d).alloc (by omega) (S #[L ⟨u.toArray⟩,m,I J 0,I J 0,N O] 200));have H:=A ((Y.o.A7 d).A5 (S #[L ⟨u.toArray⟩,m,I J 0,I J 0,N O] 200));have i4:=A (keep (keep G7.o d) ((dk z z).alloc (hU _) (S #[L ⟨u.toArray⟩,m,I J 0,I J 0,N O] 200)));clear d;go_wp2_with (at_builtin;refine aE9 rfl _ _ rfl rfl H.o u (by rfl) ?_ ?_ ?_)
     .have d:=HL.o;omega
     ·(try simp);omega
     intro V2 w5 o d;have n:∀k,ix _=U k->w.heap.size+1<=k/\k<wr.heap.size:=Y.o.lt;have X:=(bk (λk=>ix _=U k) _).G0 d λk e=>bg e;have h9:=X.B4 (aL z _) (λe=>by have:=(n _ e).2;omega);have c9:=(cells5 h9).2.1;have h7:=A (X.B4 i4.o (λe=>by have:=(n _ e).1;omega));have i5:=A (i3.o.grown d (by simp;omega) (λk e=>by have:=(n k e).1;omega));have h5:=d.size;have i6:=A o;clear o d X n h9;go_wp2;go_roundw
     case rel=>exact⟨f++u,j+m,q,by go_num,i2,HL.o.2.2.2.1,by have:=HL.o;simp;omega,i6.o,i1,h7.o,i5.o,by simp at h5;omega⟩
     case measure=>have:=HL.o;simp[ek];omega
  .have q1:¬(p:Int)<(s.size:Int):=(by omega);have g:=T.o;rw[cY F,cM]at g;subst g;obtain⟨c0,c1,c2,c3,c4,cf⟩:=cells5 r;have K7:=A r;have KB:=A B;clear T HR b y r B;go_wp2;obtain⟨P,PB⟩:=aS (L ⟨#[]⟩) (I J 0) (I J 0) (I J 0) (N D) K7.o KB.o (hU _);have t:=A PB;obtain⟨r0,r1,r2,r3,r4,_⟩:=cells5 P;exact bb (v:=aj #["",I J 0,ac #["",I J 0,I J 0,I J 0,N D]]) (by simp[af,fa,go_sem,r0,r1,r2,r3,r4]) rfl ⟨rfl,t.o⟩
