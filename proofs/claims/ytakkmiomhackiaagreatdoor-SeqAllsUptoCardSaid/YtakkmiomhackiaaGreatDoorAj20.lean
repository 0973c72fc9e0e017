/-
  The program, one part of its walk. Conditions: none.
-/
import Derived.Test.YtakkmiomhackiaaGreatDoorAj19
set_option linter.all false
set_option maxRecDepth 100000
set_option maxHeartbeats 16000000
open Go.Proofs.Tryz
open Bool renaming false->Y,true->ag
open Except renaming error->bp,ok->au
open Go renaming Calls->ai,Ending->bg,Leaves->ee,TypeId->dv,Value->ac,World->S,cell_of_one->bh,free_of_one->dx,info_parts->et,maxLen->dw,results->aw,settle->eh
open Go.Proofs.Tryz renaming func155->eu,func53->dp,func56->cz,ntmps155->ew,ntmps53->dq,ntmps56->dh,prog->C,results12->fe,results155->fa,results52->ei
open List renaming foldlM->fv,foldlM_append->fu
open Nat renaming le_add_right->gd,lt_of_lt_of_eq->dt
open Option renaming none->I,some->J
open Or renaming inl->D,inr->af
namespace Go.Proofs.YtakkmiomhackiaaGreatDoor
open Go.RowKit
open Ending renaming returned->Z
open Fn renaming func->cr
open Instr renaming typeAssert->bx
open IntKind renaming i32->bs,i64->O,u64->bm,u8->ar
open Obj renaming cells->X
open Keeps renaming A2->cg,A4->ao
open LS renaming at_->ak
open Lx renaming B5->bz,F4->fk
open Ps renaming C4->ft,D3->fq,E9->bk,F5->em
open Tok renaming term->du
open eV renaming I0->cu
open Result renaming ok->bj
open RowKit renaming Below->dl
open Value renaming agg->Q,bool->R,func->co,iface->ah,int->N,nilIface->U,pointer->E,slice->aj,string->dm,tuple->ae
open World renaming cell?_of_block->ge,cell?_setCell_same'->fd,setCell->cj
variable {F:Nat->Prop}{wr:S}{b p:Nat}{x y:Ps}{d i:ac}{toks:List Tok}{T:dv}{l:Oo}
def mL(t:Tok):∃T u,bU t=ah T u:=by cases t<;>exact⟨_,_,rfl⟩
def aD1(F:Nat->Prop)(w:S)(p:Nat)(s:LS)(b:Out)(t c:ac)(wr:S):Prop:=
 ∃y q,Keeps F w wr/\cH y q/\∃a,aG (Since F w wr) wr p y s a/\(∀t∈a,qE t)/\a.length<=998/\
  ((∃tk,iW q y.b (tk::a)/\t=bU tk/\c=R ag/\qE tk/\y.D3 po (tk::a)=b)\/(t=U/\c=R Y/\a= []/\b=au y))
def mM(p:Nat)(a:ac)(w:S):Nat:=match a with
 | .bool ag=>1+pU w p
 | _=>0
def tN{w r:S}{q:Nat}{s:LS}{b:List Tok}{tk:Tok}{d o:Out}{f:Nat}{args:Array ac}(t:∀k,F k->k<w.heap.size)(l:Keeps F w wr)(g:Keeps (λ_=>False) wr r)(G:cH y q)(v:qE tk)(n:aE5 q y.b tk)(B:y.D7 po tk=o)(c:y.D3 po (tk::b)=d)
 (i:ai C f args r λe w'=>cI e/\dL (Since F w wr) r p s b o e w'):
 ai C f args r λe w'=>Keeps F w w'/\((∃m:Nat×Nat,e=bT m.1 m.2/\iA w' p/\d=bp m)\/(∃z,e=Z (ae #[])/\cH z 0/\aG (Since F w w') w' p z s b/\z.D3 po b=d)):=by
 refine i.mono λe w' ⟨_,x,a⟩=>?_;have j:Keeps F w w':=(l.C3 (g.mono λ_ h=>h.elim)).trans x (λk h=>h.elim D (λh=>af h.1));refine⟨j,?_⟩;rw[eT,B]at c;cases o with
 | error m=>
  obtain⟨no,u⟩:=m;exact D ⟨(no,u),a.1,a.2,c.symm⟩
 | ok z=>
  refine af ⟨z,a.1,G.D7 v n B,?_,c⟩;exact a.2.mono (λk h=>h.elim (λh=>h.E8 (bo g.size x.size)) (λh=>af ⟨bo l.size (bo g.size h.1),h.2⟩)) (aF t j.size)
def kO{G:Nat->Prop}{a:S}{z:Ps}{s:LS}(_h:aG G a p z s []):mM p (R Y) a<mM p (R ag) wr:=by
 show 0<1+pU wr p;omega
def kP{G d:Nat->Prop}{b:S}{z:Ps}{s c:LS}{t:Tok}{a:List Tok}(h:aG d wr p y c (t::a))(e:aG G b p z s a):mM p (R ag) b<mM p (R ag) wr:=by
 show 1+pU b p<1+pU wr p;rw[h.O6,e.O6,cv];omega
def aBf(F:Nat->Prop)(w:S)(p:Nat)(x:Ps)(s:LS)(toks:List Tok)(q:Nat)(B:aG F w p x s toks)(d:∀t∈toks,qE t)(g:cH x q)(m:iW q x.b toks)(h:toks.length<=999):
 ai C 79 #[E p] w λe w'=>cI e/\dL F w p s [] (x.D3 po toks) e w':=by
 have f:=B.lt;have P:=A f;obtain⟨K,b⟩:∃K,x.D3 po toks=K:=⟨_,rfl⟩;rw[b]
 have g3:∃lb t ok,w.cell? ⟨p,2,I⟩=J (E (J ⟨lb,0,I⟩))/\(∃h3,ok=R h3)/\(t=U\/∃T u,t=ah T u)/\ai C 111 #[E (J ⟨lb,0,I⟩)] w λe w'=>e=Z (ae #[t,ok])/\aD1 F w p s K t ok w':=by
  cases toks with
  | nil=>
   obtain⟨lb,i,j⟩:=o9 F w p x s B;refine⟨lb,U,R Y,i,⟨_,rfl⟩,D rfl,j.mono ?_⟩;rintro e w' ⟨rfl,rfl⟩;exact⟨rfl,x,q,ao _ _,g,[],B.mono (λk B=>D B) (aF f (hU _)),λ_ B=>by simp at B,by simp,af ⟨rfl,rfl,rfl,b.symm⟩⟩
  | cons t c=>
   obtain⟨lb,i,j⟩:=o8 F w p x s t c B (by simp at h;omega);refine⟨lb,bU t,R ag,i,⟨_,rfl⟩,af (mL t),j.mono ?_⟩;rintro e w' ⟨rfl,n,o⟩;exact⟨rfl,x,q,n,g,c,o,λt B=>d t (jv _ B),by simp at h;omega,D ⟨t,m,rfl,rfl,d t (fi ..),b⟩⟩
 obtain⟨lb,t0,i2,V,⟨h3,rfl⟩,h7,j⟩:=g3;have L:=A j;clear B d g m h b f j;rcases h7 with rfl|⟨T0,u0,rfl⟩
 all_goals
  go_enter func79,ntmps79;go_wp2_with fail;refine(L.o).mono ?_;rintro e w1 ⟨rfl,d⟩;have h4:=A d;clear d;go_wp2;go_loopw [2,3] (λt ok wr=>M (aD1 F w p s K t ok wr)) (λ_ ok wr=>mM p ok wr)
  case atStart=>exact h4.o.elim λy B=>A ⟨y,B⟩
  case round=>
   obtain⟨y,q,n,G,c,d,r,m,g8⟩:=hrel.o;clear hrel;have g5:=A d;have h8:=A n;rcases g8 with⟨tk,o,rfl,rfl,g,b⟩|⟨rfl,rfl,rfl,b⟩
   .have h9:=A o;have h5:=A m;have g6:=A r;rcases tk with⟨a,sg⟩|⟨a,f,l⟩|⟨a,f,W⟩|⟨a,f,l⟩
    focus
     rw[show bU (.mark a sg)=ah 238 (Q #[a,N O 1,N ar sg.toNat])from rfl];have g9:∀w:S,(bx (ah 238 (Q #[a,N O 1,N ar sg.toNat])) 232 238 ag).run C w=bj (ae #[Q #[a,N O 1,N ar sg.toNat],R ag]) w:=λ_=>(by kernel_rfl);have h:Keeps (λ_=>False) wr (wr.alloc (X #[a,N O 1,N ar sg.toNat] 238)):=(ao _ wr).A5 _;obtain rfl:q=0:=o.1;have i:=aKz _ _ p y s c a sg (d.B8 h (λ_ _=>id)) G g;have HC:=A (tN (tk:=.mark a sg) P.o n h G g o.1 rfl b i);clear d n G r o m V i g b h;go_wp2_with fail;refine(HC.o).mono ?_
    rotate_left
    focus
     obtain⟨v,H⟩:∃v:ByteArray,(⟨l.toArray⟩:ByteArray)=v:=⟨_,rfl⟩;have g1:bU (du a f l)=ah 309 (Q #[a,f,v]):=(by rw[<-H];rfl);have g9:∀w:S,(bx (ah 309 (Q #[a,f,v])) 232 238 ag).run C w=bj (ae #[Q #[N O 0,N O 0,N ar 0],R Y]) w:=λ_=>(by kernel_rfl);have g7:∀w:S,(bx (ah 309 (Q #[a,f,v])) 232 241 ag).run C w=bj (ae #[Q #[N O 0,N O 0,""],R Y]) w:=λ_=>(by kernel_rfl);have h6:∀w:S,(bx (ah 309 (Q #[a,f,v])) 232 244 ag).run C w=bj (ae #[ah 309 (Q #[a,f,v]),R ag]) w:=λ_=>(by kernel_rfl);have hm:∀w:S,(method 565 309 (Q #[a,f,v]) "Value").run C w=bj (360,Q #[a,f,v]) w:=λ_=>(by kernel_rfl);have h0:=aFU wr a f l g;rw[H]at h0;have g4:=A h0;obtain⟨nv,g2⟩:∃nv,aGZ l=nv:=⟨_,rfl⟩;rw[g2]at g4;have h2:=A (λW1(h:Keeps (λ_=>False) wr W1)=>by have h1:=tN (tk:=du a f l) P.o n h G g o.1 rfl b ((aDW _ W1 p y s c l (d.B8 h (λ_ _=>id)) G.S8 (by have:=G.M9;omega)).mono λe w' B=>⟨D B.1,B.2.1,B.1,B.2.2⟩);rw[g2]at h1;exact h1);rw[g1];clear H g1 g2 h0;clear d n G r o m V g b;go_wp2_with fail;refine(g4.o).mono ?_;rintro e w2 ⟨rfl,m⟩;have HC:=A (h2.o w2 (cg _ m));clear m;go_wp2_with fail;refine(HC.o).mono ?_
    rotate_left
    focus
     have g9:∀w:S,(bx (ah 271 (Q #[a,f,N bm W])) 232 238 ag).run C w=bj (ae #[Q #[N O 0,N O 0,N ar 0],R Y]) w:=λ_=>(by kernel_rfl);have g7:∀w:S,(bx (ah 271 (Q #[a,f,N bm W])) 232 241 ag).run C w=bj (ae #[Q #[N O 0,N O 0,""],R Y]) w:=λ_=>(by kernel_rfl);have h6:∀w:S,(bx (ah 271 (Q #[a,f,N bm W])) 232 244 ag).run C w=bj (ae #[ah 271 (Q #[a,f,N bm W]),R ag]) w:=λ_=>(by kernel_rfl);have hm:∀w:S,(method 565 271 (Q #[a,f,N bm W]) "Value").run C w=bj (357,Q #[a,f,N bm W]) w:=λ_=>(by kernel_rfl);rw[show bU (.num a f W)=ah 271 (Q #[a,f,N bm W])from rfl];have g4:=A (aIs wr a f W);have h2:=A (λW1(h:Keeps (λ_=>False) wr W1)=>tN (tk:=.num a f W) P.o n h G g o.1 rfl b ((aFS _ W1 p y s c W g (d.B8 h (λ_ _=>id)) G.S8 (by have:=G.M9;omega)).mono λe w' B=>⟨D B.1,B.2.1,B.1,B.2.2⟩));clear d n G r o m V g b;go_wp2_with fail;refine(g4.o).mono ?_;rintro e w2 ⟨rfl,m⟩;have HC:=A (h2.o w2 (cg _ m));clear m;go_wp2_with fail;refine(HC.o).mono ?_
    rotate_left
    focus
     obtain⟨v,H⟩:∃v:ByteArray,(⟨l.toArray⟩:ByteArray)=v:=⟨_,rfl⟩;have g1:bU (.str a f l)=ah 241 (Q #[a,f,v]):=(by rw[<-H];rfl);have g9:∀w:S,(bx (ah 241 (Q #[a,f,v])) 232 238 ag).run C w=bj (ae #[Q #[N O 0,N O 0,N ar 0],R Y]) w:=λ_=>(by kernel_rfl);have g7:∀w:S,(bx (ah 241 (Q #[a,f,v])) 232 241 ag).run C w=bj (ae #[Q #[a,f,v],R ag]) w:=λ_=>(by kernel_rfl);have h:Keeps (λ_=>False) wr (wr.alloc (X #[a,f,v] 241)):=(ao _ wr).A5 _;have i:=aKy _ _ p y s c a f l g.1 g.2 (d.B8 h (λ_ _=>id)) G;rw[H]at i;have HC:=A (tN (tk:=.str a f l) P.o n h G g o.1 rfl b i);rw[g1];clear H g1;clear d n G r o m V i g b h;go_wp2_with fail;refine(HC.o).mono ?_
    rotate_left
    all_goals
     rintro e w3 ⟨i,b⟩;have b:(∃e2:Nat×Nat,e=bT e2.1 e2.2/\iA w3 p/\K=bp e2)\/(∃z,e=Z (ae #[])/\cH z 0/\aG (Since F w w3) w3 p z s c/\z.D3 po c=K):=b;rcases b with⟨e2,he,v,h2⟩|⟨z,he,g2,H,g4⟩
     .have g1:=A h2;have h:=A i;have HD:=A v;clear h2 i v;unfold bT at he;subst he;go_wp2_with fail;rw[g1.o];exact⟨rfl,af ⟨_,_,rfl⟩,h.o,rfl,HD.o⟩
     .subst he;cases c with
      | nil=>
       obtain⟨i0,h6,j⟩:=o9 _ w3 p z s H;have h:=A i;have L:=A j;have g7:=A g2;have g1:=A H;have g9:=A g4;clear i j g2 H g4;go_wp2_with fail;refine(L.o).mono ?_;rintro e w4 ⟨rfl,rfl⟩;go_wp2;go_roundw
       case rel=>exact A ⟨z,0,h.o,g7.o,[],g1.o,λ_ B=>by simp at B,by simp,af ⟨rfl,rfl,rfl,g9.o.symm⟩⟩
       case measure=>exact kO g1.o
      | cons t2 g1=>
       obtain⟨i0,h6,j⟩:=o8 _ w3 p z s t2 g1 H (by have:=h5.o;simp at this;omega);have h:=A i;have L:=A j;have g7:=A g2;have g9:=A g4;obtain⟨T2,u2,h0⟩:=mL t2;rw[h0]at L;have i1:=A h0;clear i j g2 H g4 h0;go_wp2_with fail;refine(L.o).mono ?_;rintro e w4 ⟨rfl,j,H⟩;have i:=A j;have g2:=A H;clear j H;go_wp2;go_roundw
       case rel=>exact A ⟨z,0,h.o.C3 i.o,g7.o,g1,g2.o.mono (λk B=>B.trans h.o.size i.o.size) (λk B=>by exact(aF P.o (h.o.C3 i.o).size) k B),λt B=>g6.o t (jv _ B),by have:=h5.o;simp at this;omega,D ⟨t2,h9.o.P1,i1.o.symm,rfl,g6.o t2 (fi ..),g9.o⟩⟩
       case measure=>exact kP g5.o g2.o
   .clear d n G r m V;have d:=A b;clear b;go_wp2;go_end0;rw[d.o];exact⟨D rfl,h8.o,rfl,g5.o⟩
def aLH{w w':S}{t:ac}{tok:Tok}{e:bg}{y:Lx}{m a:ac}(v:F b)(o:∀k,F k->k<w.heap.size)(x:eK F 232 id w d (toks.map bU))(H:∀k,i.ownBlock=J k->F k)(z:t=bU tok)(j:y.h=.outside){c:ac->ac->Array ac}
 (L:∀r u,c r u= #[N O y.a,U,R Y,co (cr 104) #[] #[],R y.e,N O y.b,r,N O y.number,m,a,N O y.c,N bs y.code,N bs y.g,u])
 (h:aG1 w b i d (toks.map bU) t c e w'):e=Z (N O 0)/\Keeps F w w'/\cG (Since F w w') w' b y Y (toks++ [tok]):=by
 obtain⟨K,rawV',g,off,cap,B,f,G,p⟩:=h
 have l:Keeps F w w':=p.mono λk p=>by
  rcases p with rfl|e|e
  .exact v
  .exact H k e
  .exact x.2 k e
 refine⟨K,l,D v,aF o l.size,rawV',m,a,_,by rw[B,L,j];rfl,⟨?_,?_⟩,⟨λn=>?_,λn=>?_⟩⟩
 .rw[kr,List.map_cons,List.map_nil,<-z];exact f
 .intro k q;cases q;exact G.elim (λe=>D (x.2 _ e)) (λs=>af ⟨s,f.lt rfl⟩)
 .rw[j]at n;exact absurd n (by decide)
 .rw[j]at n;exact absurd n (by decide)
def aEb(F:Nat->Prop)(w:S)(b:Nat)(x:Lx)(toks:List Tok)(c:UInt8)(a0:cG F w b x Y toks)(m:x.h=.letter)(g0:x.b<=x.a)(G:x.d≠ []/\x.d.length<(aH (x.d.headD 0)).length)(g2:x.a<=16777216)(g3:toks.length<=999):
 ai C 141 #[E b,N ar c.toNat] w λe w'=>eV F w b x.a toks (cP x c) e w':=by
 have h0:=a0;obtain⟨hF,o,g1,g4,H,p,z,B,hs⟩:=a0;have hr:=hs.d (D m);have q:(toks.map bU).length<=1000:=by simp;omega
 obtain⟨K,f⟩:=G;obtain⟨a,h,j⟩:=List.exists_cons_of_ne_nil K;have s:=hr.2;have t:=hr.1;rw[j]at t f;simp only[List.headD_cons,cv]at f;rcases t with⟨_,hn⟩|⟨g,off,cap,L,rfl,v,l,P,T,hi⟩
 .cases hn
 have d:w.cell? ⟨g,off,I⟩=J (bZ a):=by rw[aA v];exact hi 0 a rfl
 have i:Win 5 bZ w (aj (g,off) (a::h).length cap) (a::h):=af ⟨g,off,cap,L,rfl,v,l,P,T,hi⟩
 have n:∀e w',e=Z (N O 94)/\w'=w->eV F w b x.a toks ⟨x,[],94⟩ e w':=by
  rintro e w' ⟨rfl,rfl⟩;exact .N7 (by decide) rfl (ao _ _) (jO h0)
 clear v l P T hi
 have l:∀k:Nat,cP x c=(if(aH a)[(a::h).length]?=J c then(if(a::h).length+1=(aH a).length then⟨fk {x with d:=a::h++ [c]},[du x.b (x.a+1-x.b) (aH a)],0⟩else⟨{x with d:=a::h++ [c]},[],0⟩)else⟨x,[],94⟩):=λ_=>by
  unfold cP;rw[j];rfl
 rw[l 0];clear l;have P:0<(a::h).length:=Nat.succ_pos _;by_cases v:(aH a)[(a::h).length]?=J c
 .rw[pz v];by_cases l:(a::h).length+1=(aH a).length
  .rw[pz l];refine(aF6 w b g off cap x.a x.b _ _ _ _ _ _ _ _ _ _ p a c _ _ z d i P v l B.1 q (by omega) (by omega)).mono λe w' T=>?_;obtain⟨l,V,W⟩:=aLH (y:=fk {x with d:=a::h++ [c]}) (tok:=du x.b (x.a+1-x.b) (aH a)) hF o B s rfl rfl (λr u=>rfl) T;exact cu l V W
  .rw[py l];refine(aIv w b g off cap _ _ _ _ _ _ _ _ _ _ _ _ _ a c _ z d i P v l).mono λe w' T=>?_;obtain⟨l,V,W⟩:=aB7 (y:={x with d:=a::h++ [c]}) hF o B s (D m) rfl ⟨_,z⟩ (λk e=>tK i B.1 (by decide) e) (λu=>by rw[m]) T;exact cu l V (by rw[jz];exact W)
 .rw[py v];exact(aF5 w b g off cap _ _ _ _ _ _ _ _ _ _ _ _ _ _ a _ c z d P (bf f) (λe=>v (by rw[e];exact bf f))).mono n
def aIF{c n:Nat}(h:c<16^n)(a:n<=3):c<4096:=by
 match n,a,h with
 | 0,_,h=>simp at h;omega
 | 1,_,h=>omega
 | 2,_,h=>omega
 | 3,_,h=>omega
def aGi(F:Nat->Prop)(w:S)(b:Nat)(x:Lx)(toks:List Tok)(c:UInt8)(a0:cG F w b x Y toks)(i:x.h=.digit)(B:x.f.length<=1073741824)(hd:aJR x.g x.c x.code)(g6:x.g=0\/(55296<=x.g/\x.g<=56319)):
 ai C 188 #[E b,N ar c.toNat] w λe w'=>eV F w b x.a toks (dH x c) e w':=by
 have h0:=a0;obtain⟨hF,q,a,g0,d,G,r,hw,hs⟩:=a0;obtain⟨g1,f,fp,-,g7,-,-⟩:=hs.text (by rw[i];rfl);have m:=aIF hd.1 hd.2.1;unfold dH;cases hv:hexOf c with
 | none=>
  refine(aIw w b x.g _ _ _ _ _ _ _ _ _ _ _ _ _ c r hv).mono ?_;rintro e w' ⟨rfl,rfl⟩;by_cases W:x.g=0
  .rw[pz W];simp only[W,if_true];exact .N7 (by decide) rfl (ao _ _) (jO h0)
  .rw[py W];simp only[W,if_false];exact .N7 (by decide) rfl (ao _ _) (jO h0)
 | some v=>
  have g4:=sL hv;simp only[];by_cases s:x.O0 v=ag
  .rw[pz s];refine(aF7 w b x.c x.code x.g v _ _ _ _ _ _ _ _ _ _ _ c r hv s).mono ?_;rintro e w' ⟨rfl,rfl⟩;exact .N7 (by decide) rfl (ao _ _) (jO h0)
  rw[py s]
  have n:eH x.g x.c x.code v=Y:=by
   have:x.O0 v=Y:=(by simpa using s);exact this
  by_cases h4:x.c+1=4
  .rw[pz h4];have g2:x.c=3:=(by omega);have L:=r;rw[g2]at L n;have t:=aKA (x.code*16+v) L;have o:=aD4 w b (x.code*16+v);have g5:Keeps F w (aBg w b (x.code*16+v)):=o.mono (λk e=>e▸hF);have H:(aBg w b (x.code*16+v)).heap.size=w.heap.size:=(by simp[aBg,cj]);have K:=g1.1.A0 o (λk e z=>g1.1.ne r (by decide) (e.trans (congrArg J z)));have g8:∀k,a=k->a=k:=λ_ a0=>a0;refine aF9 w b x.code x.g v _ _ _ _ _ _ _ _ _ _ _ c _ L hv n m ?_;obtain⟨_,_,W,g3⟩:=hd
   have l1:x.g≠0->56320<=x.code*16+v/\x.code*16+v<=57343:=λa0=>by
    have:=(g3 a0).2.2 (by omega);omega
   have l2:x.g=0->¬(56320<=x.code*16+v/\x.code*16+v<=57343):=λa0=>by
    have:=(W a0).2 (by omega);omega
   unfold Lx.whole;simp only[];by_cases hh:x.g≠0
   .rw[pz hh];have P:=l1 hh;refine(aF4 _ b 4 (x.code*16+v) x.g _ _ _ _ _ _ _ _ _ d _ x.f t (by omega) (by omega) P.1 P.2 K B).mono ?_;rintro e w' ⟨rfl,g,off,cap,j,p,hg,z⟩;refine⟨rfl,?_⟩
    have hS:wJ w b d (x.f++aT (65536+(x.g-55296)*1024+(x.code*16+v)-56320)) (λu=> #[x.a,U,R Y,co (cr 138) #[] #[],x.e,x.b,a,x.number,g0,u,N O (4:Nat),N bs (x.code*16+v:Nat),N bs (0:Nat),G]) (Z (N O 0)) w':=
     ⟨rfl,g,off,cap,j,p,by rw[H]at hg;exact hg,(o.mono (λk e=>D e)).same z⟩
    obtain⟨he,l,T⟩:=aCi (y:={x with code:=x.code*16+v,c:=x.c+1,g:=0,f:=x.f++aT (65536+(x.g-55296)*1024+(x.code*16+v)-56320),h:=.within}) hF q r hw hs (by rw[i];rfl) (by simp) rfl rfl (λu=>by rw[h4];rfl) hS;exact cu he l (by rw[jz];exact T)
   .rw[py hh];have V:x.g=0:=(by omega);have P:=l2 V;rw[V]at t;by_cases h:55296<=x.code*16+v/\x.code*16+v<=56319
    .rw[pz h];refine(aF3 _ b 4 (x.code*16+v) _ _ _ _ _ _ _ _ _ _ _ t h.1 h.2).mono ?_;rintro e w' ⟨rfl,j,z⟩;refine⟨rfl,?_⟩;obtain⟨l,T⟩:=tO (y:={x with code:=x.code*16+v,c:=x.c+1,g:=x.code*16+v,h:=.slash}) (rawV':=a) hF q r hw hs (by rw[i];rfl) rfl rfl rfl (o.same z) (by rw[j,h4];rfl);exact cu rfl l (by rw[jz];exact T)
    .rw[py h];refine(aIu _ b 4 (x.code*16+v) _ _ _ _ _ _ _ _ _ d _ x.f t h (by unfold fM;omega) K B).mono ?_;rintro e w' ⟨rfl,g,off,cap,j,p,hg,z⟩;refine⟨rfl,?_⟩
     have hS:wJ w b d (x.f++aT (x.code*16+v)) (λu=> #[x.a,U,R Y,co (cr 138) #[] #[],x.e,x.b,a,x.number,g0,u,N O (4:Nat),N bs (x.code*16+v:Nat),N bs (0:Nat),G]) (Z (N O 0)) w':=
      ⟨rfl,g,off,cap,j,p,by rw[H]at hg;exact hg,(o.mono (λk e=>D e)).same z⟩
     obtain⟨he,l,T⟩:=aCi (y:={x with code:=x.code*16+v,c:=x.c+1,f:=x.f++aT (x.code*16+v),h:=.within}) hF q r hw hs (by rw[i];rfl) (by simp) rfl rfl (λu=>by rw[h4,V];rfl) hS;exact cu he l (by rw[jz];exact T)
  .rw[py h4];have h:=hd.2.1;refine(aF8 w b x.c x.code x.g v _ _ _ _ _ _ _ _ _ _ _ c r hv n m (by omega)).mono ?_;rintro e w' ⟨he,j,z⟩;obtain⟨l,T⟩:=tO (y:={x with code:=x.code*16+v,c:=x.c+1}) (rawV':=a) hF q r hw hs (by rw[i];rfl) rfl rfl (by show dJ x.h=ag;rw[i];rfl) z (by rw[j,i]);exact cu he l (by rw[jz];exact T)
def aCk(F:Nat->Prop)(w:S)(b g off:Nat)(x:Lx)(toks:List Tok)(c:UInt8)(h:cG F w b x Y toks)(l:w.cell? ⟨g,off,I⟩=J (N ar c.toNat))(d:x.Fine)(j:toks.length<=999):
 ai C 82 #[E b,aj (g,off) 1 1] w λe w'=>oY F w b toks (x.B3 c) cU e w':=by
 refine aDM F w b g off x toks c h l ?_;refine aLD (qJ x.h) (by cases x.h<;>simp[qJ]) F w b x toks c rfl h d.a λm=>?_;have i:dJ x.h=ag->x.f.length<=1073741824:=λk=>bo (d.text k).2.1 (bo d.a (by decide))
 cases a:x.h with
 | outside=>
  have f:x.B5 c=aP x c:=by unfold bz;rw[a]
  rw[f];exact tH F w b x toks c h a d.a (by omega)
 | numeral=>
  have f:x.B5 c=bX x c:=by unfold bz;rw[a]
  rw[f];exact aCh F w b x toks c h a d.b d.number (bo (d.numeral a) (bo d.a (by decide))) d.a (by omega)
 | within=>
  have f:x.B5 c=bY x c:=by unfold bz;rw[a]
  rw[f];exact step_within F w b x toks c h a d.b (i (by rw[a];rfl)) d.a (by omega)
 | letter=>
  have f:x.B5 c=cP x c:=by unfold bz;rw[a]
  rw[f];exact aEb F w b x toks c h a d.b (d.letter a).2 d.a j
 | escape=>
  have f:x.B5 c=dN x c:=by unfold bz;rw[a]
  rw[f];exact aEa F w b x toks c h a (i (by rw[a];rfl))
 | digit=>
  have f:x.B5 c=dH x c:=by unfold bz;rw[a]
  rw[f];exact aGi F w b x toks c h a (i (by rw[a];rfl)) (d.f a).2.1 (d.f a).2.2
 | slash=>
  have f:x.B5 c=fD x c:=by unfold bz;rw[a]
  rw[f];exact aGh F w b x toks c h a
 | letterU=>
  have f:x.B5 c=dS x c:=by unfold bz;rw[a]
  rw[f];exact aCj F w b x toks c h a
def mN(x:Lx)(c:UInt8):(aP x c).a.length<=1:=by
 unfold aP;split
 .exact dr _
 .simp only[];split
  .exact hU _
  .split
   .exact dr _
   .split
    .unfold kX;split<;>exact dr _
    .split<;>exact dr _
def aIG(x:Lx)(c:UInt8):(x.B5 c).a.length<=2:=by
 unfold bz;split
 .exact bo (mN x c) (by decide)
 .unfold cP;simp only[];split
  .split<;>simp
  .simp
 .unfold bX;split
  .simp
  .split
   .cases x.B7 with
    | none=>simp
    | some p=>simp only[cv];have:=mN p.1 c;omega
   .simp
 .unfold bY;split
  .simp
  .split
   .simp
   .split
    .simp
    .split<;>simp
 .unfold dN;split
  .simp
  .split<;>simp
 .unfold dH;split
  .simp
  .split<;>simp
 .unfold fD;split<;>simp
 .unfold dS;split<;>simp
def aIH(x:Lx)(c:UInt8):(x.B3 c).2.1.length<=2:=by
 unfold Lx.B3;split
 .simp
 .simp only[];split<;>exact aIG x c
def mO(F:Nat->Prop)(w:S)(p:Nat)(o:Out)(e:bg)(w':S):Prop:=
 Keeps F w w'/\match o with
 | .error (no,a)=>e=bT no a/\iA w' p
 | .ok y=>e=Z (ae #[])/\aG (Since F w w') w' p y (ak y.d Y) []
def aKF(F:Nat->Prop)(w:S)(p:Nat)(x:Ps)(g off:Nat)(c:UInt8)(h:aG F w p x (ak x.d Y) [])(L:x.d.Fine)(V:w.cell? ⟨g,off,I⟩=J (N ar c.toNat)):
 ∃lb,w.cell? ⟨p,2,I⟩=J (E (J ⟨lb,0,I⟩))/\ai C 82 #[E (J ⟨lb,0,I⟩),aj (g,off) 1 1] w λe w'=>Keeps F w w'/\w'.cell? ⟨p,2,I⟩=J (E (J ⟨lb,0,I⟩))/\
  ((x.d.B3 c).2.2.1=0->e=Z U/\aG (Since F w w') w' p x (ak (x.d.B3 c).1 Y) (x.d.B3 c).2.1)/\
  ((x.d.B3 c).2.2.1≠0->e=Z (cU (x.d.B3 c).2.2.1 (x.d.B3 c).2.2.2)/\∃s,aG (Since F w w') w' p x s (x.d.B3 c).2.1):=by
 obtain⟨f,K,H,B,lb,z,a,b,d,r,P,y,G⟩:=h;have o:w.cell? ⟨p,2,I⟩=J (E lb):=by rw[aA r];rfl
 refine⟨lb,o,(aCk K w lb g off x.d [] c P V L (by simp)).mono ?_⟩;rintro e w' ⟨j,q,v⟩;have i:Keeps F w w':=j.mono d.d;have m:=y.B8 j (λk h e=>d.g k e h);have l:=G.A0 j (λk h e=>d.f k e h);have n:=d.P2 (w:=w) (w':=w') (f p d.a.1) y.2.1 G.lt;refine⟨i,j.B6 o d.a.2.1,λu=>?_,λu=>?_⟩
 .obtain⟨rfl,t⟩:=q u;exact⟨rfl,aF f i.size,_,H,B,lb,z,a,b,n,j.B4 r d.a.2.1,t,m,l⟩
 .obtain⟨rfl,pl,T,t⟩:=v u;exact⟨rfl,.dead pl T _,aF f i.size,_,H,B,lb,z,a,b,n,j.B4 r d.a.2.1,t,m,l⟩
def aKG(F:Nat->Prop)(w:S)(p:Nat)(x:Ps)(l:Lx)(toks:List Tok)(h:aG F w p x (ak l Y) toks)(f:l.Fine):
 ∃lb,w.cell? ⟨p,2,I⟩=J (E (J ⟨lb,0,I⟩))/\ai C 83 #[E (J ⟨lb,0,I⟩)] w λe w'=>e=Z (N O l.E5)/\dl w w w':=by
 obtain⟨-,n,r,q,lb,o,a,d,-,j,k,-,-⟩:=h;obtain⟨-,-,i,m,b,g,c,-,-⟩:=k;refine⟨lb,by rw[aA j];rfl,aDN w lb l.a l.b l.e _ _ _ _ _ _ _ _ _ c f.b (bo f.a (by decide))⟩
def aMy(c:Int)(d:Bool)(b:Nat)(e:ByteArray)(V K:ac)(no a:Int):ac:=Q #[c,d,N bm b,e,V,K,no,a]
def aMZ{w:S}{f e c a g j:ac}(h:w.heap[b]?=J (X #[f,e,c,a,g,i,d,j] T (0,0))):
 w.cell? b=J f/\w.cell? ⟨b,1,I⟩=J e/\w.cell? ⟨b,2,I⟩=J c/\w.cell? ⟨b,3,I⟩=J a/\w.cell? ⟨b,4,I⟩=J g/\w.cell? ⟨b,5,I⟩=J i/\w.cell? ⟨b,6,I⟩=J d/\w.cell? ⟨b,7,I⟩=J j/\∀o,w.frozen? ⟨b,o,I⟩=Y:=
 ⟨aA h,aA h,aA h,aA h,aA h,aA h,aA h,aA h,free_at h⟩
def aNG{w:S}{G s r q p n l:ac}(a c d e f g j m:ac)(h:w.heap[b]?=J (X #[G,s,r,q,p,n,l,i] T (0,0))):
 ((((((((w.setCell b a).setCell ⟨b,1,I⟩ c).setCell ⟨b,2,I⟩ d).setCell ⟨b,3,I⟩ e).setCell ⟨b,4,I⟩ f).setCell ⟨b,5,I⟩ g).setCell ⟨b,6,I⟩ j).setCell ⟨b,7,I⟩ m).heap[b]?=J (X #[a,c,d,e,f,g,j,m] T (0,0))/\Keeps (λk=>k=b) w ((((((((w.setCell b a).setCell ⟨b,1,I⟩ c).setCell ⟨b,2,I⟩ d).setCell ⟨b,3,I⟩ e).setCell ⟨b,4,I⟩ f).setCell ⟨b,5,I⟩ g).setCell ⟨b,6,I⟩ j).setCell ⟨b,7,I⟩ m):=by
 have u:(w.setCell b a).heap[b]?=J (X #[a,s,r,q,p,n,l,i] T (0,0)):=aB (o:=0) h a;have x:((w.setCell b a).setCell ⟨b,1,I⟩ c).heap[b]?=J (X #[a,c,r,q,p,n,l,i] T (0,0)):=aB (o:=1) u c;have t:(((w.setCell b a).setCell ⟨b,1,I⟩ c).setCell ⟨b,2,I⟩ d).heap[b]?=J (X #[a,c,d,q,p,n,l,i] T (0,0)):=aB (o:=2) x d;have B:((((w.setCell b a).setCell ⟨b,1,I⟩ c).setCell ⟨b,2,I⟩ d).setCell ⟨b,3,I⟩ e).heap[b]?=J (X #[a,c,d,e,p,n,l,i] T (0,0)):=aB (o:=3) t e;have v:(((((w.setCell b a).setCell ⟨b,1,I⟩ c).setCell ⟨b,2,I⟩ d).setCell ⟨b,3,I⟩ e).setCell ⟨b,4,I⟩ f).heap[b]?=J (X #[a,c,d,e,f,n,l,i] T (0,0)):=aB (o:=4) B f;have y:((((((w.setCell b a).setCell ⟨b,1,I⟩ c).setCell ⟨b,2,I⟩ d).setCell ⟨b,3,I⟩ e).setCell ⟨b,4,I⟩ f).setCell ⟨b,5,I⟩ g).heap[b]?=J (X #[a,c,d,e,f,g,l,i] T (0,0)):=aB (o:=5) v g;have F:(((((((w.setCell b a).setCell ⟨b,1,I⟩ c).setCell ⟨b,2,I⟩ d).setCell ⟨b,3,I⟩ e).setCell ⟨b,4,I⟩ f).setCell ⟨b,5,I⟩ g).setCell ⟨b,6,I⟩ j).heap[b]?=J (X #[a,c,d,e,f,g,j,i] T (0,0)):=aB (o:=6) y j;have z:((((((((w.setCell b a).setCell ⟨b,1,I⟩ c).setCell ⟨b,2,I⟩ d).setCell ⟨b,3,I⟩ e).setCell ⟨b,4,I⟩ f).setCell ⟨b,5,I⟩ g).setCell ⟨b,6,I⟩ j).setCell ⟨b,7,I⟩ m).heap[b]?=J (X #[a,c,d,e,f,g,j,m] T (0,0)):=aB (o:=7) F m;exact⟨z,((((((((ao (λk=>k=b) w).own _ _).own _ _).own _ _).own _ _).own _ _).own _ _).own _ _).own _ _⟩
def aCl{c:UInt8}(h:x.E2 c=au y):y.d=x.d/\y.a=x.a:=by
 unfold Ps.E2 at h;split at h
 .cases h;exact⟨rfl,rfl⟩
 .exact⟨(kA h).1,(kA h).2.1⟩
def aBi{G:Nat->Prop}{w:S}{s:LS}(h:aG G w p x s toks):aG G (w.setCell ⟨p,1,I⟩ (N O ((x.a:Int)+1))) p {x with a:=x.a+1} s toks:=by
 obtain⟨f,g,q,n,lb,l,a,b,d,j,m,i,o⟩:=h;have c:Keeps (λk=>k=p) w (w.setCell ⟨p,1,I⟩ (N O ((x.a:Int)+1))):=(ao (λk=>k=p) w).A3 (p:=⟨p,1,I⟩) (D rfl) _;exact⟨λk h=>a7 (f k h) c.size,g,q,n,lb,l,a,b,d,aB j _,m.B8 c (λk h e=>d.a.2.1 (e▸h)),i.B8 c (λk h e=>d.a.2.2.1 (e▸h)),o.A0 c (λk h e=>d.a.2.2.2 (e▸h))⟩
def vT{w b:S}{pl:Nat}{q:Ps}{l:Lx}(c:∀k,F k->k<w.heap.size)(d:Keeps F w b)(e:aG (Since F w b) (b.setCell ⟨p,1,I⟩ (N O ((pl:Int)+1))) p {q with a:=pl+1} (ak l Y) [])(f:q.d=l):
 cI (Z (ae #[]))/\mO F w p (au {q with a:=pl+1}) (Z (ae #[])) (b.setCell ⟨p,1,I⟩ (N O ((pl:Int)+1))):=by
 have a:Keeps F w (b.setCell ⟨p,1,I⟩ (N O ((pl:Int)+1))):=d.A3 (p:=⟨p,1,I⟩) (e.O5.elim D (λh=>af h.1)) _;refine⟨D rfl,a,rfl,?_⟩;show aG _ _ p {q with a:=pl+1} (ak q.d Y) [];rw[f];exact e.mono (λk h=>h.E8 (by simp[cj])) (aF c a.size)
def aGj{w d e:S}{pl:Nat}{q:Ps}{l:Lx}(c:∀k,F k->k<w.heap.size)(a:Keeps F w d)(b:Keeps (Since F w d) d e)(f:aG (Since (Since F w d) d e) (e.setCell ⟨p,1,I⟩ (N O ((pl:Int)+1))) p {q with a:=pl+1} (ak l Y) [])(g:q.d=l):
 cI (Z (ae #[]))/\mO F w p (au {q with a:=pl+1}) (Z (ae #[])) (e.setCell ⟨p,1,I⟩ (N O ((pl:Int)+1))):=
 vT c (a.C3 b) (f.mono (λk h=>h.trans a.size b.size) (λk h=>a7 (aF c (bo a.size b.size) k h) (by simp[cj]))) g
def aKH(F:Nat->Prop)(w:S)(p:Nat)(x:Ps)(g off:Nat)(c:UInt8)(a0:aG F w p x (ak x.d Y) [])(v:fF x)(hc:w.cell? ⟨g,off,I⟩=J (N ar c.toNat))(h6:¬F g):
 ai C 56 #[E p,aj (g,off) 1 1] w λe w'=>cI e/\mO F w p (x.B3 po c) e w':=by
 have h7:=a0.lt;have i6:=A h7;have i3:g<w.heap.size:=kj w _ hc;obtain⟨lb,l5,P⟩:=aKF F w p x g off c a0 v.c hc;have H:=aAU v.c c;have K:=aBI v c;have h8:=aIH x.d c;obtain⟨r,hr⟩:∃r,x.d.B3 c=r:=⟨_,rfl⟩;rw[hr]at P H K h8;obtain⟨d,hd⟩:∃d,fq po {x with d:=r.1} r.2.1=d:=⟨_,rfl⟩;have a:x.B3 po c=sS c r d:=by rw[<-hd,<-hr];rfl
 have T:cH {x with d:=r.1} (bW x):=v.ps.R2 r.1;have h9:=A (λ(G:Nat->Prop)(w1:S)(s:LS)(h1:aG G w1 p x s r.2.1)=>aBf G w1 p {x with d:=r.1} s r.2.1 (bW x) h1 H.2 T K (by omega));rw[hd]at h9;have i4:=A P;have k4:=A h6;have i1:x.a<=16777216:=by rw[v.a];exact v.c.a
 have HC:=A hc;by_cases n:r.2.2.1=0
 .cases d with
  | error er=>
   obtain⟨no,k5⟩:=er;rw[a];clear a T H K h8 hd hr a0 v h7 h6 i3 P hc i1;go_enter cz,dh;go_wp2_with fail;refine(i4.o).mono ?_;rintro e w1 ⟨i,-,b,f⟩;obtain⟨rfl,j⟩:=b n;have y:=A (h9.o _ w1 _ j);have o:=A i;clear b f j i n;go_wp2_with fail;refine(y.o).mono ?_;rintro e w2 ⟨-,h,he,z⟩;have i7:=A h;have HD:=A z;clear h z;unfold bT at he;subst he;go_wp2_with fail;exact⟨rfl,af ⟨_,_,rfl⟩,o.o.C3 i7.o,rfl,HD.o⟩
  | ok q=>
   simp only[sS]at a;rw[py (λa0=>a0 n)]at a;have i5:=oK hd;have i8:=(pM T H.2 K hd).1;have i9:=H.1 n;have k9:=A i5.1;have k0:q.a=x.a:=i5.2;have l6:=A i8;have l7:=A i9;have V:=A (λ(G:Nat->Prop)(w2:S)(h2:aG G w2 p q (ak r.1 Y) [])=>aKG G w2 p q r.1 [] h2 i9);by_cases hh:r.1.E5=1
   .rw[pz hh]at a;have j6:=A (λ(G:Nat->Prop)(L:S)(h3:aG G L p q (ak r.1 Y) [])=>aFR G L p q (ak r.1 Y) [] c h3 i8.g);rw[hh]at V;cases j0:q.E2 c with
    | error er=>
     obtain⟨no,k5⟩:=er;rw[j0]at a j6;rw[a];clear a T H K h8 hd hr a0 v h7 h6 i3 P hc i5 i8 i9 hh j0 i1;go_enter cz,dh;go_wp2_with fail;refine(i4.o).mono ?_;rintro e w1 ⟨i,-,b,f⟩;obtain⟨rfl,j⟩:=b n;have y:=A (h9.o _ w1 _ j);have o:=A i;clear b f j i n;go_wp2_with fail;refine(y.o).mono ?_;rintro e w2 ⟨i0,h,he,B⟩;subst he;have u:=o.o.C3 h;obtain⟨k6,W,l⟩:=V.o _ w2 B;have j1:=A l;have j2:=A B;have h0:=A u;have h4:=A (And.intro o.o.size h.size);clear i0 h B u l;go_wp2_with fail;refine(mH _).mono ?_;rintro e k7 ⟨rfl,rfl⟩;go_wp2_with fail;refine(j1.o).mono ?_;rintro e L ⟨rfl,m⟩;have t:Keeps F w L:=h0.o.A7 m;have h5:aG (Since F w L) L p q (ak r.1 Y) []:=(j2.o.B8 (cg (λ_=>False) m) (λ_ _=>id)).mono (λk a0=>(a0.trans h4.o.1 h4.o.2).E8 m.size) (aF i6.o t.size);have j3:=A t;have l0:L.cell? ⟨g,off,I⟩=J (N ar c.toNat):=t.B6 HC.o k4.o;have k1:=A (j6.o _ L h5);clear m t h5 W;go_wp2_with fail;refine(k1.o).mono ?_;rintro e w4 ⟨-,j4,j7,i2⟩;have k2:=A j4;have j5:=A i2;clear j4 i2;unfold bT at j7;subst j7;go_wp2_with fail;exact⟨rfl,af ⟨_,_,rfl⟩,j3.o.C3 k2.o,rfl,j5.o⟩
    | ok q2=>
     rw[j0]at a j6;rw[a];have i2:=aCl j0;have l1:=A (i2.1.trans i5.1);have j9:q2.a=x.a:=i2.2.trans k0;clear a T H K h8 hd hr a0 v h7 h6 i3 P hc i5 i8 i9 hh j0 i2;go_enter cz,dh;go_wp2_with fail;refine(i4.o).mono ?_;rintro e w1 ⟨i,-,b,f⟩;obtain⟨rfl,j⟩:=b n;have y:=A (h9.o _ w1 _ j);have o:=A i;clear b f j i n;go_wp2_with fail;refine(y.o).mono ?_;rintro e w2 ⟨i0,h,he,B⟩;subst he;have u:=o.o.C3 h;obtain⟨k6,W,l⟩:=V.o _ w2 B;have j1:=A l;have j2:=A B;have h0:=A u;have h4:=A (And.intro o.o.size h.size);clear i0 h B u l;go_wp2_with fail;refine(mH _).mono ?_;rintro e k7 ⟨rfl,rfl⟩;go_wp2_with fail;refine(j1.o).mono ?_;rintro e L ⟨rfl,m⟩;have t:Keeps F w L:=h0.o.A7 m;have h5:aG (Since F w L) L p q (ak r.1 Y) []:=(j2.o.B8 (cg (λ_=>False) m) (λ_ _=>id)).mono (λk a0=>(a0.trans h4.o.1 h4.o.2).E8 m.size) (aF i6.o t.size);have j3:=A t;have l0:L.cell? ⟨g,off,I⟩=J (N ar c.toNat):=t.B6 HC.o k4.o;have k1:=A (j6.o _ L h5);clear m t h5 W;go_wp2_with fail;refine(k1.o).mono ?_;rintro e w4 ⟨k8,j4,j7,i2⟩;subst j7;have k2:=A j4;have l2:=A i2;obtain⟨-,FL,FM,FP,l3,l4,j8,k3,-,j0,-,-,-⟩:=i2;obtain⟨-,d1,d2,d3,d4,d5,d6,d7,d8,d9,df⟩:=b8 j0;have j5:=A (aBi (l2.o));rw[j9]at d1 j5;clear k8 j4 j0;go_wp2;go_end0;rw[j9];exact aGj i6.o j3.o k2.o j5.o l1.o
   .rw[py hh]at a;rw[a];obtain⟨hv,i2⟩:∃hv,r.1.E5=hv:=⟨_,rfl⟩;rw[i2]at V hh;have j4:((hv:Int)==1)=Y:=(by simp;omega);clear a T H K h8 hd hr a0 v h7 h6 i3 P hc i5 i8 i9 hh i2;go_enter cz,dh;go_wp2_with fail;refine(i4.o).mono ?_;rintro e w1 ⟨i,-,b,f⟩;obtain⟨rfl,j⟩:=b n;have y:=A (h9.o _ w1 _ j);have o:=A i;clear b f j i n;go_wp2_with fail;refine(y.o).mono ?_;rintro e w2 ⟨i0,h,he,B⟩;subst he;have u:=o.o.C3 h;obtain⟨k6,W,l⟩:=V.o _ w2 B;have j1:=A l;have j2:=A B;have h0:=A u;have h4:=A (And.intro o.o.size h.size);clear i0 h B u l;go_wp2_with fail;refine(mH _).mono ?_;rintro e k7 ⟨rfl,rfl⟩;go_wp2_with fail;refine(j1.o).mono ?_;rintro e L ⟨rfl,m⟩;have t:Keeps F w L:=h0.o.A7 m;have h5:aG (Since F w L) L p q (ak r.1 Y) []:=(j2.o.B8 (cg (λ_=>False) m) (λ_ _=>id)).mono (λk a0=>(a0.trans h4.o.1 h4.o.2).E8 m.size) (aF i6.o t.size);have j3:=A t;clear m t W;have l:=A h5;obtain⟨-,FL,FM,FP,l3,l4,j8,k3,-,j0,-,-,-⟩:=h5;obtain⟨-,d1,d2,d3,d4,d5,d6,d7,d8,d9,df⟩:=b8 j0;have j5:=A (aBi (l.o));rw[k0]at d1 j5;clear j0;go_wp2;go_end0;rw[k0];exact vT i6.o j3.o j5.o k9.o
 .cases d with
  | error er=>
   obtain⟨no,k5⟩:=er;rw[a];clear a T H K h8 hd hr a0 v h7 h6 i3 P hc i1;go_enter cz,dh;go_wp2_with fail;refine(i4.o).mono ?_;rintro e w1 ⟨i,-,b,f⟩;obtain⟨rfl,s,j⟩:=f n;have y:=A (h9.o _ w1 _ j);have o:=A i;clear b f j i n;go_wp2_with fail;refine(y.o).mono ?_;rintro e w2 ⟨-,h,he,z⟩;have i7:=A h;have HD:=A z;clear h z;unfold bT at he;subst he;go_wp2_with fail;exact⟨rfl,af ⟨_,_,rfl⟩,o.o.C3 i7.o,rfl,HD.o⟩
  | ok q=>
   simp only[sS]at a;rw[pz n]at a;rw[a];clear a T H K h8 hd hr a0 v h7 h6 i3 P hc i1;go_enter cz,dh;go_wp2_with fail;refine(i4.o).mono ?_;rintro e w1 ⟨i,-,b,f⟩;obtain⟨rfl,s,j⟩:=f n;have y:=A (h9.o _ w1 _ j);have o:=A i;have l:=A (λw=>zF w r.2.2.1 r.2.2.2);clear b f j i n;go_wp2_with fail;refine(y.o).mono ?_;rintro e w2 ⟨i0,h,he,a⟩;subst he;have i7:=A h;have HD:=A a.H8;clear i0 h a;go_wp2_with fail;refine(l.o _).mono ?_;rintro e L ⟨he,m⟩;have a:=A m;clear m;unfold bT at he;subst he;go_wp2_with fail;exact⟨rfl,af ⟨_,_,rfl⟩,(o.o.C3 i7.o).A7 a.o,rfl,HD.o.A0 (cg (λ_=>False) a.o) id⟩
def wF(x:Ps)(a b:Oo):x.C4 po (a++b)=(x.C4 po a).bind λy=>y.C4 po b:=by
 unfold ft;rw[fu];rfl
def aII{k:Nat}(h:k<l.length):x.C4 po (l.take (k+1))=(x.C4 po (l.take k)).bind λy=>y.B3 po l[k]:=by
 unfold ft;rw[List.take_succ_eq_append_getElem h,fu];cases fv (λp c=>Ps.B3 po p c) x (l.take k)with
 | error e=>rfl
 | ok y=>
  show fv _ y [l[k]]=y.B3 po l[k];simp only[List.foldlM_cons,List.foldlM_nil];cases y.B3 po l[k]<;>rfl
def aIJ{k:Nat}{e:Nat×Nat}(h:x.C4 po (l.take k)=bp e):x.C4 po l=bp e:=by
 rw[<-List.take_append_drop k l,wF,h];rfl
def BytesIn(F:Nat->Prop)(w:S)(v:ac)(l:List UInt8):Prop:=∃a cap,v=aj a l.length cap/\l.length<=cap/\cap<=dw/\(l= []\/∃g off,a=J ⟨g,off,I⟩/\¬F g/\∀i x,l[i]?=J x->w.cell? ⟨g,off+i,I⟩=J (N ar ((x.toNat:Nat):Int)))
def aG5(F:Nat->Prop)(w:S)(p:Nat)(x:Ps)(l:List UInt8)(k:Nat)(wr:S):Prop:=Keeps F w wr/\∃y,x.C4 po (l.take k)=au y/\aG (Since F w wr) wr p y (ak y.d Y) []/\fF y
def Keeps.S9{w w2:S}(h:Keeps F w.drew w2):Keeps F w w2:=⟨h.os,h.tape,h.output,h.size,h.block⟩
def aCm(F:Nat->Prop)(w:S)(p B1 B2:Nat)(x:Ps)(l:Oo)(v:ac)(G:aG F w p x (ak x.d Y) [])(d:fF x)(hv:BytesIn F w v l)(hl:l.length<=4294967296)
 (j:w.heap[B1]?=J (X #[v] 22 (0,0)))(r:w.heap[B2]?=J (X #[E p] 43 (0,0)))(f:¬F B1)(h:¬F B2):
 ai C 55 #[E B1,E B2] w λe w'=>cI e/\mO F w p (x.C4 po l) e w':=by
 have g2:=A G.lt;obtain⟨n,b⟩:∃n,x.C4 po l=n:=⟨_,rfl⟩;rw[b];have t:=A b;clear b;have H:=bh j;have HB:=A (λ(wr:S)(hk:Keeps F w wr)=>And.intro (bh (hk.B4 j f)) (bh (hk.B4 r h)));have c:=A (show aG5 F w p x l 0 w from⟨ao _ _,x,rfl,G.mono (λk G=>D G) (aF G.lt (hU _)),d⟩);obtain⟨a,cap,rfl,g4,m,b⟩:=hv;have q:=A b;clear G d j r f h b m;go_enter func55,ntmps55;go_wp2;go_loopw [5] (λi wr=>∃k:Nat,k<=l.length/\i=N O k/\M (aG5 F w p x l k wr)) (λi _=>l.length-(intOf i).toNat)
 case atStart=>exact⟨0,by omega,rfl,c⟩
 case round=>
  obtain⟨k,hk,rfl,f⟩:=hrel;obtain⟨d,y,hy,b,r⟩:=f.o;clear f c;have f:=A d;have HY:=A hy;have K:=A b;obtain⟨c1,c2⟩:=HB.o wr d;by_cases u:k<l.length
  .obtain⟨g,off,rfl,m,c⟩:=q.o.resolve_left (λe=>by subst e;simp at u);have s:=c k l[k] (bf u);have g3:g<w.heap.size:=kj w _ s;have L:¬Since F w wr g:=λG=>G.elim m (λG=>absurd g3 (me.2 G.1));have P:wr.cell? ⟨g,off+k,I⟩=J (N ar ((l[k].toNat:Nat):Int)):=d.B6 s m;have B:=aKH (Since F w wr) wr.drew p y g (off+k) l[k] (b.B8 ((ao (λ_=>False) wr).B0) (λ_ _=>id)) r P L;have h:=aII (x:=x) u;rw[hy]at h;have h:x.C4 po (l.take (k+1))=y.B3 po l[k]:=h;have T:=A h;have j:=λz(G:y.B3 po l[k]=au z)=>r.B3 G;have V:=A j;obtain⟨o,ho⟩:∃o,y.B3 po l[k]=o:=⟨_,rfl⟩;rw[ho]at B;have HO:=A ho;have W:=A B;clear d hy b r s m c L P B h j ho H;go_wp2_with fail;have P:O.wrap ((k:Int)+1)=(k:Int)+1:=(by rw[b9];omega);have g5:(0:Int)<=(k:Int)+1:=(by omega);have g6:(k:Int)+1<=(cap:Int):=by omega
   cases o with
   | error er=>
    obtain⟨no,B⟩:=er;obtain rfl:n=bp (no,B):=t.o.symm.trans (aIJ (T.o.trans HO.o))
    go_still_tail 8,(by kernel_rfl)
    go_wp2_with fail;refine(W.o).mono ?_;rintro e w2 ⟨-,j,s,c⟩;have m:=A j.S9;have L:=A c;clear j c;unfold bT at s;subst s;go_wp2_with fail;exact⟨rfl,af ⟨_,_,rfl⟩,f.o.C3 m.o,rfl,L.o⟩
   | ok z=>
    go_region_with (go_at_call 56;refine(W.o).mono ?_;rintro e w2 ⟨-,j,s,c⟩;have m:=A j.S9;have B:=A c;clear j c;subst s)
    all_goals
     go_wp2;go_roundw
     case rel=>exact⟨k+1,by omega,by go_num,A ⟨f.o.C3 m.o,z,T.o.trans HO.o,B.o.mono (λk G=>G.trans f.o.size m.o.size) (aF g2.o (f.o.C3 m.o).size),V.o z HO.o⟩⟩
     case measure=>simp[intOf];omega
  .have h:k=l.length:=(by omega);subst h;have c:=HY.o;rw[List.take_length]at c;have j:=A c;clear d hy b r c H;go_wp2;go_end0;obtain rfl:n=au y:=t.o.symm.trans j.o;exact⟨D rfl,f.o,rfl,K.o⟩
def jP(w:S)(b:bg->S->Prop)(e:bg)(w':S):Prop:=
 ∃w1,(b (Z (ae #[])) w1/\e=Z U/\w'=w1.setCell w U)\/(∃no a,b (bT no a) w1/\e=Z (cU no a)/\w'=w1.setCell w (cU no a))
def aEc(w:S)(o q:Nat)(u:bg->S->Prop)(c:ai C 55 #[E o,E q] (w.alloc (X #[U] 26)) λe w'=>cI e/\u e w')(p:∀e w',u e w'->w'.heap[w.heap.size]?=J (X #[U] 26 (0,0))):
 ai C 52 #[co (cr 55) #[] #[E o,E q]] w (jP w u):=by
 have r:=A c;have n:=A p;clear c p
 go_enter_defers func52,ntmps52
 go_wp2_with fail;refine(r.o).mono ?_;rintro e w1 ⟨rfl|⟨no,a,m⟩,h⟩
 .have d:=n.o _ _ h;have i:=bh d;have j:=dx d;have g:(w1.setCell w U).cell? w=J U:=by rw[aA (aB d _)];rfl
  have k:=A h;clear h d;go_wp2_with fail;refine lg (f:=77) (args:= #[E w]) (by simp) (by simp[go_sem]) ?_;refine(xB ⟨w.heap.size,0,I⟩ _).mono ?_;rintro e s l ⟨rfl,rfl,rfl⟩;have b:jP w u (Z U) (w1.setCell w U):=⟨w1,D ⟨k.o,rfl,rfl⟩⟩;simp[ee,eh,aw,ei,go_sem,g];exact b
 .have d:=n.o _ _ h;have i:=bh d;have j:=dx d;have g:(w1.setCell w (ah 151 (Q #[no,a]))).cell? w=J (ah 151 (Q #[no,a])):=by rw[aA (aB d _)];rfl
  have k:=A h;have t:=A m;clear h d;unfold bT cU at m;subst m;go_wp2_with fail;refine lg (f:=77) (args:= #[E w]) (by simp) (by simp[go_sem]) ?_;refine(xC ⟨w.heap.size,0,I⟩ U no a [] _ i j).mono ?_;rintro e s l ⟨rfl,rfl,rfl⟩;have b:jP w u (Z (cU no a)) (w1.setCell w (cU no a)):=⟨w1,af ⟨no,a,k.o,rfl,rfl⟩⟩;simp[ee,eh,aw,ei,go_sem,g];exact b
def aAB(w:S)(p:Nat)(t:bg->S->Prop)(c:ai C 53 #[E p] (w.alloc (X #[U] 26)) λe w'=>cI e/\t e w')(o:∀e w',t e w'->w'.heap[w.heap.size]?=J (X #[U] 26 (0,0))):
 ai C 52 #[co (cr 53) #[E p] #[]] w (jP w t):=by
 have q:=A c;have n:=A o;clear c o
 go_enter_defers func52,ntmps52
 go_wp2_with fail;refine(q.o).mono ?_;rintro e w1 ⟨rfl|⟨no,a,m⟩,h⟩
 .have d:=n.o _ _ h;have i:=bh d;have j:=dx d;have g:(w1.setCell w U).cell? w=J U:=by rw[aA (aB d _)];rfl
  have k:=A h;clear h d;go_wp2_with fail;refine lg (f:=77) (args:= #[E w]) (by simp) (by simp[go_sem]) ?_;refine(xB ⟨w.heap.size,0,I⟩ _).mono ?_;rintro e r l ⟨rfl,rfl,rfl⟩;have b:jP w t (Z U) (w1.setCell w U):=⟨w1,D ⟨k.o,rfl,rfl⟩⟩;simp[ee,eh,aw,ei,go_sem,g];exact b
 .have d:=n.o _ _ h;have i:=bh d;have j:=dx d;have g:(w1.setCell w (ah 151 (Q #[no,a]))).cell? w=J (ah 151 (Q #[no,a])):=by rw[aA (aB d _)];rfl
  have k:=A h;have s:=A m;clear h d;unfold bT cU at m;subst m;go_wp2_with fail;refine lg (f:=77) (args:= #[E w]) (by simp) (by simp[go_sem]) ?_;refine(xC ⟨w.heap.size,0,I⟩ U no a [] _ i j).mono ?_;rintro e r l ⟨rfl,rfl,rfl⟩;have b:jP w t (Z (cU no a)) (w1.setCell w (cU no a)):=⟨w1,af ⟨no,a,k.o,rfl,rfl⟩⟩;simp[ee,eh,aw,ei,go_sem,g];exact b
section
def aId(s:Stp)(K:ac):List ac:= [N O s.a,R s.c,N bm s.b,dm ⟨s.d.toArray⟩,N O s.e,K]
def nK(w:S)(c:List ac)(s:Stp):Prop:=∃(a:Option Addr)(m:Nat),c=aId s (aj a s.f.length m)/\Win 9 encS w (aj a s.f.length m) s.f
def cK(e:Nat)(w:S)(V:ac)(L:List Stp):Prop:=∃a:List (List ac),a.length=L.length/\aQ 6 e w V L.length a.flatten/\∀(i:Nat)(c:List ac)(s:Stp),a[i]?=J c->L[i]?=J s->nK w c s
def aBW:lB 141 147 6 72:=⟨underlying141,by decide,by
 have h:(C.info? 147).map (λi=>(i.zero,i.size,i.bytes))=J (J (Q #[N O 0,R Y,N bm 0,"",N O 0,()]),6,72):=by kernel_rfl
 obtain⟨i,c,a,d,b⟩:=et h;exact⟨i,_,c,a,d,b,rfl⟩⟩
def zA:lB 143 149 6 72:=⟨underlying143,by decide,by
 have h:(C.info? 149).map (λi=>(i.zero,i.size,i.bytes))=J (J (Q #[N O 0,R Y,N bm 0,"",N O 0,()]),6,72):=by kernel_rfl
 obtain⟨i,c,a,d,b⟩:=et h;exact⟨i,_,c,a,d,b,rfl⟩⟩
section
variable {e:Nat} {w w':S} {V V':ac} {L L2:List Stp} {G:Nat->Prop} {c:List ac} {s:Stp}
def cK.nil(e:Nat)(w:S):cK e w (aj I 0 0) []:=⟨[],rfl,.nil _ _ _,λi c s h=>by simp at h⟩
def cK.A8(h:cK e w V L):∃a c,V=aj a L.length c:=h.elim λ_ h=>h.2.1.A8
def cK.lt(h:cK e w V L){k:Nat}(a:V.ownBlock=J k):k<w.heap.size:=h.elim λ_ h=>h.2.1.lt a
def nK.A0(h:nK w c s)(d:Keeps G w w')(f:∀(k:Nat)(c:Array ac),w.heap[k]?=J (X c 9 (0,0))->¬G k):nK w' c s:=by
 obtain⟨a,m,rfl,b⟩:=h;exact⟨a,m,rfl,b.A0 d λk e=>(b.D5 e).elim λc g=>f k c g⟩
def cK.A0(h:cK e w V L)(b:Keeps G w w')(m:∀k,V.ownBlock=J k->¬G k)(l:∀(k:Nat)(c:Array ac),w.heap[k]?=J (X c 9 (0,0))->¬G k):cK e w' V L:=by
 obtain⟨a,f,d,g⟩:=h;exact⟨a,f,d.A0 b m,λi c s n j=>(g i c s n j).A0 b l⟩
def cK.A7(h:cK e w V L)(a:dl w w w'):cK e w' V L:=h.A0 (cg (λ_=>False) a) (λ_ _=>id) λ_ _ _=>id
def cK.N3{a css2:List (List ac)}(r:e≠9)(l:a.length=L.length)(p:aQ 6 e w V L.length a.flatten)(q:∀(i:Nat)(c:List ac)(s:Stp),a[i]?=J c->L[i]?=J s->nK w c s)
 (n:css2.length=L2.length)(h:∀(i:Nat)(c:List ac)(s:Stp),css2[i]?=J c->L2[i]?=J s->nK w c s)(j:Keeps (λk=>V.ownBlock=J k) w w')
 (g:aQ 6 e w' V' (L.length+L2.length) (a.flatten++css2.flatten)):cK e w' V' (L++L2):=by
 have m:∀(k:Nat)(c:Array ac),w.heap[k]?=J (X c 9 (0,0))->¬V.ownBlock=J k:=λk c d o=>by
  obtain⟨t,b⟩:=p.D5 o;rw[d]at b;injection b with b;injection b with _ b _;exact r b.symm
 refine⟨a++css2,by rw[cn,cn,l,n],by rw[cn,List.flatten_append];exact g,λi c s d f=>?_⟩;by_cases hi:i<a.length
 .rw[ec hi]at d;rw[ec (by omega)]at f;exact(q i c s d f).A0 j m
 .rw[cL (by omega)]at d;rw[cL (by omega)]at f;rw[<-l]at f;exact(h _ c s d f).A0 j m
def cK.L7{a:List (List ac)}(m:e≠9)(h:a.length=L.length)(j:aQ 6 e w V L.length a.flatten)(l:∀(i:Nat)(c:List ac)(s:Stp),a[i]?=J c->L[i]?=J s->nK w c s)
 (n:nK w c s)(g:Keeps (λk=>V.ownBlock=J k) w w')(b:aQ 6 e w' V' (L.length+1) (a.flatten++c)):cK e w' V' (L++ [s]):=
 cK.N3 (css2:= [c]) (L2:= [s]) m h j l rfl (λi p o d f=>by
  cases i with
  | zero=>simp at d f;subst d;subst f;exact n
  | succ i=>simp at d) g (by simpa using b)
end
def lU(w:S)(d c b a e f:ac)(T:dv):∀(j:Nat)(u:ac),[d,c,b,a,e,f][j]?=J u->(w.alloc (X #[d,c,b,a,e,f] T)).cell? ((⟨w.heap.size,0,I⟩:Addr).add j)=J u:=λj u g=>by
 rw[Addr.add_lit,Nat.zero_add];exact(aA (aL w _)).trans (by simpa using g)
def aA8(w:S)(V:ac)(L:List Stp)(e:bg)(w':S):Prop:=∃a,e=Z a/\cK 147 w' a L/\Keeps (λk=>V.ownBlock=J k) w w'/\∀k,a.ownBlock=J k->V.ownBlock=J k\/w.heap.size<=k
def tF(t:Tr):Prop:=∀(F:Nat->Prop)(w:S)(v V:ac)(L:List Stp),cS F w v t->cK 147 w V L->(∀k,F k->V.ownBlock≠J k)->L.length+t.F3.length<=1048576->ai C 122 #[V,v] w λe w'=>aA8 w V (L++t.F3) e w'
end
def aJK(w:S)(s:ByteArray)(a:Nat)(c:a<s.size)(f:s.size<=2147483648)(b:¬a+1<s.size):ai C 155 #[s,a] w λe w'=>
 e=Z (gP a (jG (s.data.toList.drop (a+1))))/\dl w w w':=by
 have d:O.wrap ((a:Int)+1)=((a+1:Nat):Int):=by rw[b9];omega
 rw[cY b];go_enter eu,ew;go_wp2_with fail;exact bb (v:=gP a .cut) (by simp[aw,fa,go_sem,gP]) rfl ⟨rfl,(dk _ _).alloc (hU _) _⟩
def aJL(w:S)(s:ByteArray)(c:Nat)(H:s.size<=2147483648)(K:c+1<s.size)(a:s[c+1]≠117):ai C 155 #[s,c] w λe w'=>
 e=Z (gP c (jG (s.data.toList.drop (c+1))))/\dl w w w':=by
 obtain⟨p,d⟩:∃p,c+1=p:=⟨_,rfl⟩;have a:s[p]'(by omega)≠117:=by subst d;exact a
 rw[d];have k:p<s.size:=by omega
 have L:O.wrap ((c:Int)+1)=(p:Int):=by rw[b9];omega
 have T:¬(s.size:Int)<=(p:Int):=by omega
 have V:(p:Int)<(s.size:Int):=by omega
 rw[bA k,jG,py a];have h:=A (λW=>aCR W s[p]);have l:M (∀W:S,ai C 156 #[N O 92,N O p] W λe w'=>e=Z (Q #["",N O 0,N O 92,N O (p:Int),R Y])/\dl W.heap.size W w'):=λW=>mA W 92 p
 have e1:(((s[p].toNat:Nat):Int)!=117)=ag:=by
  have:s[p].toNat≠117:=λe=>a (kb e);simp;omega
 have m:=A d;have g:(w.alloc (X #["",N O 0,N O 0,N O 0,R Y] 200)).heap[w.heap.size]?=J (X #["",N O 0,N O 0,N O 0,R Y] 200 (0,0)):=aL w _;have i:=(dk w w).alloc (hU _) (X #["",N O 0,N O 0,N O 0,R Y] 200);clear a d;cases j:cO s[p]with
 | none=>
  have d:gN s[p]= -1:=by rw[gN,j]
  rw[d]at h;clear j d;go_enter eu,ew;go_wp2_with fail;refine(h.o _).mono ?_;rintro e w2 ⟨rfl,rfl⟩;go_wp2_with fail;refine(l.o _).mono ?_;rintro e w3 ⟨rfl,a⟩;have n:=A (keep g a);have o:=A (chain i a);obtain⟨z,c1,c2,B,F,G⟩:=cells5 (keep g a);clear a g i;go_wp2;obtain⟨P,q⟩:=aS (dm ⟨#[]⟩) (N O 0) (N O 92) (N O (p:Int)) (R Y) n.o o.o (hU _);have f:=A q;obtain⟨r,t,u,x,y,_⟩:=cells5 P;exact bb (v:=Q #["",N O 0,N O 92,N O (p:Int),R Y]) (by simp[aw,fa,go_sem,r,t,u,x,y]) rfl ⟨by rw[<-m.o];simp[gP],f.o⟩
 | some b=>
  have d:gN s[p]=(b.toNat:Int):=by rw[gN,j]
  rw[d]at h;clear j d;have j:¬(b.toNat:Int)<0:=by omega
  have q5:ar.wrap (b.toNat:Int)=(b.toNat:Int):=by rw[ms];have:=b.toNat_lt;omega
  go_enter eu,ew;go_wp2_with fail;generalize w.alloc (X #["",N O 0,N O 0,N O 0,R Y] 200)=w1 at*;refine(h.o _).mono ?_;rintro e w2 ⟨rfl,rfl⟩
  have d:(convert 22 9 (aj w2 1 1)).run C (w2.alloc (X #[N ar b.toNat] 5))=bj (dm ⟨#[b]⟩) (w2.alloc (X #[N ar b.toNat] 5)):=
   fK (Win.I6 (Row.E9 0 5 bZ w2 [b] (dr _) (by simp;unfold dw;omega)))
  have a:=(dk w2 w2).alloc (hU _) (X #[N ar b.toNat] 5);have n:=A (keep g a);have o:=A (chain i a);obtain⟨z,c1,c2,B,F,G⟩:=cells5 (keep g a);clear a g i;go_wp2;obtain⟨P,q⟩:=aS (dm ⟨#[b]⟩) (N O 2) (N O 0) (N O 0) (R Y) n.o o.o (hU _);have f:=A q;obtain⟨r,t,u,x,y,_⟩:=cells5 P;exact bb (v:=Q #[dm ⟨#[b]⟩,N O 2,N O 0,N O 0,R Y]) (by simp[aw,fa,go_sem,r,t,u,x,y]) rfl ⟨by simp[gP],f.o⟩
def oH{b:Bool}:∀{m n no a:Nat}{l:Oo},cX b m n l=.bad no a->no=92\/no=93
 | 0,_,_,_,l,h=>by rw[cX]at h;cases h
 | m+1,_,_,_,[],h=>by rw[cX]at h;cases h
 | m+1,n,no,a,c::l,h=>by
  rw[cX]at h;split at h
  .injection h with d h2;subst d;cases b<;>simp
  .split at h
   .injection h with d h2;exact af d.symm
   .exact oH h
def pK{a:Bool}{m n r:Nat}(h:cX a (m+1) n l=.ok r):∃v t,v<16/\gV a (3-m) n v=Y/\cX a m (16*n+v) t=.ok r:=by
 cases l with
 | nil=>rw[cX]at h;cases h
 | cons c t=>
  rw[cX]at h;split at h
  .cases h
  .rename_i v b;split at h
   .cases h
   .rename_i d;exact⟨v,t,aAQ b,by simpa using d,h⟩
def vB{a:Bool}{r:Nat}(h:cX a 4 0 l=.ok r):r<=65535/\(a=Y->r<56320\/57343<r)/\(a=ag->56320<=r/\r<=57343):=by
 obtain⟨g,i,a1,b1,h⟩:=pK h;obtain⟨j,b,a2,b2,h⟩:=pK h;obtain⟨d,c,a3,b3,h⟩:=pK h;obtain⟨k,f,a4,b4,h⟩:=pK h;rw[cX]at h;injection h with h;cases a<;>simp[gV]at b1 b2<;>refine⟨by omega,λe=>?_,λe=>?_⟩<;>first|omega|(cases e;done)
def aGk{G:Nat->Prop}{w:S}{s:LS}(h:aG G w p x s toks):aG G (w.setCell ⟨p,8,I⟩ U) p x s toks:=by
 obtain⟨f,g,q,n,lb,l,a,b,d,j,m,i,o⟩:=h;have c:Keeps (λk=>k=p) w (w.setCell ⟨p,8,I⟩ U):=(ao (λk=>k=p) w).A3 (p:=⟨p,8,I⟩) (D rfl) _;exact⟨λk h=>a7 (f k h) c.size,g,q,n,lb,l,a,b,d,aB j _,m.B8 c (λk h e=>d.a.2.1 (e▸h)),i.B8 c (λk h e=>d.a.2.2.1 (e▸h)),o.A0 c (λk h e=>d.a.2.2.2 (e▸h))⟩
def aKI(F:Nat->Prop)(w:S)(p:Nat)(o:Out)(e:bg)(w':S):Prop:=
 Keeps F w w'/\match o with
 | .error (no,a)=>e=Z (cU no a)
 | .ok y=>e=Z U/\aG (Since F w w') w' p y (ak y.d Y) []
def aEd(F:Nat->Prop)(w:S)(p:Nat)(x:Ps)(l:Oo)(v:ac)(r:aG F w p x (ak x.d Y) [])(g9:fF x)(hv:BytesIn F w v l)(hl:l.length<=4294967296):
 ai C 18 #[E p,v] w λe w'=>aKI F w p (x.C4 po l) e w':=by
 have i5:=hv;obtain⟨a,cap,h8,_⟩:=i5;have s:=r.lt;have d:=r.O5;have i8:=s p d;obtain⟨W,hW⟩:∃W,(w.alloc (X #[E p] 43)).alloc (X #[v] 22)=W:=⟨_,rfl⟩;have t:Keeps (λ_=>False) w W:=by rw[<-hW];exact((ao _ w).A5 _).A5 _
 have j:W.heap[w.heap.size]?=J (X #[E p] 43 (0,0)):=by rw[<-hW];exact(de _ _ _ (by simp)).trans (aL w _)
 have z:W.heap[w.heap.size+1]?=J (X #[v] 22 (0,0)):=by rw[<-hW];have:=aL (w.alloc (X #[E p] 43)) (X #[v] 22);rwa[my]at this
 have h9:W.heap.size=w.heap.size+2:=by rw[<-hW];simp
 have L:=r.B8 t (λ_ _=>id);obtain⟨c8,c9,cf,c5,c1⟩:=L.cells;have h0:=aL W.drew (X #[U] 26);have f:Keeps (λ_=>False) W (W.drew.alloc (X #[U] 26)):=((ao _ W).B0).A5 _;have m:∀k,w.heap.size<=k->¬F k:=λk hk hf=>absurd (s k hf) (me.2 hk)
 have n:=aCm F (W.drew.alloc (X #[U] 26)) p (w.heap.size+1) w.heap.size x l v (L.B8 f (λ_ _=>id)) g9
  (by obtain⟨a,cap,V,q,H,K⟩:=hv;exact⟨a,cap,V,q,H,K.imp id (λ⟨g,off,e1,e2,c⟩=>⟨g,off,e1,e2,λi x hi=>(t.same f).B6 (c i x hi) id⟩)⟩) hl (f.B4 z id) (f.B4 j id) (m _ (by omega)) (m _ (hU _))
 have P:¬F W.heap.size:=m _ (by omega);have h:=aEc W.drew (w.heap.size+1) w.heap.size _ n (λe w' T=>T.1.B4 h0 P);have B:Keeps F w (W.drew.alloc (X #[U] 26)):=((t.same f).mono λ_ r=>r.elim);obtain⟨h5,G⟩:∃h5,x.C4 po l=h5:=⟨_,rfl⟩;rw[G]at h⊢;have i0:=A d;have i6:p≠W.heap.size:=by omega
 have i1:=A (show w.heap.size≠p by omega);cases h5 with
 | error er=>
  obtain⟨no,c⟩:=er
  have HC:=A (h.mono (R':=λe w2=>e=Z (cU no c)/\Keeps F w w2/\(∃u,w2.cell? ⟨p,8,I⟩=J u)/\(∀o,w2.frozen? ⟨p,o,I⟩=Y)/\w2.cell? w=J (E p)) λe w2 T=>by
   obtain⟨w1,T⟩:=T
   have h6:mO F (W.drew.alloc (X #[U] 26)) p (bp (no,c)) (bT no c) w1/\e=Z (cU no c)/\w2=w1.setCell ⟨W.heap.size,0,I⟩ (cU no c):=by
    rcases T with⟨V,_,_⟩|⟨i2,i3,V,q,H⟩
    .have:=V.2.1;unfold bT at this;cases this
    .have K:=V.2.1;unfold bT cU at K;injection K with K;simp at K;obtain⟨e1,e2⟩:=K;obtain rfl:i2=no:=(by omega);obtain rfl:i3=c:=(by omega);exact⟨V,q,H⟩
   obtain⟨⟨hk,_,v0,v1,v2,v3,v4,v5,v6,v7,v8,v9,hb⟩,rfl,rfl⟩:=h6;have H:=(aE (w:=w1) (b:=W.heap.size) (o:=0) (k:=p) (cU no c) i6).trans hb;obtain⟨-,-,-,-,-,-,-,-,d8,-,df⟩:=b8 H;have q:(w1.setCell ⟨W.heap.size,0,I⟩ (cU no c)).heap[w.heap.size]?=_:=(aE (w:=w1) (b:=W.heap.size) (o:=0) (k:=w.heap.size) (cU no c) (by omega)).trans (hk.B4 (f.B4 j id) (m _ (hU _)));exact⟨rfl,(B.same hk).A3 (p:=⟨W.heap.size,0,I⟩) (af (by rw[h9];exact gd _ 2)) _,⟨_,d8⟩,df,bh q⟩)
  have k0:=bh z;have k1:=bh j;subst h8;clear L h0 f m n P h B G r g9 s d z j t hv;subst hW;go_enter func18,ntmps18;go_wp2
  go_region_with (go_at_call 52;refine(HC.o).mono ?_;rintro e w2 ⟨he,H,⟨u,hu⟩,i9,q⟩;unfold cU at he;subst he)
  all_goals
   have h7:=A H;have i7:(w2.setCell ⟨p,8,I⟩ (ah 151 (Q #[no,c]))).cell? ⟨p,8,I⟩=J (ah 151 (Q #[no,c])):=fd _ _ _ (by rw[hu];rfl)
   have i4:(w2.setCell ⟨p,8,I⟩ (ah 151 (Q #[no,c]))).cell? w=J (E p):=by
    rw[ge (aE _ i1.o)];exact q
   clear H;go_wp2;go_ret;exact⟨h7.o.A3 (p:=⟨p,8,I⟩) (D i0.o) _,rfl⟩
 | ok y=>
  have HC:=A (h.mono (R':=λe w2=>e=Z U/\Keeps F w w2/\aG (Since F w w2) w2 p y (ak y.d Y) []/\w2.cell? w=J (E p)) λe w2 T=>by
   obtain⟨w1,T⟩:=T
   have h6:mO F (W.drew.alloc (X #[U] 26)) p (au y) (Z (ae #[])) w1/\e=Z U/\w2=w1.setCell ⟨W.heap.size,0,I⟩ U:=by
    rcases T with r|⟨i2,i3,V,-,-⟩
    .exact r
    .have K:=V.2.1;unfold bT at K;cases K
   obtain⟨⟨hk,_,K⟩,rfl,rfl⟩:=h6;have i3:(W.drew.alloc (X #[U] 26)).heap.size=W.heap.size+1:=by simp
   have V:Keeps (λk=>k=W.heap.size) w1 (w1.setCell ⟨W.heap.size,0,I⟩ U):=(ao (λk=>k=W.heap.size) w1).A3 (p:=⟨W.heap.size,0,I⟩) (D rfl) _;have c:=K.B8 V (λk r e=>r.elim (λr=>P (e▸r)) (λr=>by have:=r.1;omega));have i2:Keeps F w (w1.setCell ⟨W.heap.size,0,I⟩ U):=(B.same hk).A3 (p:=⟨W.heap.size,0,I⟩) (af (by rw[h9];exact gd _ 2)) _;have q:(w1.setCell ⟨W.heap.size,0,I⟩ U).heap[w.heap.size]?=_:=(aE (w:=w1) (b:=W.heap.size) (o:=0) (k:=w.heap.size) U (by omega)).trans (hk.B4 (f.B4 j id) (m _ (hU _)));exact⟨rfl,i2,c.mono (λk r=>r.elim D (λr=>af ⟨bo B.size r.1,a7 r.2 V.size⟩)) (aF s i2.size),bh q⟩)
  have k0:=bh z;have k1:=bh j;subst h8;clear L h0 f m n P h B G r g9 s d z j t hv;subst hW;go_enter func18,ntmps18;go_wp2
  go_region_with (go_at_call 52;refine(HC.o).mono ?_;rintro e w2 ⟨rfl,H,c,q⟩;have d:=c.cells;have hu:=d.1)
  all_goals
   have h7:=A H;have f:=A c;have h:=A (aGk c);have i7:(w2.setCell ⟨p,8,I⟩ U).cell? ⟨p,8,I⟩=J U:=fd _ _ _ (by rw[hu];rfl)
   have i4:(w2.setCell ⟨p,8,I⟩ U).cell? w=J (E p):=by
    rw[ge (aE _ i1.o)];exact q
   clear H c d;go_wp2;go_ret;exact⟨h7.o.A3 (p:=⟨p,8,I⟩) (D i0.o) _,rfl,h.o.mono (λk r=>r.E8 (by simp[cj])) (λk r=>a7 (f.o.lt k (r.E8 (by simp[cj]))) (by simp[cj]))⟩
def aCn(F:Nat->Prop)(w:S)(p:Nat)(o:Out)(e:bg)(w':S):Prop:=
 Keeps F w w'/\match o with
 | .error (no,a)=>e=bT no a/\iA w' p
 | .ok y=>e=Z (ae #[])/\∃s,aG (Since F w w') w' p y s []
def aLI(F:Nat->Prop)(w:S)(p:Nat)(x:Ps)(h:aG F w p x (ak x.d Y) [])(g:x.d.Fine):
 ∃lb,w.cell? ⟨p,2,I⟩=J (E (J ⟨lb,0,I⟩))/\ai C 78 #[E (J ⟨lb,0,I⟩)] w λe w'=>Keeps F w w'/\
  (x.d.C0.2.2.1=0->e=Z U/\∃s,aG (Since F w w') w' p x s x.d.C0.2.1)/\
  (x.d.C0.2.2.1≠0->e=Z (cU x.d.C0.2.2.1 x.d.C0.2.2.2)/\∃s,aG (Since F w w') w' p x s x.d.C0.2.1):=by
 obtain⟨c,G,B,y,lb,v,a,b,f,o,H,u,z⟩:=h;refine⟨lb,by rw[aA o];rfl,(aGg G w lb x.d [] H g.number g.numeral g.a g.b (vF g).2.2.2.2 (by simp)).mono ?_⟩;rintro e w' ⟨i,n,t⟩;have d:Keeps F w w':=i.mono f.d;have l:=u.B8 i (λk h e=>f.g k e h);have j:=z.A0 i (λk h e=>f.f k e h);have m:=f.P2 (w:=w) (w':=w') (c p f.a.1) u.2.1 z.lt;refine⟨d,λr=>?_,λr=>?_⟩
 .obtain⟨rfl,q⟩:=n r;exact⟨rfl,ak _ ag,aF c d.size,_,B,y,lb,v,a,b,m,i.B4 o f.a.2.1,q,l,j⟩
 .obtain⟨rfl,pl,K,q⟩:=t r;exact⟨rfl,.dead pl K _,aF c d.size,_,B,y,lb,v,a,b,m,i.B4 o f.a.2.1,q,l,j⟩
def aGl(x:Lx):x.C0.2.1.length<=1:=by
 unfold Lx.C0;split
 .simp
 .split
  .simp
  .cases x.B7 with
   | none=>simp
   | some p=>simp
def aGm(F:Nat->Prop)(w:S)(p:Nat)(x:Ps)(V:aG F w p x (ak x.d Y) [])(n:fF x):
 ai C 53 #[E p] w λe w'=>cI e/\aCn F w p (x.B7 po) e w':=by
 have z:=V.lt;have g7:=A z;obtain⟨lb,h0,t⟩:=aLI F w p x V n.c;have u:=qT (x:=x.d);have v:=n.O4;have B:=aGl x.d;obtain⟨r,W⟩:∃r,x.d.C0=r:=⟨_,rfl⟩;rw[W]at t u B v;obtain⟨d,hd⟩:∃d,fq po {x with d:=r.1} r.2.1=d:=⟨_,rfl⟩;have a:x.B7 po=qV r d:=by rw[<-hd,<-W];rfl
 have H:cH {x with d:=r.1} (bW x):=n.ps.R2 r.1;have K:=A (λ(G:Nat->Prop)(w1:S)(s:LS)(h1:aG G w1 p x s r.2.1)=>aBf G w1 p {x with d:=r.1} s r.2.1 (bW x) h1 u H v (by omega));rw[hd]at K;have L:=A t;by_cases l:r.2.2.1=0
 .have HG:=A (show ∀(e:bg)(w':S),((r.2.2.1=0->e=Z U/\∃s,aG (Since F w w') w' p x s r.2.1)/\(r.2.2.1≠0->e=Z (cU r.2.2.1 r.2.2.2)/\∃s,aG (Since F w w') w' p x s r.2.1))->e=Z U/\∃s,aG (Since F w w') w' p x s r.2.1 from λe w' V=>V.1 l);cases d with
  | error er=>
   obtain⟨no,g8⟩:=er;rw[a];clear a H u B v hd W V n z t l;go_enter dp,dq;go_wp2_with fail;refine(L.o).mono ?_;rintro e w1 ⟨b,c⟩;obtain⟨rfl,s,f⟩:=HG.o _ _ c;have m:=A (K.o _ w1 _ f);have i:=A b;clear c f b;go_wp2_with fail;refine(m.o).mono ?_;rintro e w2 ⟨-,g,o,h⟩;have j:=A g;have HD:=A h;clear g h;unfold bT at o;subst o;go_wp2_with fail;exact⟨rfl,af ⟨_,_,rfl⟩,i.o.C3 j.o,rfl,HD.o⟩
  | ok q=>
   simp only[qV]at a;rw[py (λV=>V l)]at a
   have g5:(q.b≠6/\((q.b:Int)!=6)=ag)\/(q.b=6/\((q.b:Int)!=6)=Y):=by
    by_cases y:q.b=6
    .exact af ⟨y,by simp;omega⟩
    .exact D ⟨y,by simp;omega⟩
   rcases g5 with⟨P,e6⟩|⟨P,e6⟩
   .rw[pz P]at a;rw[a];have g9:=A (λw=>gZ w 95 q.a);clear a H u B v hd W V n z t l P;go_enter dp,dq;go_wp2_with fail;refine(L.o).mono ?_;rintro e w1 ⟨b,c⟩;obtain⟨rfl,s,f⟩:=HG.o _ _ c;have m:=A (K.o _ w1 _ f);have i:=A b;clear c f b;go_wp2_with fail;refine(m.o).mono ?_;rintro e w2 ⟨T,g,o,y⟩;subst o;have j:=A g;obtain⟨c8,c9,cf,c5,c1⟩:=y.cells;clear T g;have g6:=A y.H8;clear y;go_wp2_with fail;refine(mH _).mono ?_;rintro e w3 ⟨rfl,rfl⟩;go_wp2_with fail;refine(g9.o _).mono ?_;rintro e w3 ⟨o,rfl⟩;unfold bT at o;subst o;go_wp2_with fail;exact⟨rfl,af ⟨_,_,rfl⟩,i.o.C3 j.o,rfl,g6.o⟩
   .rw[py (λV=>V P)]at a;rw[a];clear a H u B v hd W V n z t l P;go_enter dp,dq;go_wp2_with fail;refine(L.o).mono ?_;rintro e w1 ⟨b,c⟩;obtain⟨rfl,s,f⟩:=HG.o _ _ c;have m:=A (K.o _ w1 _ f);have i:=A b;clear c f b;go_wp2_with fail;refine(m.o).mono ?_;rintro e w2 ⟨T,g,o,y⟩;subst o;have j:=A g;obtain⟨c8,c9,cf,c5,c1⟩:=y.cells;clear T g;have P:=A y;clear y;go_wp2_with fail;refine(mH _).mono ?_;rintro e w3 ⟨rfl,rfl⟩;go_wp2;go_end0;have y:=i.o.C3 j.o;exact⟨D rfl,y,rfl,s,P.o.mono (λk V=>V.trans i.o.size j.o.size) (aF g7.o y.size)⟩
 .have HG:=A (show ∀(e:bg)(w':S),((r.2.2.1=0->e=Z U/\∃s,aG (Since F w w') w' p x s r.2.1)/\(r.2.2.1≠0->e=Z (cU r.2.2.1 r.2.2.2)/\∃s,aG (Since F w w') w' p x s r.2.1))->e=Z (cU r.2.2.1 r.2.2.2)/\∃s,aG (Since F w w') w' p x s r.2.1 from λe w' V=>V.2 l);have y:=A (λw=>zF w r.2.2.1 r.2.2.2);cases d with
  | error er=>
   obtain⟨no,g8⟩:=er;rw[a];clear a H u B v hd W V n z t l;go_enter dp,dq;go_wp2_with fail;refine(L.o).mono ?_;rintro e w1 ⟨b,c⟩;obtain⟨rfl,s,f⟩:=HG.o _ _ c;have m:=A (K.o _ w1 _ f);have i:=A b;clear c f b;go_wp2_with fail;refine(m.o).mono ?_;rintro e w2 ⟨-,g,o,h⟩;have j:=A g;have HD:=A h;clear g h;unfold bT at o;subst o;go_wp2_with fail;exact⟨rfl,af ⟨_,_,rfl⟩,i.o.C3 j.o,rfl,HD.o⟩
  | ok q=>
   simp only[qV]at a;rw[pz l]at a;rw[a];clear a H u B v hd W V n z t l;go_enter dp,dq;go_wp2_with fail;refine(L.o).mono ?_;rintro e w1 ⟨b,c⟩;obtain⟨rfl,s,f⟩:=HG.o _ _ c;have m:=A (K.o _ w1 _ f);have i:=A b;clear c f b;go_wp2_with fail;refine(m.o).mono ?_;rintro e w2 ⟨T,g,o,a⟩;subst o;have j:=A g;have HD:=A a.H8;clear T g a;go_wp2_with fail;refine(y.o _).mono ?_;rintro e w3 ⟨o,a⟩;have b:=A a;clear a;unfold bT at o;subst o;go_wp2_with fail;exact⟨rfl,af ⟨_,_,rfl⟩,(i.o.C3 j.o).A7 b.o,rfl,HD.o.A0 (cg (λ_=>False) b.o) id⟩
def zO(F:Nat->Prop)(w:S)(o:Except (Nat×Nat) Tr)(e:bg)(w':S):Prop:=
 Keeps F w w'/\match o with
 | .error (no,a)=>e=Z (ae #[E I,cU no a])
 | .ok t=>∃T v,e=Z (ae #[E (J ⟨T,0,I⟩),U])/\w'.heap[T]?=J (X #[v] 176 (0,0))/\cS (Since F w w') w' v t/\w.heap.size<=T
def oneOf(o:Out):Except (Nat×Nat) Tr:=match o with
 | .error e=>bp e
 | .ok y=>au (y.c.headD .null)
def aAC(F:Nat->Prop)(w:S)(p:Nat)(x:Ps)(g:aG F w p x (ak x.d Y) [])(n:fF x):
 ai C 16 #[E p] w λe w'=>zO F w (oneOf (x.B7 po)) e w':=by
 have f:∀y,x.B7 po=au y->∃t,y.c= [t]:=λy hy=>aE7 n hy;have h:=g.lt;have c:=g.O5;have h0:=h p c;obtain⟨c8,c9,-,-,-⟩:=g.cells;have q:Keeps (λ_=>False) w (w.alloc (X #[U] 26)):=(ao _ w).A5 _;have K:=aL w (X #[U] 26);have r:¬F w.heap.size:=λhf=>absurd (h _ hf) (Nat.lt_irrefl _);have i:=aGm F _ p x (g.B8 q (λ_ _=>id)) n;have d:=aAB w p _ i (λe w' z=>z.1.B4 K r);have j:Keeps F w (w.alloc (X #[U] 26)):=q.mono λ_ g=>g.elim;have g9:p≠w.heap.size:=by omega
 obtain⟨L,l⟩:∃L,x.B7 po=L:=⟨_,rfl⟩;rw[l]at d f⊢;have V:=A c;cases L with
 | error er=>
  obtain⟨no,a⟩:=er
  have HC:=A (d.mono (R':=λe w2=>e=Z (cU no a)/\Keeps F w w2/\(∃u,w2.cell? ⟨p,8,I⟩=J u)/\(∀o,w2.frozen? ⟨p,o,I⟩=Y)) λe w2 z=>by
   obtain⟨w1,z⟩:=z
   have P:aCn F (w.alloc (X #[U] 26)) p (bp (no,a)) (bT no a) w1/\e=Z (cU no a)/\w2=w1.setCell w (cU no a):=by
    rcases z with⟨T,_,_⟩|⟨W,g7,T,m,B⟩
    .have:=T.2.1;unfold bT at this;cases this
    .have H:=T.2.1;unfold bT cU at H;injection H with H;simp at H;obtain⟨e1,e2⟩:=H;obtain rfl:W=no:=(by omega);obtain rfl:g7=a:=(by omega);exact⟨T,m,B⟩
   obtain⟨⟨hk,_,B,v1,v2,v3,v4,v5,v6,v7,v8,v9,hb⟩,rfl,rfl⟩:=P;have m:=(aE (w:=w1) (b:=w.heap.size) (o:=0) (k:=p) (cU no a) g9).trans hb;obtain⟨-,-,-,-,-,-,-,-,d8,-,df⟩:=b8 m;exact⟨rfl,(j.same hk).A3 (p:=w) (af (hU _)) _,⟨_,d8⟩,df⟩)
  clear q K r i d j l g n h c f;go_enter func16,ntmps16;go_wp2_with fail;refine(HC.o).mono ?_;rintro e w2 ⟨he,m,⟨u,hu⟩,g8⟩;unfold cU at he;subst he;have h5:(w2.setCell ⟨p,8,I⟩ (ah 151 (Q #[no,a]))).cell? ⟨p,8,I⟩=J (ah 151 (Q #[no,a])):=fd _ _ _ (by rw[hu];rfl);have B:=A m;clear m;go_wp2;go_region;go_wp2_with fail;exact bb (v:=ae #[E I,ah 151 (Q #[no,a])]) (by simp[aw,results16,go_sem]) rfl ⟨(B.o.A3 (p:=⟨p,8,I⟩) (D V.o) _).B0,rfl⟩
 | ok y=>
  obtain⟨t,ht⟩:=f y rfl
  have g8:oneOf (au y)=au t:=by
   show au (y.c.headD .null)=_;rw[ht];rfl
  rw[g8]
  have HC:=A (d.mono (R':=λe w2=>e=Z U/\Keeps F w w2/\∃s,aG (Since F w w2) w2 p y s []) λe w2 z=>by
   obtain⟨w1,z⟩:=z
   have P:aCn F (w.alloc (X #[U] 26)) p (au y) (Z (ae #[])) w1/\e=Z U/\w2=w1.setCell w U:=by
    rcases z with g|⟨W,g7,T,-,-⟩
    .exact g
    .have H:=T.2.1;unfold bT at H;cases H
   obtain⟨⟨hk,_,s,H⟩,rfl,rfl⟩:=P;have T:Keeps (λk=>k=w.heap.size) w1 (w1.setCell w U):=(ao (λk=>k=w.heap.size) w1).A3 (p:=w) (D rfl) _;have a:=H.B8 T (λk g e=>g.elim (λg=>r (e▸g)) (λg=>by have:=g.1;simp at this;omega));have W:Keeps F w (w1.setCell w U):=(j.same hk).A3 (p:=w) (af (hU _)) _;exact⟨rfl,W,s,a.mono (λk g=>g.elim D (λg=>af ⟨bo j.size g.1,a7 g.2 T.size⟩)) (aF h W.size)⟩)
  have H:=A ht;clear q K r i d j l g n h c f g8 ht;go_enter func16,ntmps16;go_wp2_with fail;refine(HC.o).mono ?_;rintro e w2 ⟨rfl,m,s,h⟩;have a:Keeps (λk=>k=p) w2 ((w2.setCell ⟨p,8,I⟩ U).setCell ⟨p,9,I⟩ (R ag)):=((ao (λk=>k=p) w2).A3 (p:=⟨p,8,I⟩) (D rfl) _).A3 (p:=⟨p,9,I⟩) (D rfl) _;obtain⟨-,FL,T,FP,lb,r,i,K,j,hb,-,P,-⟩:=h;have c:=aB (o:=8) hb U;have f:=aB (o:=9) c (R ag);have d:=P.B8 a (λk g e=>j.a.2.2.1 (e▸g));rw[H.o]at d;have l:=A (aJi T _ r t d);obtain⟨-,-,-,-,-,-,-,-,d8,d9,df⟩:=b8 hb;have W:(w2.setCell ⟨p,8,I⟩ U).cell? ⟨p,8,I⟩=J U:=by rw[aA c];rfl
  have g7:((w2.setCell ⟨p,8,I⟩ U).setCell ⟨p,9,I⟩ (R ag)).cell? ⟨p,3,I⟩=J (E r):=by rw[aA f];rfl
  have B:=A m;have n:=A a;have q:=A j.b;clear m a j hb P c f d;go_wp2_with fail;refine(l.o).mono ?_;rintro e d ⟨rfl,v,rfl,a⟩;have c:=A a;clear a;go_wp2_with fail;have a:Keeps F w (((w2.setCell ⟨p,8,I⟩ U).setCell ⟨p,9,I⟩ (R ag)).alloc (X #[v] 176)):=(B.o.same (n.o.mono λk e=>e▸V.o)).A5 _;refine bb (v:=ae #[E (J ⟨((w2.setCell ⟨p,8,I⟩ U).setCell ⟨p,9,I⟩ (R ag)).heap.size,0,I⟩),U]) (by simp[aw,results16,go_sem]) rfl ⟨a,_,v,rfl,aL _ _,?_,?_⟩
  .exact(c.o.A0 (G:=λ_=>False) ((ao _ _).A5 _) (λ_ _=>id)).mono (λk g=>(q.o k g).E8 (by simp[cj]))
  .simp[cj];exact B.o.size
def aGn(w:S)(d:Nat)(s:1<=d)(r:d<=512):ai C 47 #[d] w λe w'=>∃p,e=Z (ae #[E (J ⟨p,0,I⟩),U])/\Keeps (λ_=>False) w w'/\aG (Since (λ_=>False) w w') w' p (bk d) (ak Lx.E9 Y) []:=by
 have u:¬(d:Int)<1:=by omega
 have x:¬(512:Int)<(d:Int):=by omega
 have o:=A (aBv w);obtain⟨n,b⟩:∃n,w.alloc (X #[N O 0,U,R Y,co (cr 104) #[] #[],R Y,N O 0,(),N O 0,E I,(),N O 0,N bs 0,N bs 0,()] 228)=n:=⟨_,rfl⟩;rw[b]at o;have c:=A b;clear b;go_enter func47,ntmps47;go_wp2_with fail;refine(o.o).mono ?_;rintro e w1 ⟨rfl,rfl⟩;go_wp2_with fail;refine(aBx _).mono ?_;rintro e w2 ⟨rfl,rfl⟩;go_wp2_with fail;have j:w1.heap.size=w.heap.size+1:=by rw[<-c.o];simp
 have m:Keeps (λ_=>False) w ((w1.alloc (X #[()] 195)).alloc (X (dM (bk d) w.heap.size w1.heap.size (aj I 0 0)) 136)):=by
  rw[<-c.o];exact(((ao _ w).A5 _).A5 _).A5 _
 have g:((w1.alloc (X #[()] 195)).alloc (X (dM (bk d) w.heap.size w1.heap.size (aj I 0 0)) 136)).heap[w.heap.size]?=J (X #[N O 0,U,R Y,co (cr 104) #[] #[],R Y,N O 0,(),N O 0,E I,(),N O 0,N bs 0,N bs 0,()] 228 (0,0)):=by
  refine(de _ _ _ (by simp;omega)).trans ((de _ _ _ (by omega)).trans ?_);rw[<-c.o];exact aL w _
 have f:((w1.alloc (X #[()] 195)).alloc (X (dM (bk d) w.heap.size w1.heap.size (aj I 0 0)) 136)).heap[w1.heap.size]?=J (X #[()] 195 (0,0)):=
  (de _ _ _ (by simp)).trans (aL w1 _)
 have l:((w1.alloc (X #[()] 195)).alloc (X (dM (bk d) w.heap.size w1.heap.size (aj I 0 0)) 136)).heap[w1.heap.size+1]?=J (X (dM (bk d) w.heap.size w1.heap.size (aj I 0 0)) 136 (0,0)):=by
  have:=aL (w1.alloc (X #[()] 195)) (X (dM (bk d) w.heap.size w1.heap.size (aj I 0 0)) 136);rwa[my]at this
 refine bb (v:=ae #[E (J ⟨w1.heap.size+1,0,I⟩),U]) (by simp[aw,results47,go_sem]) rfl ⟨w1.heap.size+1,rfl,m,?_⟩;have a:((w1.alloc (X #[()] 195)).alloc (X (dM (bk d) w.heap.size w1.heap.size (aj I 0 0)) 136)).heap.size=w.heap.size+3:=by simp[j]
 refine⟨aF (λ_ h=>h.elim) m.size,λk=>k=w.heap.size,λk=>k=w1.heap.size,λ_=>False,w.heap.size,w1.heap.size,aj I 0 0,[],⟨?_,?_,λ_ h=>h.elim,⟨?_,?_,?_,id⟩,?_,λ_ _ h=>h,λ_ _ h=>h⟩,l,?_,?_,?_⟩
 .rintro k rfl;exact af ⟨hU _,dt (by omega) a.symm⟩
 .rintro k rfl;exact af ⟨by omega,dt (by omega) a.symm⟩
 .exact af ⟨by omega,dt (by omega) a.symm⟩
 .omega
 .omega
 .rintro k rfl h;omega
 .exact⟨rfl,(by rintro k rfl;exact dt (by omega) a.symm),_,_,_,_,g,.nil _ _ _ _,⟨λh=>(by rcases h with h|h<;>cases h),λh=>(by cases h)⟩⟩
 .exact⟨rfl,(by rintro k rfl;exact dt (by omega) a.symm),_,[],f,.nil _ _ _ _,⟨rfl,λi v t q=>by simp at q⟩⟩
 .exact eO.nil _
def aBj(o:Out):Out:=match o with
 | .error e=>bp e
 | .ok p=>p.B7 po
def aGo(l:Oo)(d:Nat):em po l d=aBj ((bk d).C4 po l):=rfl
def mP(l:List UInt8)(d:Nat):Except (Nat×Nat) Tr:=oneOf (em po l d)
def aEe(w:S)(l:Oo)(d:Nat)(v:ac)(F:1<=d)(s:d<=512)(hv:BytesIn (λk=>w.heap.size<=k) w v l)(H:l.length<=4294967296):
 ai C 12 #[v,d] w λe w'=>zO (λ_=>False) w (mP l d) e w':=by
 have HN:=A (aGn w d F s)
 have V:=A (λ(w1:S)(p:Nat)(j:Keeps (λ_=>False) w w1)(m:aG (Since (λ_=>False) w w1) w1 p (bk d) (ak Lx.E9 Y) [])=>
  aEd (Since (λ_=>False) w w1) w1 p (bk d) l v m (pN d s) (by
   obtain⟨a,cap,b,c,f,h⟩:=hv;exact⟨a,cap,b,c,f,h.imp id (λ⟨g,off,n,q,r⟩=>⟨g,off,n,λL=>L.elim id (λL=>q L.1),λi x hi=>j.B6 (r i x hi) id⟩)⟩) H)
 obtain⟨o,u⟩:∃o,(bk d).C4 po l=o:=⟨_,rfl⟩;rw[u]at V;have c:em po l d=aBj o:=by rw[aGo,u]
 obtain⟨a,cap,W,_⟩:=hv;subst W;unfold mP;cases o with
 | error er=>
  obtain⟨no,f⟩:=er;rw[c];show ai C 12 _ w λe w'=>zO (λ_=>False) w (bp (no,f)) e w';clear c u H F s;go_enter func12,ntmps12;go_wp2_with fail;refine(HN.o).mono ?_;rintro e w1 ⟨p,rfl,j,m⟩;have r:=A (V.o w1 p j m);have P:=A j;clear j m;go_wp2_with fail;refine(r.o).mono ?_;rintro e w2 ⟨b,q⟩;have n:=A b;clear b;unfold cU at q;have q:e=Z (ah 151 (Q #[no,f])):=q;subst q;go_wp2_with fail;exact bb (v:=ae #[E I,ah 151 (Q #[no,f])]) (by simp[aw,fe,go_sem]) rfl ⟨P.o.C3 n.o,rfl⟩
 | ok y=>
  have z:=(pN d s).C4 u;have c:em po l d=y.B7 po:=c;rw[c];have B:=A (λ(G:Nat->Prop)(w2:S)(p:Nat)(m:aG G w2 p y (ak y.d Y) [])=>aAC G w2 p y m z);obtain⟨tr,h⟩:∃tr,oneOf (y.B7 po)=tr:=⟨_,rfl⟩;rw[h]at B⊢;clear c u H F s z h;go_enter func12,ntmps12;go_wp2_with fail;refine(HN.o).mono ?_;rintro e w1 ⟨p,rfl,j,m⟩;have r:=A (V.o w1 p j m);have P:=A j;clear j m;go_wp2_with fail;refine(r.o).mono ?_;rintro e w2 ⟨b,rfl,j⟩;have z:=A (B.o _ w2 p j);have n:=A b;clear b j;go_wp2_with fail;refine(z.o).mono ?_;have m:=P.o.C3 n.o;rintro e w3 ⟨s,b⟩;have j:∀k,Since (Since (λ_=>False) w w1) w1 w2 k->Since (λ_=>False) w w2 k:=λk L=>L.trans P.o.size n.o.size;have F:Keeps (λ_=>False) w w3:=m.C3 (s.mono j);have H:=A F;have u:=A (And.intro m.size s.size);have K:=A j;clear s F m j;cases tr with
  | error er=>
   obtain⟨no,f⟩:=er;have q:e=Z (ae #[E I,ah 151 (Q #[no,f])]):=b;clear b;subst q;go_wp2_with fail;exact bb (v:=ae #[E I,ah 151 (Q #[no,f])]) (by simp[aw,fe,go_sem]) rfl ⟨H.o,rfl⟩
  | ok t=>
   obtain⟨T,v,q,j,h,m⟩:=b;have s:=A j;have f:=A h;have F:=A m;clear j h m;subst q;go_wp2_with fail;refine bb (v:=ae #[E T,U]) (by simp[aw,fe,go_sem]) rfl ⟨H.o,T,v,rfl,s.o,f.o.mono (λk L=>Since.trans (w1:=w2) (L.elim (λL=>D (K.o k L)) af) u.o.1 u.o.2),bo u.o.1 F.o⟩
def aMO:lB 22 5 1 1:=⟨underlying22,by decide,by
 have h:(C.info? 5).map (λi=>(i.zero,i.size,i.bytes))=J (J (N ar 0),1,1):=by kernel_rfl
 obtain⟨i,c,a,d,b⟩:=et h;exact⟨i,_,c,a,d,b,rfl⟩⟩
def aM1(w:S)(d:Nat)(c:1<=d)(b:d<=512):ai C 26 #[d] w λe w'=>e=Z (ae #[E w,U])/\w'=w.alloc (X #[d,N O 0,R Y,R Y,(),N O 0,N O 0,()] 159):=by
 have a:¬(d:Int)<1:=by omega
 go_enter func26,ntmps26;go_wp2;exact bb (v:=ae #[E w,U]) (by simp[aw,results26,go_sem]) rfl ⟨rfl,rfl⟩
def aMA{w:S}{f e c a g j:ac}(h:w.heap[b]?=J (X #[f,e,c,a,g,i,d,j] T (0,0))):
 w.cell? b=J f/\w.cell? ⟨b,1,I⟩=J e/\w.cell? ⟨b,2,I⟩=J c/\w.cell? ⟨b,3,I⟩=J a/\w.cell? ⟨b,4,I⟩=J g/\w.cell? ⟨b,5,I⟩=J i/\w.cell? ⟨b,6,I⟩=J d/\w.cell? ⟨b,7,I⟩=J j/\∀o,w.frozen? ⟨b,o,I⟩=Y:=
 ⟨aA h,aA h,aA h,aA h,aA h,aA h,aA h,aA h,free_at h⟩
def aOg(w:S)(r:Nat)(d:ac)(l b:List UInt8)(c:ac->Array ac)(e:bg)(w':S):Prop:=
 e=Z (ae #[])/\∃a,w'.heap[r]?=J (X (c a) 159 (0,0))/\aQ 1 5 w' a (l++b.take (16777217-l.length)).length ((l++b.take (16777217-l.length)).map bZ)/\(∀k,a.ownBlock=J k->d.ownBlock=J k\/(w.heap.size<=k/\k<w'.heap.size))/\Keeps (λk=>k=r\/d.ownBlock=J k) w w'
def aNX(w:S)(r c d:Nat)(v0 v2 v3 v5 v7 h bV:ac)(l b:Oo)(a0:w.heap[r]?=J (X #[v0,c,v2,v3,h,v5,d,v7] 159 (0,0)))(o:aQ 1 5 w h l.length (l.map bZ))(hl:l.length<=16777217)
 (hb:BytesIn (λk=>k=r\/h.ownBlock=J k) w bV b)(i0:b.length<=4294967296)(i1:c<=4611686018427387904)(i2:d<=4611686018427387904):
 ai C 64 #[E r,bV] w λe w'=>aOg w r h l b (λu=> #[v0,N O (c+b.length:Nat),v2,v3,u,v5,N O (d+b.length:Nat),v7]) e w':=by
 obtain⟨-,c1,-,-,c4,-,c6,-,cf⟩:=aMA a0;obtain⟨a,cap,rfl,h7,t,i⟩:=hb;have P:=A (o.ne a0 (by decide));obtain⟨G,K,g8⟩:=o.A8;obtain⟨f,m⟩:∃f,16777217-l.length=f:=⟨_,rfl⟩;obtain⟨k,q⟩:∃k,min b.length f=k:=⟨_,rfl⟩;have h8:max ((16777217:Int)-(l.length:Int)) 0=(f:Int):=by omega
 have h9:min (b.length:Int) (f:Int)=(k:Int):=by omega
 have i3:O.wrap ((16777217:Int)-(l.length:Int))=(16777217:Int)-(l.length:Int):=by rw[b9];omega
 have i4:(0:Int)<=(k:Int):=by omega
 have i5:(k:Int)<=(cap:Int):=by omega
 have i6:O.wrap ((d:Int)+(b.length:Int))=(d:Int)+(b.length:Int):=by rw[b9];omega
 have i7:O.wrap ((c:Int)+(b.length:Int))=(c:Int)+(b.length:Int):=by rw[b9];omega
 have HW:=A o;have H:=A a0;have HK:=A q;have n:=A m;have s:=A i;subst g8;clear a0 o q m i t;rcases hG k with T|V
 .subst T
  have i:b.take (16777217-l.length)= []:=by
   rw[n.o];have:=HK.o;rcases hG f with m|m
   .rw[m];rfl
   .have:b.length=0:=(by omega);rw[List.eq_nil_of_length_eq_zero this];simp
  have m:=A i;have y:=A (show aQ 1 5 w.drew (aj G l.length K) l.length (l.map bZ)from HW.o);clear i;go_enter func64,ntmps64;go_wp2
  go_region_law (refine aMR aMO rfl _ _ rfl rfl y.o _ _ rfl ?_)
  all_goals
   go_wp2_with fail
   all_goals
    go_end0;have i:Keeps (λk=>k=r\/(aj G l.length K).ownBlock=J k) w (((w.drew.setCell ⟨r,4,I⟩ (aj G l.length K)).setCell ⟨r,6,I⟩ (N O ((d:Int)+(b.length:Int)))).setCell ⟨r,1,I⟩ (N O ((c:Int)+(b.length:Int)))):=((((ao _ w).B0).A3 (p:=⟨r,4,I⟩) (D (D rfl)) _).A3 (p:=⟨r,6,I⟩) (D (D rfl)) _).A3 (p:=⟨r,1,I⟩) (D (D rfl)) _;refine⟨rfl,aj G l.length K,aB (aB (aB (w:=w.drew) H.o _) _) _,?_,λk q=>D q,i⟩;rw[m.o,jz];exact HW.o.A0 (F:=λk=>k=r) ((((((ao (λk=>k=r) w).B0).A3 (p:=⟨r,4,I⟩) (D rfl) _).A3 (p:=⟨r,6,I⟩) (D rfl) _).A3 (p:=⟨r,1,I⟩) (D rfl) _)) (λk e q=>P.o (e.trans (congrArg J q)))
 .obtain⟨g,off,rfl,W,o⟩:=s.o.resolve_left (λe=>by subst e;simp at V HK;have:=HK.o;omega);have z:(b.take (16777217-l.length)).length=k:=by rw[n.o,List.length_take,Nat.min_comm];exact HK.o
  have y:=A (show aQ 1 5 w.drew (aj G l.length K) l.length (l.map bZ)from HW.o);obtain⟨B,t⟩:∃B,b.take (16777217-l.length)=B:=⟨_,rfl⟩
  have i:∀j u,(B.map bZ)[j]?=J u->w.drew.cell? ((⟨g,off,I⟩:Addr).add j)=J u:=by
   intro j u L;have v:(⟨g,off,I⟩:Addr).add j=⟨g,off+j,I⟩:=(by unfold Addr.add;split<;>simp_all);rw[v];rw[List.getElem?_map]at L;cases m:B[j]? with
   | none=>rw[m]at L;cases L
   | some x=>
    rw[m]at L;simp at L;subst L;rw[<-t,List.getElem?_take]at m;split at m
    .exact o j x m
    .cases m
  have g9:=A i;have h1:=A t;rw[t]at z;have L:=A z;clear o i t z;have i:g≠r:=λe=>W (D e);clear W i;go_enter func64,ntmps64;go_wp2_with fail
  have i:∀u∈B.map bZ,u.oneCell'=ag:=λu hu=>by
   obtain⟨x,_,rfl⟩:=List.mem_map.1 hu;rfl
  have h2:=A i;have m:(B.map bZ).length=k*1:=by simp[L.o]
  have h3:=A m;clear i m;have i:l.length+k<=dw:=by unfold dw;omega
  have m:(l.length+k)*1<=140737488355328:=by omega
  have h4:=A i;have W:=A m;clear i m
  go_region_law (refine bP aMO rfl _ _ rfl rfl y.o ⟨g,off,I⟩ k k (B.map bZ) rfl h3.o g9.o h2.o V W.o h4.o ?_;intro g' t v w' i g6 z;have o:=z.B4 (show w.drew.heap[r]?=_ from H.o) P.o;obtain⟨-,d1,-,-,d4,-,d6,-,df⟩:=aMA o)
  all_goals
   have HB:=A o;have g7:=A i;have h5:=A g6;have m:=A z;have h6:=A (i.ne o (by decide));clear o i g6 z c1 c4 c6 cf;go_wp2;go_end0;have i:Keeps (λk=>k=r) w' (((w'.setCell ⟨r,4,I⟩ (aj (g',t) (l.length+k) v)).setCell ⟨r,6,I⟩ (N O ((d:Int)+(b.length:Int)))).setCell ⟨r,1,I⟩ (N O ((c:Int)+(b.length:Int)))):=(((ao (λk=>k=r) w').A3 (p:=⟨r,4,I⟩) (D rfl) _).A3 (p:=⟨r,6,I⟩) (D rfl) _).A3 (p:=⟨r,1,I⟩) (D rfl) _;have o:Keeps (λk=>k=r\/(aj G l.length K).ownBlock=J k) w w':=⟨m.o.os,m.o.tape,m.o.output,m.o.size,λk q hn=>m.o.block k q (λe=>hn (af e))⟩;refine⟨rfl,aj (g',t) (l.length+k) v,aB (aB (aB HB.o _) _) _,?_,?_,o.same (i.mono λk e=>D e)⟩
   .rw[h1.o,cn,L.o,kr];exact g7.o.A0 i (λk e q=>h6.o (e.trans (congrArg J q)))
   .intro k' z;cases z;exact h5.o.imp id (λa0=>⟨a0.1,a7 a0.2 i.size⟩)
