/-
  The program, one part of its walk. Conditions: none.
-/
import Derived.Test.YtakkmiomhackiaaGreatDoorAj15
import Derived.Test.YtakkmiomhackiaaGreatDoorAj18
set_option linter.all false
set_option maxRecDepth 100000
set_option maxHeartbeats 16000000
open Go.Proofs.Tryz
open Bool renaming false->Y,true->X
open Except renaming error->az,ok->bu,pure->fg
open Go renaming Calls->L,Ending->fc,KeepsOthers->fm,Value->aj,World->N,lt_of_block->ft,results->dp,run_endLoop->gq,run_endRound->gp
open Go.Proofs.Tryz renaming func112->di,func127->ct,func180->fv,func78->ek,ntmps112->dj,ntmps127->cu,ntmps180->fw,ntmps78->em,prog->Z,results157->dq
open Go.Proofs.YtakkmiomhackiaaGreatDoor.Form renaming D4->gv
open Go.Proofs.YtakkmiomhackiaaGreatDoor.St renaming digit->ah,numeral->fa,within->au
open Option renaming none->U,some->O
open Or renaming inl->af,inr->ai
namespace Go.Proofs.YtakkmiomhackiaaGreatDoor
open Go.RowKit
open Code renaming exit->ew
open Ending renaming returned->h
open Fence renaming wide->dl
open FloatKind renaming f64->cz
open Fn renaming func->eo,yield->fk
open Instr renaming typeAssert->bp
open IntKind renaming i32->ao,i64->J,u8->E
open LoopState renaming exhausted->gu,ready->eu
open Obj renaming cells->Q,deferred->cg,loop->bw
open Proofs renaming intOf->ei
open Keeps renaming A2->ar,A4->bm
open Lx renaming B3->ge,B7->ej,C0->dv,F4->gc,whole->fj
open Pc renaming bad->ee,cut->dy,ok->bx
open Ps renaming B3->gd,C4->gh,C6->gm,C7->bz,D3->fe,D6->gl
open Tok renaming num->co
open aMB renaming C5->go
open eV renaming I0->dt,N7->du
open Result renaming ok->bj
open RowKit renaming Below->ak
open Target renaming collected->fq
open Value renaming agg->ag,bool->B,float->cw,func->cr,iface->ac,int->I,nilIface->cj,pointer->H,slice->av,string->dx,tuple->ae
open World renaming alloc_heap_new->gn,putObj_heap_other->eh,putObj_heap_same->fu,setCell->dw
variable {F:Nat->Prop}{w:N}{P b cd dg hi n s:Nat}{x:Lx}{toks:List Tok}{c:UInt8}{S t:Oo}
def aCh(F:Nat->Prop)(w:N)(b:Nat)(x:Lx)(toks:List Tok)(c:UInt8)(a0:cG F w b x Y toks)(q:x.h=fa)(s:x.b<=x.a)(a:x.number<=8)(i:x.d.length<=1073741824)(K:x.a<=16777216)(W:toks.length<=999):
 L Z 139 #[H b,I E c.toNat] w λe w'=>eV F w b x.a toks (bX x c) e w':=by
 have T:=a0;obtain⟨V,f,j,g0,P,t,v,D,hs⟩:=a0;have z:=hs.d (ai q);have C:(toks.map bU).length<=1000:=by simp;omega
 unfold bX;cases p:aR x.number c with
 | some d=>
  refine(rE w b x.number d _ _ _ _ _ _ _ _ _ _ _ _ j c x.d v a p z.1 i).mono λe w' R=>?_;obtain⟨r,g,l⟩:=aB7 (y:={x with number:=d,d:=x.d++ [c]}) V f D z.2 (ai q) rfl ⟨_,v⟩ (λk e=>tK z.1 D.1 (by decide) e) (λu=>by rw[q]) R;exact dt r g (by rw[jz];exact l)
 | none=>
  simp only[];by_cases r:bL x.number=X
  .rw[pz r];cases o:bitsOf x.d with
   | none=>
    have l:x.B7=U:=(by unfold ej;rw[o];rfl);rw[l];refine(aAA w b x.number _ _ _ _ _ _ _ _ _ _ _ _ j c x.d v a p r z.1 i o).mono ?_;rintro e w' ⟨rfl,d⟩;have g:Keeps F w w':=ar F d;exact du (by decide) rfl g (by rw[jz];exact(T.H8.B8 (G:=λ_=>False) (ar _ d) (λ_ _=>id)).mono (λk g=>af g) (aF f g.size))
   | some d=>
    have l:x.B7=O (x.F4,co x.b (x.a-x.b) d):=(by unfold ej;rw[o];rfl);rw[l];simp only[];refine aCg w b x.number x.a x.b _ _ _ _ _ _ _ _ _ j t c x.d (toks.map bU) d _ v a p r z.1 i o D.1 C s (by omega) ?_;intro w1 R;obtain⟨_,m,S⟩:=aB6 (y:=x.F4) (tok:=co x.b (x.a-x.b) d) V f D rfl rfl (λu=>rfl) R;refine(tH (Since F w w1) w1 b x.F4 (toks++ [co x.b (x.a-x.b) d]) c S rfl K (by simp;omega)).mono ?_;rintro e w2 ⟨rfl,n,hg,hd⟩;refine⟨⟨_,rfl⟩,rfl,m.C3 n,λp=>?_,λp=>?_⟩
    .have:=hg p;rw[kd,nt]at this;exact this.mono (λk g=>g.trans m.size n.size) (aF f (bo m.size n.size))
    .have:=hd p;rw[kd,nt]at this;exact this.mono (λk g=>g.trans m.size n.size) (aF f (bo m.size n.size))
  .have d:bL x.number=Y:=(by simpa using r);rw[py r];refine(aDJ w b x.number _ _ _ _ _ _ _ _ _ _ _ _ _ c v a p d).mono ?_;rintro e w' ⟨rfl,rfl⟩;exact du (by decide) rfl (bm _ _) (by rw[jz];exact T.H8.mono (λk g=>af g) (aF f (hU _)))
def aLG(F:Nat->Prop)(w:N)(b:Nat)(toks:List Tok)(t:Lx×List Tok×Nat×Nat)(e:fc)(w':N):Prop:=
 Keeps F w w'/\(t.2.2.1=0->e=h cj/\cG (Since F w w') w' b t.1 X (toks++t.2.1))/\
 (t.2.2.1≠0->e=h (cU t.2.2.1 t.2.2.2)/\∃pl a,dU (Since F w w') w' b pl a (cU t.2.2.1 t.2.2.2) (toks++t.2.1))
def cG.T4{C:Bool}(D:cG F w b x C toks)(d:Bool):cG F (w.setCell ⟨b,2,U⟩ (B d)) b x d toks:=by
 obtain⟨z,l,j,o,c,i,g,q,t⟩:=D;have a:Keeps (λk=>k=b) w (w.setCell ⟨b,2,U⟩ (B d)):=(bm (λk=>k=b) w).A3 (p:=⟨b,2,U⟩) (af rfl) _;refine⟨z,λk m=>a7 (l k m) a.size,j,o,c,i,aB g _,⟨q.1.A0 a (λk e a=>q.1.ne g (by decide) (e.trans (congrArg O a))),q.2⟩,⟨λD=>?_,λD=>?_⟩⟩
 .have r:=t.d D;exact⟨r.1.A0 a (λk e a=>r.1.ne g (by decide) (e.trans (congrArg O a))),r.2⟩
 .obtain⟨n,f,pl,u,s,v,y⟩:=t.text D;exact⟨⟨n.1.A0 a (λk e a=>n.1.ne g (by decide) (e.trans (congrArg O a))),n.2⟩,f,pl,u,s.A0 a (oZ s g (by decide)),v,y⟩
def aGg(F:Nat->Prop)(w:N)(b:Nat)(x:Lx)(toks:List Tok)(a0:cG F w b x Y toks)(v:x.number<=8)(y:x.h=fa->x.d.length<=x.a)(m:x.a<=16777216)(z:x.b<=x.a)(c:bL x.number=X->x.e=X->x.h=fa)(i9:toks.length<=999):
 L Z 78 #[H b] w λe w'=>aLG F w b toks x.C0 e w':=by
 obtain⟨-,c1,c2,c4,c5,cf⟩:=a0.cells;have h1:=a0.T4 X;have HF:=A a0.1;have h8:(toks.map bU).length<=1000:=by simp;omega
 have d:Keeps F w (w.setCell ⟨b,2,U⟩ (B X)):=(bm F w).A3 (p:=⟨b,2,U⟩) (af a0.1) _;have h9:=A d;have f:cG (Since F w (w.setCell ⟨b,2,U⟩ (B X))) (w.setCell ⟨b,2,U⟩ (B X)) b x X toks:=h1.mono (λk n=>af n) (aF a0.lt d.size);have i2:=A f;cases a:x.e with
 | false=>
  have q:x.C0=(x,[],0,0):=by unfold dv;rw[a];rfl
  rw[q];rw[a]at c4;clear a0 h1 q d f c a v y m z;go_enter ek,em;go_wp2;go_ret;exact⟨h9.o,λ_=>⟨rfl,by rw[jz];exact i2.o⟩,λe=>absurd rfl e⟩
 | true=>
  obtain⟨C,D,T,j0,i3,i0,i,r,P⟩:=h1;obtain⟨d0,d1,d2,d3,d4,d5,d6,d7,d8,d9,da,db,dc,dd,df⟩:=aN i;rw[a]at c4 d4;have HE:=A (lM x.number v);cases s:bL x.number with
  | false=>
   have q:x.C0=(x,[],95,x.a):=(by unfold dv;rw[a,s];rfl);rw[q];rw[s]at HE;have j:=A (f.H8.J0 (cU 95 x.a));clear a0 q d f c a v y m z i r P C D s;go_enter ek,em;go_wp2_with fail;refine(HE.o _).mono ?_;rintro e w1 ⟨rfl,rfl⟩;go_wp2;go_ret;refine⟨h9.o.A3 (p:=⟨b,1,U⟩) (af HF.o) _,λe=>absurd e (show ¬(95:Nat)=0 by decide),λ_=>⟨rfl,x.a,x.b,?_⟩⟩;rw[jz];exact j.o.mono (λk n=>n.E8 (by simp[dw])) (λk n=>j.o.2.1 k (n.E8 (by simp[dw])))
  | true=>
   have R:=c s a;have hr:=P.d (ai R);have S:x.d.length<=1073741824:=bo (y R) (bo m (by decide));rw[s]at HE;cases t:bitsOf x.d with
   | none=>
    have q:x.C0=(x,[],41,x.b):=(by unfold dv;rw[a,s];simp[ej,t]);rw[q];have j:=vR _ b _ _ _ _ _ _ _ _ _ _ _ _ _ T x.d i hr.1 S t
    have i4:=A (j.mono (R':=λe w'=>e=h (B Y)/\w'.cell? ⟨b,5,U⟩=O (I J x.b)/\(∃u,w'.cell? ⟨b,1,U⟩=O u)/\(∀o,w'.frozen? ⟨b,o,U⟩=Y)/\Keeps F w w'/\dU (Since F w w') w' b x.a x.b cj toks) λe w' ⟨s,l⟩=>by
     have V:=f.H8.B8 (G:=λ_=>False) (ar _ l) (λ_ _=>id);have W:=keep i l;obtain⟨-,e1,-,-,-,e5,-,-,-,-,-,-,-,-,ef⟩:=aN W;have K:Keeps F w w':=d.same (ar F l);exact⟨s,e5,⟨_,e1⟩,ef,K,V.mono (λk n=>n.E8 l.size) (aF a0.lt K.size)⟩)
    clear a0 q d f c a v y m z i r P C D s R hr S t j;go_enter ek,em;go_wp2_with fail;refine(HE.o _).mono ?_;rintro e w1 ⟨rfl,rfl⟩;go_wp2_with fail;refine(i4.o).mono ?_;rintro e w2 ⟨rfl,e5,⟨u,e1⟩,ef,j,V⟩;have h7:=A j;have i1:=A (V.J0 (cU 41 x.b));clear j V c1 c2 c4 c5 cf d0 d1 d2 d3 d4 d5 d6 d7 d8 d9 da db dc dd df;go_wp2;go_ret;refine⟨h7.o.A3 (p:=⟨b,1,U⟩) (af HF.o) _,λe=>absurd e (show ¬(41:Nat)=0 by decide),λ_=>⟨rfl,x.a,x.b,?_⟩⟩;rw[jz];exact i1.o.mono (λk n=>n.E8 (by simp[dw])) (λk n=>i1.o.2.1 k (n.E8 (by simp[dw])))
   | some l=>
    have q:x.C0=(x.F4,[co x.b (x.a-x.b) l],0,0):=(by unfold dv;rw[a,s];simp[ej,t]);rw[q];have i1:=vS _ b x.a x.b _ _ _ _ _ _ _ _ _ _ T i0 x.d (toks.map bU) l i hr.1 S t r.1 h8 z (bo m (by decide))
    have i4:=A (i1.mono (R':=λe w'=>e=h (B X)/\Keeps F w w'/\cG (Since F w w') w' b x.F4 X (toks++ [co x.b (x.a-x.b) l])/\(w'.cell? ⟨b,1,U⟩=O cj)) λe w' q=>by
     obtain⟨s,g,off,cap,W,V,i5,j⟩:=q;have i6:Keeps F (w.setCell ⟨b,2,U⟩ (B X)) w':=j.mono λk n=>n.elim (λe=>e▸C) (λe=>r.2 k e);have K:Keeps F w w':=d.same i6
     have hl:cG (Since F w w') w' b x.F4 X (toks++ [co x.b (x.a-x.b) l]):=by
      refine⟨af C,aF a0.lt K.size,_,_,_,_,W,⟨by rw[List.map_append,List.map_cons,List.map_nil];simpa using V,?_⟩,⟨λhs=>?_,λhs=>?_⟩⟩
      .intro k i7;cases i7;exact i5.elim (λe=>af (r.2 _ e)) (λi8=>ai ⟨by simpa[dw]using i8,V.lt rfl⟩)
      .simp[gc]at hs
      .simp[gc,dJ]at hs
     exact⟨s,K,hl,(hl.cells).2.1⟩)
    clear a0 q d f c a v y m z i r P C D s R hr S t i1;go_enter ek,em;go_wp2_with fail;refine(HE.o _).mono ?_;rintro e w1 ⟨rfl,rfl⟩;go_wp2_with fail;refine(i4.o).mono ?_;rintro e w2 ⟨rfl,j,a,e1⟩;have h7:=A j;have c:=A a;clear j a c1 c2 c4 c5 cf d0 d1 d2 d3 d4 d5 d6 d7 d8 d9 da db dc dd df;go_wp2;go_ret;exact⟨h7.o,λ_=>⟨rfl,c.o⟩,λe=>absurd rfl e⟩
def tO{w':N}{y:Lx}{p m a d:aj}{c:Array aj}(C:F b)(r:∀k,F k->k<w.heap.size)(u:w.heap[b]?=O (Q c 228 (0,0)))(D:eK F 232 id w d (toks.map bU))(P:aBw F w x p m a)(R:dJ x.h=X)
 (i:y.f=x.f)(j:y.held=x.held)(l:dJ y.h=X)(g:Keeps (λk=>k=b) w w'){rawV':aj}
 (v:w'.heap[b]?=O (Q #[y.a,cj,B Y,cr (eo (qJ y.h)) #[] #[],y.e,y.b,rawV',y.number,m,a,y.c,I ao y.code,I ao y.g,d] 228 (0,0))):
 Keeps F w w'/\cG (Since F w w') w' b y Y toks:=by
 obtain⟨n,f,K,rfl,o,q,z⟩:=P.text R;have t:f≠b:=oZ o u (by decide);have s:Keeps F w w':=g.mono (λk e=>e▸C);refine⟨s,af C,aF r g.size,rawV',_,a,d,v,D.A0 (G:=λk=>k=b) g (λk e g=>D.1.ne u (by decide) (e.trans (congrArg O g))),⟨λS=>?_,λ_=>⟨?_,f,K,rfl,?_,af q,?_⟩⟩⟩
 .rcases S with S|S<;>(rw[S]at l;cases l)
 .rw[i];exact n.A0 (G:=λk=>k=b) g (λk e g=>n.1.ne u (by decide) (e.trans (congrArg O g)))
 .rw[j];exact o.A0 g t
 .rw[i];exact z
def aCi{w':N}{y:Lx}{p q d i:aj}{T:Array aj}(P:F b)(v:∀k,F k->k<w.heap.size)(R:w.heap[b]?=O (Q T 228 (0,0)))(s:eK F 232 id w i (toks.map bU))(V:aBw F w x p q d)(W:dJ x.h=X)
 (S:x.f.length<=y.f.length)(m:y.held=x.held)(r:dJ y.h=X){c:aj->Array aj}{e:fc}{rawV':aj}
 (hc:∀u,c u= #[I J y.a,cj,B Y,cr (eo (qJ y.h)) #[] #[],B y.e,I J y.b,rawV',I J y.number,q,u,I J y.c,I ao y.code,I ao y.g,i])
 (K:wJ w b d y.f c e w'):e=h (I J 0)/\Keeps F w w'/\cG (Since F w w') w' b y Y toks:=by
 obtain⟨j,f,fp,rfl,n,z,g1⟩:=V.text W;have C:f≠b:=oZ n R (by decide);obtain⟨he,g,off,cap,D,l,hg,t⟩:=K
 have G:Keeps F w w':=t.mono (λk e=>by
  rcases e with rfl|e
  .exact P
  .exact j.2 k e)
 refine⟨he,G,af P,aF v t.size,rawV',_,_,i,by rw[D,hc],⟨s.1.A0 t ?_,λk a=>af (s.2 k a)⟩,⟨λK=>?_,λ_=>⟨⟨l,?_⟩,f,fp,rfl,?_,af z,?_⟩⟩⟩
 .intro k a o;rcases o with rfl|o
  .exact s.1.ne R (by decide) a
  .exact tK j.1 s.1 (by decide) o a
 .rcases K with K|K<;>(rw[K]at r;cases r)
 .intro k a;cases a;exact hg.elim (λe=>af (j.2 _ e)) (λo=>ai ⟨o,l.lt rfl⟩)
 .rw[m];refine n.A0 t ?_;rintro(e|e)
  .exact C e
  .exact uP n j.1 (by decide) e
 .omega
def jO(c:cG F w b x Y toks):dU (Since F w w) w b x.a x.b cj (toks++ []):=by
 rw[jz];exact c.H8.mono (λk a=>af a) (aF c.lt (hU _))
def aGh(F:Nat->Prop)(w:N)(b:Nat)(x:Lx)(toks:List Tok)(c:UInt8)(C:cG F w b x Y toks)(g:x.h=.slash):
 L Z 223 #[H b,I E c.toNat] w λe w'=>eV F w b x.a toks (fD x c) e w':=by
 have o:=C;obtain⟨s,d,m,r,i,l,k,t,v⟩:=C;refine(aHf w b _ _ _ _ _ _ _ _ _ _ _ _ _ _ c k).mono ?_;rintro e w' ⟨q,n⟩;unfold fD;by_cases a:c=92
 .rw[pz a];obtain⟨z,j,p⟩:=q a;obtain⟨f,u⟩:=tO (y:={x with h:=.letterU}) s d k t v (by rw[g];rfl) rfl rfl rfl p j;exact dt z f (by rw[jz];exact u)
 .rw[py a];obtain⟨rfl,rfl⟩:=n a;exact du (by decide) rfl (bm _ _) (jO o)
def aCj(F:Nat->Prop)(w:N)(b:Nat)(x:Lx)(toks:List Tok)(c:UInt8)(C:cG F w b x Y toks)(g:x.h=.letterU):
 L Z 241 #[H b,I E c.toNat] w λe w'=>eV F w b x.a toks (dS x c) e w':=by
 have o:=C;obtain⟨s,d,m,r,i,l,k,t,v⟩:=C;refine(aCH w b _ _ _ _ _ _ _ _ _ _ _ _ _ _ c k).mono ?_;rintro e w' ⟨q,n⟩;unfold dS;by_cases a:c=117
 .rw[pz a];obtain⟨z,j,p⟩:=q a;obtain⟨f,u⟩:=tO (y:={x with c:=0,code:=0,h:=ah}) s d k t v (by rw[g];rfl) rfl rfl rfl p j;exact dt z f (by rw[jz];exact u)
 .rw[py a];obtain⟨rfl,rfl⟩:=n a;exact du (by decide) rfl (bm _ _) (jO o)
def aEa(F:Nat->Prop)(w:N)(b:Nat)(x:Lx)(toks:List Tok)(c:UInt8)(P:cG F w b x Y toks)(a:x.h=.escape)(j:x.f.length<=1073741824):
 L Z 168 #[H b,I E c.toNat] w λe w'=>eV F w b x.a toks (dN x c) e w':=by
 have D:=P;obtain⟨v,g,C,K,f,t,l,z,p⟩:=P;have q:=(p.text (by rw[a];rfl)).1;unfold dN;by_cases k:c=117
 .rw[pz k];subst k;refine(aJd w b _ _ _ _ _ _ _ _ _ _ _ _ _ _ l).mono ?_;rintro e w' ⟨s,r,n⟩;obtain⟨m,o⟩:=tO (y:={x with c:=0,code:=0,h:=ah}) v g l z p (by rw[a];rfl) rfl rfl rfl n r;exact dt s m (by rw[jz];exact o)
 .rw[py k];cases i:cO c with
  | none=>
   refine(aEC w b c k i).mono ?_;rintro e w' ⟨rfl,rfl⟩;exact du (by decide) rfl (bm _ _) (jO D)
  | some d=>
   refine(aCJ w b _ _ _ _ _ _ _ _ _ _ _ _ _ f c d x.f l k i q.1 j).mono λe w' G=>?_;obtain⟨s,n,o⟩:=aCi (y:={x with f:=x.f++ [d],h:=au}) v g l z p (by rw[a];rfl) (by simp) rfl rfl (λu=>rfl) G;exact dt s n (by rw[jz];exact o)

def aQ.S0{e:Nat}{v:aj}{b:List aj}(d:aQ s e w v n b)(c:0<n):∃g off cap,v=av (O ⟨g,off,U⟩) n cap:=by
 rcases d with⟨_,⟨_,c⟩|⟨g,off,cap,a,rfl,_⟩⟩
 .omega
 .exact⟨g,off,cap,rfl⟩
def aIe(w:N):L Z 344 #[ag #[]] w λe w'=>e=h (I J 1)/\ak w w w':=by
 go_enter func344,ntmps344;go_wp2;go_ret;exact⟨rfl,(dk _ _).alloc (hU _) _⟩
def aAo(w:N):L Z 127 #[ag #[ac 177 (ag #[])]] w λe w'=>e=h (av U 0 0)/\ak w w w':=by
 have c:∀w:N,(bp (ac 177 (ag #[])) 97 181 X).run Z w=bj (ae #[H U,B Y]) w:=λ_=>by kernel_rfl
 have b:∀w:N,(bp (ac 177 (ag #[])) 97 187 X).run Z w=bj (ae #[H U,B Y]) w:=λ_=>by kernel_rfl
 have a:=A ((dk w w).alloc (hU _) (Q #[ac 177 (ag #[])] 99));go_enter ct,cu;go_wp2;go_ret;exact⟨rfl,a.o⟩
def aIf(w:N)(c:Bool):L Z 346 #[c] w λe w'=>e=h (I J 2)/\ak w w w':=by
 go_enter func346,ntmps346;go_wp2;go_ret;exact⟨rfl,dk _ _⟩
def aAp(w:N)(c:Bool):L Z 127 #[ag #[ac 178 (B c)]] w λe w'=>e=h (av U 0 0)/\ak w w w':=by
 have d:∀w:N,(bp (ac 178 (B c)) 97 181 X).run Z w=bj (ae #[H U,B Y]) w:=λ_=>by kernel_rfl
 have b:∀w:N,(bp (ac 178 (B c)) 97 187 X).run Z w=bj (ae #[H U,B Y]) w:=λ_=>by kernel_rfl
 have a:=A ((dk w w).alloc (hU _) (Q #[ac 178 (B c)] 99));go_enter ct,cu;go_wp2;go_ret;exact⟨rfl,a.o⟩
def aKp(w:N)(x:Nat):L Z 348 #[cw cz x] w λe w'=>e=h (I J 3)/\ak w w w':=by
 go_enter func348,ntmps348;go_wp2;go_ret;exact⟨rfl,dk _ _⟩
def aBX(w:N)(x:Nat):L Z 127 #[ag #[ac 179 (cw cz x)]] w λe w'=>e=h (av U 0 0)/\ak w w w':=by
 have c:∀w:N,(bp (ac 179 (cw cz x)) 97 181 X).run Z w=bj (ae #[H U,B Y]) w:=λ_=>by kernel_rfl
 have b:∀w:N,(bp (ac 179 (cw cz x)) 97 187 X).run Z w=bj (ae #[H U,B Y]) w:=λ_=>by kernel_rfl
 have a:=A ((dk w w).alloc (hU _) (Q #[ac 179 (cw cz x)] 99));go_enter ct,cu;go_wp2;go_ret;exact⟨rfl,a.o⟩
def aIg(w:N)(s:ByteArray):L Z 350 #[s] w λe w'=>e=h (I J 4)/\ak w w w':=by
 go_enter func350,ntmps350;go_wp2;go_ret;exact⟨rfl,dk _ _⟩
def aAq(w:N)(s:ByteArray):L Z 127 #[ag #[ac 180 (dx s)]] w λe w'=>e=h (av U 0 0)/\ak w w w':=by
 have c:∀w:N,(bp (ac 180 (dx s)) 97 181 X).run Z w=bj (ae #[H U,B Y]) w:=λ_=>by kernel_rfl
 have b:∀w:N,(bp (ac 180 (dx s)) 97 187 X).run Z w=bj (ae #[H U,B Y]) w:=λ_=>by kernel_rfl
 have a:=A ((dk w w).alloc (hU _) (Q #[ac 180 (dx s)] 99));go_enter ct,cu;go_wp2;go_ret;exact⟨rfl,a.o⟩
def aIh(w:N)(b:Nat):L Z 352 #[H b] w λe w'=>e=h (I J 5)/\ak w w w':=by
 go_enter func352,ntmps352;go_wp2;go_ret;exact⟨rfl,dk _ _⟩
def aAr(w:N)(b:Nat)(a:Option Addr)(n c:Nat)(k i f:aj)(m:w.heap[b]?=O (Q #[k,i,f,av a n c] 186 (0,0))):L Z 127 #[ag #[ac 181 (H b)]] w λe w'=>e=h (av a n c)/\ak w w w':=by
 have j:∀w:N,(bp (ac 181 (H b)) 97 181 X).run Z w=bj (ae #[H b,B X]) w:=λ_=>by kernel_rfl
 have d:=(dk w w).alloc (hU _) (Q #[ac 181 (H b)] 99);have l:(w.alloc (Q #[ac 181 (H b)] 99)).cell? ⟨b,3,U⟩=O (av a n c):=aA (keep m d);have g:=A d;clear m d;go_enter ct,cu;go_wp2;go_ret;exact⟨rfl,g.o⟩
def aDH(w:N)(b:Nat):L Z 353 #[H b] w λe w'=>e=h (I J 6)/\ak w w w':=by
 go_enter func353,ntmps353;go_wp2;go_ret;exact⟨rfl,dk _ _⟩
def wD(w:N)(b:Nat)(a:Option Addr)(n c:Nat)(f:Option Addr)(i p:Nat)(o l j:aj)(r:w.heap[b]?=O (Q #[o,l,j,av f i p,av a n c] 189 (0,0))):L Z 127 #[ag #[ac 187 (H b)]] w λe w'=>e=h (av a n c)/\ak w w w':=by
 have g:∀w:N,(bp (ac 187 (H b)) 97 181 X).run Z w=bj (ae #[H U,B Y]) w:=λ_=>by kernel_rfl
 have m:∀w:N,(bp (ac 187 (H b)) 97 187 X).run Z w=bj (ae #[H b,B X]) w:=λ_=>by kernel_rfl
 have d:=(dk w w).alloc (hU _) (Q #[ac 187 (H b)] 99);have q:(w.alloc (Q #[ac 187 (H b)] 99)).cell? ⟨b,4,U⟩=O (av a n c):=aA (keep r d);have k:=A d;clear r d;go_enter ct,cu;go_wp2;go_ret;exact⟨rfl,k.o⟩
def Ps.D0(p:Ps)(x:Lx):Ps:={p with d:=x,a:=x.a}
def eG(p:Ps){x y:Lx}{c:UInt8}(f:x.B5 c=⟨y,[],0⟩)(d:x.a<16777216)(hi:y.e=X)(e:y.b<x.a):(p.D0 x).B3 po c=bu (p.D0 {y with a:=x.a+1}):=by
 have a:¬x.a=16777216:=by omega
 have b:¬x.a+1-y.b=1:=by omega
 simp[gd,ge,Ps.D0,a,f,fe,Lx.E5,hi,b,pure,fg]
def eZ(p:Ps){x y:Lx}{c:UInt8}{no:Nat}(f:x.B5 c=⟨y,[],no⟩)(e:x.a<16777216)(d:no≠0)(a:no≠41):(p.D0 x).B3 po c=az (nO no,x.a):=by
 have b:¬x.a=16777216:=by omega
 simp[gd,ge,Ps.D0,b,f,fe,d,a,pure,fg]
def wM{p q:Ps}(a:p.B3 po c=bu q):p.C4 po (c::t)=q.C4 po t:=by
 unfold gh;rw[ml,a];rfl
def gX{p:Ps}{e:Nat×Nat}(a:p.B3 po c=az e):p.C4 po (c::t)=az e:=by
 unfold gh;rw[ml,a];rfl
def Goes(p:Ps)(l:List UInt8):Pc (Ps×List UInt8)->Prop
 | .cut=>∃q,p.C4 po l=bu q/\q.B7 po=az (95,p.a+l.length)
 | .bad no a=>p.C4 po l=az (no,a)
 | .ok x=>p.C4 po l=x.1.C4 po x.2/\(fF p->fF x.1)
def Goes.C8{p q:Ps}(f:p.B3 po c=bu q)(d:q.a=p.a+1):∀{o:Pc (Ps×Oo)},Goes q t o->Goes p (c::t) o
 | .cut,⟨r,b,e⟩=>⟨r,by rw[wM f];exact b,by rw[e,d,cv];congr 2;omega⟩
 | .bad no a,b=>by show p.C4 po _=_;rw[wM f];exact b
 | .ok x,b=>⟨by rw[wM f];exact b.1,λd=>b.2 (d.B3 f)⟩
def Goes.S7{p q:Ps}{l r:Oo}(e:Goes p l (bx (q,r)))(c:q.a+r.length=p.a+l.length):∀{o:Pc (Ps×Oo)},Goes q r o->Goes p l o
 | .cut,⟨x,b,d⟩=>⟨x,e.1.trans b,by rw[d,c]⟩
 | .bad no a,b=>e.1.trans b
 | .ok x,b=>⟨e.1.trans b.1,λc=>b.2 (e.2 c)⟩
def kB(p:Ps){x:Lx}(hi:x.e=X)(a:bL x.number=Y):Goes (p.D0 x) [] dy:=by
 refine⟨p.D0 x,rfl,?_⟩;simp[Ps.B7,dv,Ps.D0,hi,a,fe,nO,pure,fg]
abbrev aK(a:St)(P s:Nat)(held S:List UInt8)(dg cd hi:Nat):Lx:=⟨P,a,X,s,[],0,held,S,dg,cd,hi⟩
def aDb{b:UInt8}(a:(aC b).D4 (b::t).length c=X):
 (aK au P s (b::t) S dg cd hi).B5 c=⟨aK au P s (if(b::t).length+1=(aC b).wide then []else(b::t)++ [c]) (S++ [c]) dg cd hi,[],0⟩:=by
 show bY _ c=_;unfold bY;simp only[reduceCtorEq,false_and,if_false]
 have:aO (b::t) c=O (if(b::t).length+1=(aC b).wide then []else(b::t)++ [c]):=by
  unfold aO;simp only;rw[pz a];split<;>rfl
 rw[this]
def wB{b:UInt8}(a:(aC b).D4 (b::t).length c=Y):
 (aK au P s (b::t) S dg cd hi).B5 c=⟨aK au P s (b::t) S dg cd hi,[],90⟩:=by
 show bY _ c=_;unfold bY;simp only[reduceCtorEq,false_and,if_false]
 have:aO (b::t) c=U:=by
  unfold aO;simp only;rw[a];rfl
 rw[this]
def aAW(p:Ps)(b s dg cd:Nat)(q:UInt8)(o:s<b):∀(m:Nat)(t l S:Oo),(aC q).wide=(q::t).length+(m+1)->b+(q::t).length+l.length<=16777216->
 Goes (p.D0 (aK au (b+(q::t).length) s (q::t) S dg cd 0)) l
  (match cJ (aC q) (m+1) (q::t).length l with
   | .cut=>dy
   | .bad no a=>ee no (b+a)
   | .ok n=>bx (p.D0 (aK au (b+n) s [] (S++l.take (m+1)) dg cd 0),l.drop (m+1)))
 | m,t,[],S,_,_=>kB p rfl rfl
 | m,t,c::l,S,k,f=>by
  have e:(c::l).length=l.length+1:=rfl;rw[e]at f;rw[cJ];by_cases d:(aC q).D4 (q::t).length c=X
  .rw[pz d];have i:=eG p (aDb (P:=b+(q::t).length) (s:=s) (S:=S) (dg:=dg) (cd:=cd) (hi:=0) d) (show b+(q::t).length<16777216 by omega) rfl (show s<b+(q::t).length by omega);refine Goes.C8 i rfl ?_;cases m with
   | zero=>
    rw[pz,cJ,mc,List.take_zero,kw,kz];exact⟨rfl,id⟩
   | succ m=>
    rw[py];have g:=aAW p b s dg cd q o m (t++ [c]) l (S++ [c]) (by simp at k⊢;omega) (by simp at f⊢;omega);have j:(q::(t++ [c])).length=(q::t).length+1:=(by simp);rw[j]at g;rw[mc,kw,show S++c::l.take (m+1)=S++ [c]++l.take (m+1) by simp];exact g
  .rw[py d];exact gX (eZ p (wB (by simpa using d)) (show b+(q::t).length<16777216 by omega) (by decide) (by decide))
def aBJ(d:c≠34)(a:c≠92)(e:¬c.toNat<32)(b:(aC c).wide≠0):
 (aK au P s [] S dg cd hi).B5 c=⟨aK au P s (if 1<(aC c).wide then [c]else []) (S++ [c]) dg cd hi,[],0⟩:=by
 show bY _ c=_;unfold bY;rw[py (λf=>d f.2),py (λf=>a f.2),py (λf=>e f.2)]
 have:aO [] c=O (if 1<(aC c).wide then [c]else []):=by
  unfold aO;simp only;rw[py b];split<;>rfl
 show(match aO [] c with|none=>_|some f=>_)=_;rw[this]
def uD(d:c≠34)(a:c≠92)(e:¬c.toNat<32)(b:(aC c).wide=0):
 (aK au P s [] S dg cd hi).B5 c=⟨aK au P s [] S dg cd hi,[],90⟩:=by
 show bY _ c=_;unfold bY;rw[py (λf=>d f.2),py (λf=>a f.2),py (λf=>e f.2)]
 have:aO [] c=U:=by
  unfold aO;simp only;rw[pz b]
 show(match aO [] c with|none=>_|some f=>_)=_;rw[this]
def aHE(p:Ps)(P s dg cd:Nat)(c:UInt8)(l S:Oo)(f:c≠34)(e:c≠92)(g:¬c.toNat<32)(j:s<P)(k:P+(c::l).length<=16777216):
 Goes (p.D0 (aK au P s [] S dg cd 0)) (c::l)
  (match eC (c::l)with
   | .cut=>dy
   | .bad no a=>ee no (P+a)
   | .ok n=>bx (p.D0 (aK au (P+n) s [] (S++(c::l).take n) dg cd 0),l.drop (n-1))):=by
 rw[cv]at k;unfold eC;simp only;by_cases b:(aC c).wide=0
 .rw[pz b];exact gX (eZ p (uD f e g b) (show P<16777216 by omega) (by decide) (by decide))
 .rw[py b];refine Goes.C8 (eG p (aBJ f e g b) (show P<16777216 by omega) rfl j) rfl ?_;obtain⟨m,r⟩:∃m,(aC c).wide-1=m:=⟨_,rfl⟩;rw[r];cases m with
  | zero=>
   rw[py,cJ];exact⟨rfl,id⟩
  | succ m=>
   rw[pz];have:=aAW p P s dg cd c j m [] l (S++ [c]) (by simp;omega) (by simp;omega)
   have o:∀n,cJ (aC c) (m+1) 1 l=bx n->n=m+1+1:=by
    have:∀(m i n:Nat)(l:Oo),cJ (aC c) m i l=bx n->n=i+m:=by
     intro m
     induction m with
     | zero=>intro i n l v;cases l<;>(unfold cJ at v;cases v;rfl)
     | succ m t=>
      intro i n l v;cases l with
      | nil=>unfold cJ at v;cases v
      | cons d u=>
       unfold cJ at v;split at v
       .have:=t _ _ _ v;omega
       .cases v
    intro n v;have:=this _ _ _ _ v;omega
   simp only[cv,List.length_nil,Nat.zero_add]at this;revert this;cases q:cJ (aC c) (m+1) 1 l with
   | cut=>exact id
   | bad no a=>exact id
   | ok n=>
    have:=o n q;subst this;intro v;show Goes _ l (bx (p.D0 (aK au (P+(m+1+1)) s [] (S++(c::l).take (m+1+1)) dg cd 0),l.drop (m+1)));rw[mc,show S++c::l.take (m+1)=S++ [c]++l.take (m+1) by simp];exact v
def uE(p:Ps)(b s:Nat)(f:Bool)(hi:Nat)(j:f=decide (hi≠0))(S:Oo)(x:s<b):∀(m n:Nat)(l:Oo),m<=3->b+(3-m)+l.length<=16777216->
 Goes (p.D0 (aK ah (b+(3-m)) s [] S (3-m) n hi)) l
  (match cX f (m+1) n l with
   | .cut=>dy
   | .bad no a=>ee no (b+a)
   | .ok v=>bx (p.D0 {(aK ah b s [] S 4 v hi).whole with a:=b+4},l.drop (m+1)))
 | m,n,[],_,_=>kB p rfl rfl
 | m,n,c::l,z,w=>by
  rw[cv]at w;rw[cX];have d:(aK ah (b+(3-m)) s [] S (3-m) n hi).B5 c=dH (aK ah (b+(3-m)) s [] S (3-m) n hi) c:=rfl;cases o:hexOf c with
  | none=>
   have i:dH (aK ah (b+(3-m)) s [] S (3-m) n hi) c=⟨aK ah (b+(3-m)) s [] S (3-m) n hi,[],if f then 93 else 92⟩:=by
    unfold dH;rw[o,j];by_cases C:hi=0<;>simp[C]
   have:=gX (t:=l) (eZ p (d.trans i) (show b+(3-m)<16777216 by omega) (by cases f<;>decide) (by cases f<;>decide));refine this.trans ?_;cases f<;>rfl
  | some v=>
   simp only
   have g:(aK ah (b+(3-m)) s [] S (3-m) n hi).O0 v=gV f (3-m) n v:=by
    unfold Lx.O0 gV;rw[j];by_cases C:hi=0
    .subst C;simp
    .simp only[C,not_false_eq_true,true_and,decide_true,if_true,ne_eq];by_cases q:3-m=0
     .simp[q]
     .by_cases r:3-m=1
      .simp[r]
      .simp[q,r]
   by_cases k:gV f (3-m) n v=X
   .rw[pz k]
    have i:dH (aK ah (b+(3-m)) s [] S (3-m) n hi) c=⟨aK ah (b+(3-m)) s [] S (3-m) n hi,[],93⟩:=by
     unfold dH;rw[o];simp only;rw[g,pz k]
    exact gX (eZ p (d.trans i) (show b+(3-m)<16777216 by omega) (by decide) (by decide))
   .rw[py k]
    have i:dH (aK ah (b+(3-m)) s [] S (3-m) n hi) c=⟨if(3-m)+1=4 then(aK ah (b+(3-m)) s [] S (3-m+1) (n*16+v) hi).whole else aK ah (b+(3-m)) s [] S (3-m+1) (n*16+v) hi,[],0⟩:=by
     unfold dH;rw[o];simp only;rw[g,py k]
    rw[Nat.mul_comm 16 n];cases m with
    | zero=>
     rw[pz rfl]at i;refine Goes.C8 (eG p (d.trans i) (show b+3<16777216 by omega) ?_ ?_) rfl ?_
     .unfold fj;split
      .rfl
      .split<;>rfl
     .have:(aK ah (b+(3-0)) s [] S (3-0+1) (n*16+v) hi).whole.b=s:=by
       unfold fj;split
       .rfl
       .split<;>rfl
      rw[this];show s<b+3;omega
     .rw[cX];simp only[kw,kz]
      have e:({(aK ah (b+(3-0)) s [] S (3-0+1) (n*16+v) hi).whole with a:=b+(3-0)+1}:Lx)={(aK ah b s [] S 4 (n*16+v) hi).whole with a:=b+4}:=by
       unfold fj;simp only;split
       .rfl
       .split<;>rfl
      show Goes (p.D0 {(aK ah (b+(3-0)) s [] S (3-0+1) (n*16+v) hi).whole with a:=b+(3-0)+1}) l _;rw[e];exact⟨rfl,id⟩
    | succ m=>
     rw[py]at i;refine Goes.C8 (eG p (d.trans i) (show b+(3-(m+1))<16777216 by omega) rfl (show s<b+(3-(m+1)) by omega)) rfl ?_;have y:=uE p b s f hi j S x m (n*16+v) l (by omega) (by omega);rw[kw];have u:3-(m+1)+1=3-m:=(by omega);rw[u];show Goes (p.D0 (aK ah (b+(3-(m+1))+1) s [] S (3-m) (n*16+v) hi)) l _;rw[Nat.add_assoc,u];exact y
def fB.M3{D want:Nat}{a:List Fr}{b:List Tr}(i:fB D want a b)(e:want=5\/want=1\/want=2):∃c f,a=c++ [f]:=by
 cases i with
 | new=>omega
 | done t d=>omega
 | list s _ i d e=>exact⟨_,_,rfl⟩
 | object k s _ i d g=>exact⟨_,_,rfl⟩
def cH.R4{x:Ps}{q:Nat}(b:cH x q):rF x 1073741824:=⟨λm a=>bo (b.V9 m a) (by decide),by have:=b.c;have:=b.h;omega⟩
def zI(y:Ps)(k:UInt8)(b:(93:UInt8)≠k)(a:(125:UInt8)≠k):y.D6 k=Y:=by
 unfold gl;cases d:y.e.getLast? with
 | none=>rfl
 | some f=>
  cases f with
  | list n=>simp[wQ,b]
  | object c=>simp[wQ,a]
def aKy(F:Nat->Prop)(w:N)(p:Nat)(y:Ps)(s:LS)(b:List Tok)(a i:Nat)(l:Oo){q:Nat}(r:aV l=X)(o:l.length<=16777216)(x:aG F w p y s b)(c:cH y q):
 L Z 113 #[H p,ag #[a,i,dx ⟨l.toArray⟩]] w λe w'=>cI e/\dL F w p s b (y.E7 a l) e w':=by
 have u:=c.bytes;have hi:=c.M9;have t:=c.h;have f:=c.c;by_cases m:y.b=2\/y.b=3
 .obtain⟨d,k,g,_⟩:=c.b.N1 m l;have n:=c.R9 (k:=k) (by rw[g];simp);have v:=aBc n.2.1;have j:d.length<=1048576:=by rw[g]at f;simp at f;omega
  exact aKx F w p y s b a i l d k o x g j (by omega) (by omega) m
 .exact aFT F w p y s b a i l r (by omega) x c.R4 (by omega) (by omega) (by omega)
def aFZ(F:Nat->Prop)(w:N)(p:Nat)(x y:Ps)(s:LS)(toks:List Tok)(a:Nat)(G:aG F w p x s toks)(z:x.D6 93=X)(v:x.e.length<=1048576)(c:∀w1,aG F w1 p x s toks->L Z 148 #[H p] w1 λe w2=>e=h (ae #[])/\Keeps F w1 w2/\aG (Since F w1 w2) w2 p y s toks):
 L Z 112 #[H p,ag #[a,I J 1,I E 93]] w λe w'=>cI e/\dL F w p s toks (bu y) e w':=by
 have i:=G.lt;have r:=boxed G (Q #[a,I J 1,I E 93] 238);have d:=aL w (Q #[a,I J 1,I E 93] 238);have b2:(w.alloc (Q #[a,I J 1,I E 93] 238)).cell? ⟨w.heap.size,2,U⟩=O (I E 93):=aA d;have j:=A i;have b:=mK F _ p x s toks 93 r v;rw[z]at b;rw[show((((93:UInt8)).toNat:Nat):Int)=93 from rfl]at b;have t:=A b;have n:=A c;have C:=A r;clear G r i d b c z v;go_enter di,dj;go_wp2_with fail;refine(t.o).mono ?_;rintro e w1 ⟨rfl,g⟩;have D:=A (n.o w1 (C.o.A7 g));have f:=A g;clear g b2;go_wp2_with fail;refine(D.o).mono ?_;rintro e w2 ⟨rfl,k,l⟩;have m:=A k;have u:=A l;clear k l;go_wp2;go_end0;refine⟨af rfl,tL (o:=Q #[a,I J 1,I E 93] 238) j.o ⟨(ar F f.o).same m.o,rfl,u.o.mono (λq G=>G.elim af (λG=>ai ⟨bo f.o.size G.1,G.2⟩)) (aF (λq G=>a7 (j.o q G) (by simp)) (bo f.o.size m.o.size))⟩⟩
def aDZ(F:Nat->Prop)(w:N)(p:Nat)(x y:Ps)(s:LS)(toks:List Tok)(a:Nat)(G:aG F w p x s toks)(z:x.D6 125=X)(v:x.e.length<=1048576)(c:∀w1,aG F w1 p x s toks->L Z 148 #[H p] w1 λe w2=>e=h (ae #[])/\Keeps F w1 w2/\aG (Since F w1 w2) w2 p y s toks):
 L Z 112 #[H p,ag #[a,I J 1,I E 125]] w λe w'=>cI e/\dL F w p s toks (bu y) e w':=by
 have i:=G.lt;have r:=boxed G (Q #[a,I J 1,I E 125] 238);have d:=aL w (Q #[a,I J 1,I E 125] 238);have b2:(w.alloc (Q #[a,I J 1,I E 125] 238)).cell? ⟨w.heap.size,2,U⟩=O (I E 125):=aA d;have j:=A i;have b:=mK F _ p x s toks 125 r v;rw[z]at b;rw[show((((125:UInt8)).toNat:Nat):Int)=125 from rfl]at b;have t:=A b;have n:=A c;have C:=A r;clear G r i d b c z v;go_enter di,dj;go_wp2_with fail;refine(t.o).mono ?_;rintro e w1 ⟨rfl,g⟩;have D:=A (n.o w1 (C.o.A7 g));have f:=A g;clear g b2;go_wp2_with fail;refine(D.o).mono ?_;rintro e w2 ⟨rfl,k,l⟩;have m:=A k;have u:=A l;clear k l;go_wp2;go_end0;refine⟨af rfl,tL (o:=Q #[a,I J 1,I E 125] 238) j.o ⟨(ar F f.o).same m.o,rfl,u.o.mono (λq G=>G.elim af (λG=>ai ⟨bo f.o.size G.1,G.2⟩)) (aF (λq G=>a7 (j.o q G) (by simp)) (bo f.o.size m.o.size))⟩⟩
def aF0(F:Nat->Prop)(w:N)(p:Nat)(x y:Ps)(s:LS)(toks:List Tok)(a:Nat)(R:aG F w p x s toks)(i:x.D6 58=Y)(v:x.b≠4)(q:x.e.length<=1048576):
 L Z 112 #[H p,ag #[a,I J 1,I E 58]] w λe w'=>cI e/\dL F w p s toks (az (120,a)) e w':=by
 have k:=R.lt;have j:=boxed R (Q #[a,I J 1,I E 58] 238);have b:=aL w (Q #[a,I J 1,I E 58] 238);have b2:(w.alloc (Q #[a,I J 1,I E 58] 238)).cell? ⟨w.heap.size,2,U⟩=O (I E 58):=aA b;have f:=A b;have c:=mK F _ p x s toks 58 j q;rw[i]at c;rw[show((((58:UInt8)).toNat:Nat):Int)=58 from rfl]at c;have u:((x.b:Int)==4)=Y:=by simp;omega
 have K:(w.alloc (Q #[a,I J 1,I E 58] 238)).cell? ⟨p,5,U⟩=O (I J x.b):=by
  obtain⟨_,C,P,G,lb,D,l,o,-,t,-,-,-⟩:=j;rw[aA t];rfl
 have n:=A c;have z:=A j.H8;have m:=A (λw=>gZ w 120 a);clear R j k b c i q v;go_enter di,dj;go_wp2_with fail;refine(n.o).mono ?_;rintro e w1 ⟨rfl,d⟩;have r:w1.cell? ⟨w.heap.size,0,U⟩=O (I J a):=aA (keep f.o d);have g:=A d;clear d b2;go_wp2_with fail;refine(m.o _).mono ?_;rintro e w2 ⟨i,rfl⟩;unfold bT at i;subst i;go_wp2_with fail;exact⟨rfl,ai ⟨_,_,rfl⟩,((bm F w).A5 _).same (ar F g.o),rfl,z.o.A0 (ar (λ_=>False) g.o) id⟩
def aF1(F:Nat->Prop)(w:N)(p:Nat)(x y:Ps)(s:LS)(toks:List Tok)(a:Nat)(R:aG F w p x s toks)(i:x.D6 44=Y)(v:x.b≠5)(q:x.e.length<=1048576):
 L Z 112 #[H p,ag #[a,I J 1,I E 44]] w λe w'=>cI e/\dL F w p s toks (az (120,a)) e w':=by
 have k:=R.lt;have j:=boxed R (Q #[a,I J 1,I E 44] 238);have b:=aL w (Q #[a,I J 1,I E 44] 238);have b2:(w.alloc (Q #[a,I J 1,I E 44] 238)).cell? ⟨w.heap.size,2,U⟩=O (I E 44):=aA b;have f:=A b;have c:=mK F _ p x s toks 44 j q;rw[i]at c;rw[show((((44:UInt8)).toNat:Nat):Int)=44 from rfl]at c;have u:((x.b:Int)==5)=Y:=by simp;omega
 have K:(w.alloc (Q #[a,I J 1,I E 44] 238)).cell? ⟨p,5,U⟩=O (I J x.b):=by
  obtain⟨_,C,P,G,lb,D,l,o,-,t,-,-,-⟩:=j;rw[aA t];rfl
 have n:=A c;have z:=A j.H8;have m:=A (λw=>gZ w 120 a);clear R j k b c i q v;go_enter di,dj;go_wp2_with fail;refine(n.o).mono ?_;rintro e w1 ⟨rfl,d⟩;have r:w1.cell? ⟨w.heap.size,0,U⟩=O (I J a):=aA (keep f.o d);have g:=A d;clear d b2;go_wp2_with fail;refine(m.o _).mono ?_;rintro e w2 ⟨i,rfl⟩;unfold bT at i;subst i;go_wp2_with fail;exact⟨rfl,ai ⟨_,_,rfl⟩,((bm F w).A5 _).same (ar F g.o),rfl,z.o.A0 (ar (λ_=>False) g.o) id⟩
def aF2(F:Nat->Prop)(w:N)(p:Nat)(x y:Ps)(s:LS)(toks:List Tok)(a:Nat)(r:aG F w p x s toks)(i:x.D6 93=Y)(n:x.e.length<=1048576):
 L Z 112 #[H p,ag #[a,I J 1,I E 93]] w λe w'=>cI e/\dL F w p s toks (az (120,a)) e w':=by
 have j:=r.lt;have l:=boxed r (Q #[a,I J 1,I E 93] 238);have b:=aL w (Q #[a,I J 1,I E 93] 238);have b2:(w.alloc (Q #[a,I J 1,I E 93] 238)).cell? ⟨w.heap.size,2,U⟩=O (I E 93):=aA b;have f:=A b;have c:=mK F _ p x s toks 93 l n;rw[i]at c;rw[show((((93:UInt8)).toNat:Nat):Int)=93 from rfl]at c;have m:=A c;have q:=A l.H8;have k:=A (λw=>gZ w 120 a);clear r l j b c i n;go_enter di,dj;go_wp2_with fail;refine(m.o).mono ?_;rintro e w1 ⟨rfl,d⟩;have o:w1.cell? ⟨w.heap.size,0,U⟩=O (I J a):=aA (keep f.o d);have g:=A d;clear d b2;go_wp2_with fail;refine(k.o _).mono ?_;rintro e w2 ⟨i,rfl⟩;unfold bT at i;subst i;go_wp2_with fail;exact⟨rfl,ai ⟨_,_,rfl⟩,((bm F w).A5 _).same (ar F g.o),rfl,q.o.A0 (ar (λ_=>False) g.o) id⟩
def aD0(F:Nat->Prop)(w:N)(p:Nat)(x y:Ps)(s:LS)(toks:List Tok)(a:Nat)(r:aG F w p x s toks)(i:x.D6 125=Y)(n:x.e.length<=1048576):
 L Z 112 #[H p,ag #[a,I J 1,I E 125]] w λe w'=>cI e/\dL F w p s toks (az (120,a)) e w':=by
 have j:=r.lt;have l:=boxed r (Q #[a,I J 1,I E 125] 238);have b:=aL w (Q #[a,I J 1,I E 125] 238);have b2:(w.alloc (Q #[a,I J 1,I E 125] 238)).cell? ⟨w.heap.size,2,U⟩=O (I E 125):=aA b;have f:=A b;have c:=mK F _ p x s toks 125 l n;rw[i]at c;rw[show((((125:UInt8)).toNat:Nat):Int)=125 from rfl]at c;have m:=A c;have q:=A l.H8;have k:=A (λw=>gZ w 120 a);clear r l j b c i n;go_enter di,dj;go_wp2_with fail;refine(m.o).mono ?_;rintro e w1 ⟨rfl,d⟩;have o:w1.cell? ⟨w.heap.size,0,U⟩=O (I J a):=aA (keep f.o d);have g:=A d;clear d b2;go_wp2_with fail;refine(k.o _).mono ?_;rintro e w2 ⟨i,rfl⟩;unfold bT at i;subst i;go_wp2_with fail;exact⟨rfl,ai ⟨_,_,rfl⟩,((bm F w).A5 _).same (ar F g.o),rfl,q.o.A0 (ar (λ_=>False) g.o) id⟩
def aKz(F:Nat->Prop)(w:N)(p:Nat)(y:Ps)(s:LS)(b:List Tok)(a:Nat)(q:UInt8)(T:aG F w p y s b)(l:cH y 0)(P:aY q=X):
 L Z 112 #[H p,ag #[a,I J 1,I E q.toNat]] w λe w'=>cI e/\dL F w p s b (y.C7 po a q) e w':=by
 have S:=l.h;have R:=l.c;have d:y.e.length<=1048576:=by omega
 have x:=l.R4
 have u:q=123\/q=125\/q=91\/q=93\/q=58\/q=44:=by
  unfold aY at P;simpa[or_assoc]using P
 have o:∀k:UInt8,y.D6 k=X->∀w1,aG F w1 p y s b->L Z 148 #[H (O ⟨p,0,U⟩)] w1 λe w2=>e=h (ae #[])/\Keeps F w1 w2/\aG (Since F w1 w2) w2 p (y.C6 po) s b:=by
  intro k g w1 K
  have j:y.b=5\/y.b=1\/y.b=2:=by
   unfold gl at g;simp at g;omega
  obtain⟨f,C,i⟩:=l.b.M3 j;have n:f.length<=1048576:=by rw[i]at d;simp at d;omega
  cases C with
  | list m=>
   have D:y.C6 po=Ps.C5 {y with e:=f,c:=eI y.c m}:=by
    have r:y.e.getLast?=O (.list m):=(by rw[i];simp);have t:y.e.dropLast=f:=(by rw[i];simp);unfold gm;rw[r,t]
   rw[D];exact aKv F w1 p y s b f m K i l.Q6 l.M9 x.a n
  | object v=>
   have D:y.C6 po=Ps.C5 {y with e:=f,c:=po y.c v}:=by
    have r:y.e.getLast?=O (.object v):=(by rw[i];simp);have t:y.e.dropLast=f:=(by rw[i];simp);unfold gm;rw[r,t]
   rw[D];have z:=l.R9 (k:=v) (by rw[i];simp);exact aFX F w1 p y s b f v K i l.Q6 l.M9 x.a n z.1 z.2.1 (bo z.2.2 l.bytes)
 rcases u with rfl|rfl|rfl|rfl|rfl|rfl
 .have g:y.C7 po a 123=(y.C9 a).map λp=>{p with e:=p.e++ [.object []],b:=2}:=by unfold bz;rw[py (by decide),pz rfl]
  rw[g];exact aFV F w p y s b a T l.g d
 .have g:y.C7 po a 125=if y.D6 125 then bu (y.C6 po)else az (120,a):=by unfold bz;rw[py (by decide),py (by decide),py (λT=>absurd T.1 (by decide)),py (λT=>absurd T.1 (by decide))]
  rw[g];cases c:y.D6 125 with
  | true=>exact aDZ F w p y _ s b a T c d (o 125 c)
  | false=>exact aD0 F w p y y s b a T c d
 .have g:y.C7 po a 91=(y.C9 a).map λp=>{p with e:=p.e++ [.list 0],b:=1}:=by unfold bz;rw[pz rfl]
  rw[g];exact aIn F w p y s b a T l.g d
 .have g:y.C7 po a 93=if y.D6 93 then bu (y.C6 po)else az (120,a):=by unfold bz;rw[py (by decide),py (by decide),py (λT=>absurd T.1 (by decide)),py (λT=>absurd T.1 (by decide))]
  rw[g];cases c:y.D6 93 with
  | true=>exact aFZ F w p y _ s b a T c d (o 93 c)
  | false=>exact aF2 F w p y y s b a T c d
 .have c:y.D6 58=Y:=zI y 58 (by decide) (by decide);by_cases j:y.b=4
  .have g:y.C7 po a 58=bu {y with b:=0}:=(by unfold bz;rw[py (by decide),py (by decide),pz ⟨rfl,j⟩]);rw[g];exact aFW F w p y s b a T j
  .have g:y.C7 po a 58=az (120,a):=(by unfold bz;rw[py (by decide),py (by decide),py (λT=>j T.2),py (λT=>absurd T.1 (by decide)),py (by rw[c];decide)]);rw[g];exact aF0 F w p y y s b a T c j d
 .have c:y.D6 44=Y:=zI y 44 (by decide) (by decide);by_cases j:y.b=5
  .have g:y.C7 po a 44=bu {y with b:=if jB y.e then 3 else 0}:=(by unfold bz;rw[py (by decide),py (by decide),py (λT=>absurd T.1 (by decide)),pz ⟨rfl,j⟩]);rw[g];obtain⟨f,C,i⟩:=l.b.M3 (af j);have n:f.length<=1048576:=by rw[i]at d;simp at d;omega
   cases C with
   | list m=>
    have G:jB y.e=Y:=(by rw[i];unfold jB;simp);rw[G];exact wE F w p y s b a T j f m i n
   | object v=>
    have G:jB y.e=X:=(by rw[i];unfold jB;simp);rw[G];exact tM F w p y s b a T j f v i n
  .have g:y.C7 po a 44=az (120,a):=(by unfold bz;rw[py (by decide),py (by decide),py (λT=>absurd T.1 (by decide)),py (λT=>j T.2),py (by rw[c];decide)]);rw[g];exact aF1 F w p y y s b a T c j d
def cH.S8{x:Ps}{q:Nat}(b:cH x q):rF x 1073741824:=⟨λm a=>bo (b.V9 m a) (by decide),by have:=b.c;have:=b.h;omega⟩
def aIs(w:N)(a n b:Nat):L Z 357 #[ag #[a,n,I .u64 b]] w λe w'=>e=h (ac 107 (cw cz b))/\ak w w w':=by
 have c:=oA b;go_enter func357,ntmps357;go_wp2;go_ret;exact⟨rfl,(dk _ _).alloc (hU _) _⟩
def pU(w:N)(p:Nat):Nat:=match w.cell? ⟨p,2,U⟩with
 | some (H (O a))=>match w.cell? ⟨a.block,13,U⟩with
  | some (av _ n _)=>n
  | _=>0
 | _=>0
def lI.O6{s:LS}(C:lI F w b toks s):∃a c,w.cell? ⟨b,13,U⟩=O (av a toks.length c):=by
 cases s with
 | at_ x q=>
  obtain⟨-,-,j,k,g,d,e,f,-⟩:=C;obtain⟨a,c,rfl⟩:=f.1.A8;refine⟨a,c,?_⟩;rw[aA e];simp
 | dead pl v i=>
  obtain⟨-,-,r,l,u,m,p,z,n,t,o,y,d,e,f⟩:=C;obtain⟨a,c,rfl⟩:=f.1.A8;refine⟨a,c,?_⟩;rw[aA e];simp
def aG.O6{p:Nat}{x:Ps}{s:LS}(n:aG F w p x s toks):pU w p=toks.length:=by
 obtain⟨-,j,m,l,lb,k,b,d,-,f,g,-,-⟩:=n;obtain⟨a,c,i⟩:=g.O6;have e:w.cell? ⟨p,2,U⟩=O (H lb):=by rw[aA f];rfl
 unfold pU;rw[e];simp only[i]
def o8(F:Nat->Prop)(w:N)(p:Nat)(x:Ps)(s:LS)(t:Tok)(toks:List Tok)(D:aG F w p x s (t::toks))(y:toks.length<=999):∃lb,w.cell? ⟨p,2,U⟩=O (H (O ⟨lb,0,U⟩))/\
 L Z 111 #[H (O ⟨lb,0,U⟩)] w λe w'=>e=h (ae #[bU t,B X])/\Keeps F w w'/\aG (Since F w w') w' p x s toks:=by
 obtain⟨i,m,q,o,lb,u,a,c,g,n,f,r,z⟩:=D;refine⟨lb,by rw[aA n];rfl,(aDT m w lb t toks s f y).mono ?_⟩;rintro e w' ⟨rfl,j,b⟩;have l:∀(C:Nat->Prop),¬C lb->∀k,C k->¬k=lb:=λC v k b e=>v (e▸b);have d:Keeps F w w':=b.mono λk e=>e▸g.d lb f.block;refine⟨rfl,d,aF i d.size,m,q,o,lb,u,a,c,g.N6,b.B4 n (λe=>g.a.2.1 (e▸f.block)),j,r.B8 b (l q (λD=>g.g lb f.block D)),z.A0 b (l o (λD=>g.f lb f.block D))⟩
def o9(F:Nat->Prop)(w:N)(p:Nat)(x:Ps)(s:LS)(k:aG F w p x s []):∃lb,w.cell? ⟨p,2,U⟩=O (H (O ⟨lb,0,U⟩))/\
 L Z 111 #[H (O ⟨lb,0,U⟩)] w λe w'=>e=h (ae #[cj,B Y])/\w'=w:=by
 obtain⟨-,c,j,g,lb,i,a,b,-,d,f,-,-⟩:=k;exact⟨lb,by rw[aA d];rfl,aCd c w lb s f⟩
def aOK{m:Type}(n:Nat)(P:Program)(g:Nat)(lb:Array aj)(c:m->Array aj)(R:Nat->m->N->Prop)(S j:List m->Prop)(w:N):Prop:=
 ∀(l:Nat)(k i:List m->N->Prop)(W:N),ak w w W->(∀a,aOt W.heap.size (k a))->
  (∀a x f,k a f->R a.length x f->YieldAt dl (n-1) P l (c x) f λe b=>(e=h (B X)/\k (a++ [x]) b/\aMB f b)\/(e=h (B Y)/\i (a++ [x]) b))->
  k [] W->CallsIn dl n P g (#[cr (fk l) #[] #[]]++lb) W λe b=>(∃v,e=h v)/\((∃d,S d/\k d b)\/∃d,j d/\i d b)
def aNJ{d:Type}(e:List d->N->Prop)(c:Nat->List d->N->Prop)(b:List d)(W:N):Exit->Act->N->Prop
 | .normal,_,a=>fm W a/\aMB W a/\e b a
 | .exit id,_,a=>fm W a/\c id b a
 | _,_,_=>False
def aNx{a0:Type}{P:Program}{g:Operand}{ps:Array Tmp}{assign body:Code}{a4:Exit->Act->N->Prop}{a:Act}{gf:Nat}{lb:Array aj}
 (hg:a.eval g=cr (eo gf) #[] lb)(eg:∀args w,(callFunc gf args).run P w=bj (.enter gf args) w){i:a0->Array aj}{R:Nat->a0->N->Prop}{S Sp:List a0->Prop}{w0:N}
 (g6:aOK (n-1) P gf lb i R S Sp w0)(g7:ak w0 w0 w)(i1:∀x,(i x).size=ps.size)(a2:List a0->N->Prop)(Ix:Nat->List a0->N->Prop)(hI:∀b,aMI w.heap.size (a2 b))(g8:∀id b,aMI w.heap.size (Ix id b))(h0:a2 [] w)
 (Ax:List a0->a0->Act->N->Prop)(i2:∀b x a1,aMI w.heap.size (Ax b x a1))
 (j:∀(l:Nat)(b:List a0)(x:a0)(W:N)(K:Act->N->Prop),a2 b W->R b.length x W->(∀a1 d,fm W d->aMB W d->Ax b x a1 d->K a1 d)->
  assign.wpIn (dl.inRound l) (n-1-1) P (Exit.then K (λ_ _ _=>False)) {tmps:=(ps.zip (i x)).foldl (λt(p,v)=>t.setIfInBounds p v) a.tmps,defers:= []} W)
 (F:∀(l:Nat)(b:List a0)(x:a0)(a1:Act)(W:N),Ax b x a1 W->body.wpIn (dl.inRound l) (n-1-1) P (aNJ a2 Ix (b++ [x]) W) a1 W)
 (G:∀(D:Nat)(m:List a0)(W:N),w.heap.size<=D->S m->a2 m W->W.heap[D]?=O (cg (O []))->a4 .normal {a with defers:={target:=fq D,args:= #[]}::a.defers} W)
 (g2:∀(D id:Nat)(m:List a0)(W:N),w.heap.size<=D->Sp m->Ix id m W->W.heap[D]?=O (cg (O []))->a4 (.exit id) {a with defers:={target:=fq D,args:= #[]}::a.defers} W):
 (Code.rangeFunc g ps assign body).wpIn dl n P a4 a w:=by
 apply wpIn_rangeFunc;intro fn _;let lq:LoopState->Option Code->Loop:=λst pe=>{state:=st,pending:=pe,fn:=fn,tmps:=a.tmps,params:=ps,assign:=assign,body:=body,defers:=w.heap.size};let r:LoopState->Loop:=λst=>lq st U;obtain⟨D,hD⟩:∃D,w.heap.size=D:=⟨_,rfl⟩;obtain⟨d,s⟩:∃d,(w.alloc (cg (O []))).alloc (bw (r eu))=d:=⟨_,rfl⟩
 have g9:d.heap[D+1]?=O (bw (r eu)):=by
  have z:=gn (w.alloc (cg (O []))) (bw (r eu));rw[World.size_alloc,s,hD]at z;exact z
 have h4:d.heap[D]?=O (cg (O [])):=by
  rw[<-s,<-hD];exact(Below.heap_alloc _ _ _ (by simp)).trans (gn w _)
 have g3:Keeps (λ_=>False) w d:=by rw[<-s];exact((bm _ w).A5 _).A5 _
 have i3:a2 [] d:=hI [] _ _ h0 (g3.mono λ_ z=>z.elim);have h5:ak w0 w0 d:=g7.trans (g3.A6 g7.size (λ_ z=>z.elim));refine⟨D+1,[{target:=fq D,args:= #[]}],d,{target:=.fn (eo gf) lb,args:= #[cr (fk (D+1)) #[] #[]]},d,gf,#[cr (fk (D+1)) #[] #[]]++lb,d,?_,?_,λ_ _=>trivial,?_,λz=>(by cases z),?_⟩
 .rw[<-s,<-hD];exact run_enterLoop_outer _ _ _ _ _
 .simp only[resolve,hg];simp[go_sem]
 .simp[invoke,go_sem,eg]
 refine(g6 (D+1) (λb W=>a2 b W/\W.heap[D+1]?=O (bw (r eu))/\W.heap[D]?=O (cg (O []))) (λb W=>∃id,Ix id b W/\W.heap[D+1]?=O (bw (lq .done (O (ew id))))/\W.heap[D]?=O (cg (O []))) d h5 ?_ ?_ ⟨i3,g9,h4⟩).mono ?_
 .rintro b a5 C ⟨u,o,q⟩ f;have y:D<=d.heap.size:=by rw[<-hD];exact g3.size
  refine⟨(hI b).I7 a5 C u (f.mono λk z=>⟨by omega,z.2⟩),f.B4 o ?_,f.B4 q ?_⟩
  .rintro⟨_,c,T,z,_⟩;rw[o]at z;cases z
  .rintro⟨_,c,T,z,_⟩;rw[q]at z;cases z
 .rintro b x W ⟨hi,y,hd⟩ hx;refine⟨fn,_,assign,body,run_yield (P:=P) (args:=i x) y (i1 x),roundIn_of_wpIn trivial (j _ b x W _ hi hx ?_)⟩;intro a1 V1 h6 i4 i5;have u:=h6.same _ _ y rfl;have i6:=h6.same _ _ hd rfl;have h7:D+1<V1.heap.size:=ft u;refine⟨_,run_beginRound u rfl,?_⟩;obtain⟨V2,o⟩:∃V2,V1.putObj (D+1) (bw (r .busy))=V2:=⟨_,rfl⟩;have h8:Ax b x a1 V2:=by rw[<-o];exact(i2 b x a1).C5 _ i5 (by omega) u rfl
  have h9:V2.heap[D+1]?=O (bw (r .busy)):=by rw[<-o];exact fu h7
  have i0:V2.heap[D]?=O (cg (O [])):=by rw[<-o];exact(eh (by omega)).trans i6
  have i7:aMB V1 V2:=by rw[<-o];exact go _ u rfl
  show body.wpIn (dl.inRound (D+1)) (n-1-1) P _ a1 (V1.putObj (D+1) (bw (r .busy)));rw[o];refine wpIn_mono (F (D+1) b x a1 V2 h8) ?_;intro e a3 V3 he;cases e with
  | normal=>
   obtain⟨q,i8,g4⟩:=he;have f:=q.same _ _ h9 rfl;have g5:=q.same _ _ i0 rfl;refine⟨_,_,gp (P:=P) U f,af ⟨rfl,⟨(hI _).C5 _ g4 (by omega) f rfl,fu (ft f),(eh (by omega)).trans g5⟩,((i4.trans i7).trans i8).trans (go _ f rfl)⟩⟩
  | ret=>exact he.elim
  | exit id=>
   obtain⟨q,g4⟩:=he;have f:=q.same _ _ h9 rfl;have g5:=q.same _ _ i0 rfl;exact⟨_,_,gp (P:=P) (O (ew id)) f,ai ⟨rfl,id,(g8 id _).C5 _ g4 (by omega) f rfl,fu (ft f),(eh (by omega)).trans g5⟩⟩
  | goto t=>exact he.elim
  | panic f=>exact he.elim
  | outgrown=>exact he.elim
 .rintro e V ⟨⟨v,rfl⟩,⟨m,f,hi,y,hd⟩|⟨m,f,id,hi,y,hd⟩⟩;rotate_left
  .refine⟨O (ew id),_,gq (P:=P) y (by simp[lq]),?_⟩;exact wpIn_exit (g2 D id m _ (nl hD) f ((g8 id m).C5 (bw (lq gu (O (ew id)))) hi (by omega) y rfl) ((eh (by omega)).trans hd))
  refine⟨U,_,gq (P:=P) y (by simp[r]),?_⟩;have:=G D m _ (nl hD) f ((hI m).C5 (bw (r gu)) hi (by omega) y rfl) ((eh (by omega)).trans hd);exact this
def m4{d:UInt8}(a hi:Nat)(e:128<=a)(b:hi<=191)(g:128<=d.toNat->d.toNat<=191->(aJ c d=X<->a<=d.toNat/\d.toNat<=hi)):aJ c d=(decide (a<=d.toNat)&&decide (d.toNat<=hi)):=by
 by_cases i:d.toNat<128\/191<d.toNat
 .have:aJ c d=Y:=by unfold aJ;rw[pz i]
  rw[this];symm;rw[Bool.and_eq_false_iff];simp only[decide_eq_false_iff_not];omega
 .have f:=g (by omega) (by omega);rw[Bool.eq_iff_iff,f];simp
def aEZ{d:UInt8}(m:1<(aC c).wide):aJ c d=(aC c).D4 1 d:=by
 have l:∀f:Form,f.D4 1 d=(decide (f.low<=d.toNat)&&decide (d.toNat<=f.g)):=λf=>by unfold gv;rw[pz rfl]
 rw[l];rcases uA c (by omega)with⟨-,g⟩|⟨j,g,e⟩|⟨j,g,e⟩|⟨j,g,e⟩
 .omega
 .rw[e];refine m4 128 191 (by omega) (by omega) λk i=>?_;unfold aJ;rw[py,py,py,py,py];simp;omega
 .rw[e];simp only;refine m4 _ _ (by split<;>omega) (by split<;>omega) λk i=>?_;unfold aJ;rw[py];by_cases a:c.toNat=224
  .rw[pz a,pz a,py];simp;omega
  .rw[py a,py a];by_cases b:c.toNat=237
   .rw[pz b,pz b];simp;omega
   .rw[py b,py b,py,py];simp;omega
 .rw[e];simp only;refine m4 _ _ (by split<;>omega) (by split<;>omega) λk i=>?_;unfold aJ;rw[py,py,py];by_cases a:c.toNat=240
  .rw[pz a,pz a,py];simp;omega
  .rw[py a,py a];by_cases b:c.toNat=244
   .rw[pz b,pz b];simp;omega
   .rw[py b,py b];simp;omega
def aCX(w:N)(c d:UInt8):L Z 180 #[I E c.toNat,I E d.toNat] w λe w'=>e=h (B (aJ c d))/\w'=w:=by
 have k:=d.toNat_lt;unfold aJ;by_cases l:d.toNat<128\/191<d.toNat
 .rw[pz l];rcases l with l|l
  focus
   have a:(d.toNat:Int)<128:=by omega
  rotate_left
  focus
   have a:¬(d.toNat:Int)<128:=(by omega);have b:(191:Int)<(d.toNat:Int):=by omega
  all_goals
   go_enter fv,fw;go_wp2;go_ret;exact⟨rfl,rfl⟩
 rw[py l];have a:¬(d.toNat:Int)<128:=by omega
 have b:¬(191:Int)<(d.toNat:Int):=by omega
 clear l;rcases(show c.toNat=224\/c.toNat=237\/c.toNat=240\/c.toNat=244\/(((c.toNat:Int)==224)=Y/\((c.toNat:Int)==237)=Y/\((c.toNat:Int)==240)=Y/\((c.toNat:Int)==244)=Y) by simp;omega)with e|e|e|e|⟨f,j,g,i⟩
 rotate_right
 .rw[py (by simp at f;omega),py (by simp at j;omega),py (by simp at g;omega),py (by simp at i;omega)];go_enter fv,fw;go_wp2;go_ret;exact⟨rfl,rfl⟩
 all_goals
  rw[e];go_enter fv,fw;go_wp2;go_ret;exact⟨by simp<;>omega,rfl⟩
def aCY(s:ByteArray)(i:Nat):Pc Nat->aj
 | .cut=>ae #[I ao 0,I J 0,I J 31,s.size]
 | .bad _ a=>ae #[I ao 0,I J 0,I J 30,I J ((i:Int)+(a:Int))]
 | .ok n=>ae #[I ao (bM ((s.data.toList.drop i).take n)),n,I J 0,I J 0]
def aMi(c:UInt8):(aC c).wide<=4:=by(unfold aC;(repeat' split)<;>decide)
def aMj{f:Form}{k:Nat}(a:k≠1):f.D4 k c=(decide (128<=c.toNat)&&decide (c.toNat<=191)):=by unfold gv;rw[py a]
def aHv{y:UInt8}(f:1<(aC c).wide)(g:(aC c).D4 1 y=X):128<=y.toNat/\y.toNat<=191:=by
 have a:=wL.1 g;rcases uA c (by omega)with⟨-,d⟩|⟨e,d,b⟩|⟨e,d,b⟩|⟨e,d,b⟩
 .omega
 .rw[b]at a;exact a
 .rw[b]at a;simp only at a;constructor
  .have:=a.1;split at this<;>omega
  .have:=a.2;split at this<;>omega
 .rw[b]at a;simp only at a;constructor
  .have:=a.1;split at this<;>omega
  .have:=a.2;split at this<;>omega
def aGI{s:ByteArray}{i:Nat}(hi:i<s.size)(d:eC (s.data.toList.drop i)=bx n):Fm ((s.data.toList.drop i).take n)/\i+n<=s.size:=by
 rw[bA hi]at d⊢;obtain⟨c,a⟩:=mZ d;refine⟨c,?_⟩;rw[<-bA hi]at a;have b:s.data.toList.length=s.size:=by simp
 rw[el,ea,b]at a;omega
def aJC{l:Oo}(r:Fm l):1<=l.length/\l.length<=4/\∃P:Nat->Nat,P 1+(if l.length=2 then 192 else if l.length=3 then 224 else if l.length=4 then 240 else 0)=(l.getD 0 0).toNat/\
 (∀j,1<=j->j<l.length->P (j+1)+128=64*P j+(l.getD j 0).toNat)/\P l.length=bM l/\∀j,P j<=2000000:=by
 cases r with
 | one a r=>exact⟨by simp,by simp,λ_=>a.toNat,by simp,(λj g f=>by simp at f;omega),rfl,λj=>by show a.toNat<=_;omega⟩
 | two a b g f m k=>
  refine⟨by simp,by simp,λj=>if j=1 then a.toNat-192 else 64*(a.toNat-192)+(b.toNat-128),by simp;omega,λj i e=>?_,by simp[bM],λj=>by simp only;split<;>omega⟩;obtain rfl:j=1:=by simp at e;omega
  simp;omega
 | three a b c g f m k n o=>
  refine⟨by simp,by simp,λj=>if j=1 then a.toNat-224 else if j=2 then 64*(a.toNat-224)+(b.toNat-128)else 64*(64*(a.toNat-224)+(b.toNat-128))+(c.toNat-128),by simp;omega,λj i e=>?_,by simp[bM],λj=>by simp only;split;omega;split<;>omega⟩;have:j=1\/j=2:=by simp at e;omega
  rcases this with rfl|rfl<;>simp<;>omega
 | four a b c d g f m k n o p q=>
  refine⟨by simp,by simp,λj=>if j=1 then a.toNat-240 else if j=2 then 64*(a.toNat-240)+(b.toNat-128)else if j=3 then 64*(64*(a.toNat-240)+(b.toNat-128))+(c.toNat-128)else 64*(64*(64*(a.toNat-240)+(b.toNat-128))+(c.toNat-128))+(d.toNat-128),by simp;omega,λj i e=>?_,by simp[bM],λj=>by simp only;split;omega;split;omega;split<;>omega⟩;have:j=1\/j=2\/j=3:=by simp at e;omega
  rcases this with rfl|rfl|rfl<;>simp<;>omega
def take_at{s:ByteArray}{i k j:Nat}(a:j<k)(b:i+k<=s.size):((s.data.toList.drop i).take k).getD j 0=s[i+j]:=by
 rw[List.getD,List.getElem?_take,pz a,List.getElem?_drop,List.getElem?_eq_getElem (by simp;omega)];rfl
def aBE(w:N)(s:ByteArray)(i:Nat)(hi:i<s.size)(hs:s.size<=2147483648):L Z 157 #[s,i] w λe w'=>e=h (aCY s i (eC (s.data.toList.drop i)))/\w'=w:=by
 have h1:(i:Int)<(s.size:Int):=by omega
 have F:=A (λW=>aHs W s[i]);have HS:=A (λW d=>aCX W s[i] d);obtain⟨c,l⟩:∃c,s[i]=c:=⟨_,rfl⟩;have a:s.data.toList.drop i=c::s.data.toList.drop (i+1):=by rw[bA hi,l]
 obtain⟨n,b⟩:∃n,(aC c).wide=n:=⟨_,rfl⟩;have g:(aC s[i]).wide=n:=by rw[l];exact b
 rw[g]at F;by_cases h0:n=0
 .subst h0
  have o:eC (s.data.toList.drop i)=ee 90 0:=by
   rw[a];unfold eC;simp only;rw[pz b]
  rw[o];clear o a b g l;go_enter func157,ntmps157;go_wp2_with fail;refine(F.o _).mono ?_;rintro e w1 ⟨rfl,rfl⟩;go_wp2_with fail;exact bb (v:=ae #[I ao 0,I J 0,I J 30,i]) (by simp[dp,dq,go_sem]) rfl ⟨by simp[aCY],rfl⟩
 .have b1:¬(n:Int)=0:=by omega
  have b2:((n:Int)==0)=Y:=by simpa using b1
  obtain⟨R,p⟩:∃R,eC (s.data.toList.drop i)=R:=⟨_,rfl⟩
  have o:cJ (aC c) (n-1) 1 (s.data.toList.drop (i+1))=R:=by
   rw[<-p,a];unfold eC;simp only;rw[py,b]
  rw[p];have h4:n<=4:=by rw[<-b];exact aMi c
  have HR:=A o;have z:=A (And.intro b (And.intro l p));clear a p o b g l;go_enter func157,ntmps157;go_wp2_with fail;refine(F.o _).mono ?_;rintro e w1 ⟨rfl,rfl⟩;go_wp2;go_loopw [9] (λv wr=>∃k:Nat,v=I J k/\1<=k/\k<=n/\M (cJ (aC c) (n-k) k (s.data.toList.drop (i+k))=R)/\w1=wr) (λv _=>n-(ei v).toNat)
  case atStart=>exact⟨1,rfl,hU _,by omega,HR,rfl⟩
  case round=>
   obtain⟨k,rfl,i1,i2,C,rfl⟩:=hrel;by_cases i3:k<n
   .have hx:J.wrap ((i:Int)+(k:Int))=(i:Int)+(k:Int):=(by rw[b9];omega);by_cases l:i+k<s.size
    .have K:¬(s.size:Int)<=(i:Int)+(k:Int):=(by omega);have e2:(i:Int)+(k:Int)<(s.size:Int):=(by omega);have a:=C.o;obtain⟨m,r⟩:∃m,n-k=m+1:=⟨n-k-1,by omega⟩;rw[r,bA l,cJ]at a;obtain⟨y,D⟩:∃y,s[i+k]=y:=⟨_,rfl⟩;rw[D]at a;have S:((s[i+k].toNat:Nat):Int)=((y.toNat:Nat):Int):=(by rw[D]);have T:=y.toNat_lt
     have g:∀(e:fc)(w':N),(aC c).D4 k y=Y->e=h (ae #[I ao 0,I J 0,I J 30,I J ((i:Int)+(k:Int))])->w'=w1->e=h (aCY s i R)/\w'=w1:=by
      intro e w' b o p;rw[b]at a;have a:ee 90 k=R:=a;exact⟨by rw[o,<-a];rfl,p⟩
     have b:(aC c).D4 k y=X->M (cJ (aC c) (n-(k+1)) (k+1) (s.data.toList.drop (i+(k+1)))=R):=by
      intro o;rw[pz o]at a;rw[show n-(k+1)=m by omega];exact A a
     have p:=A g;have o:=A b;clear a g b r;by_cases g:k=1
     .subst g;have e4:¬(s.size:Int)<=(i:Int)+1:=(by omega);have e6:(i:Int)+1<(s.size:Int):=(by omega);have e7:J.wrap ((i:Int)+1)=(i:Int)+1:=(by rw[b9];omega);have b:aJ s[i] y=(aC c).D4 1 y:=(by rw[z.o.2.1];exact aEZ (by rw[z.o.1];omega));have t:=A (HS.o w1 y);rw[b]at t;clear b D;go_wp2_with fail;refine(t.o).mono ?_;rintro e w2 ⟨rfl,rfl⟩;cases b:(aC c).D4 1 y with
      | false=>
       have u:=A (p.o · · b);clear b;go_wp2_with fail;exact bb (v:=ae #[I ao 0,I J 0,I J 30,I J ((i:Int)+1)]) (by simp[dp,dq,go_sem]) rfl (u.o _ _ rfl rfl)
      | true=>
       have V:128<=y.toNat/\y.toNat<=191:=aHv (by rw[z.o.1];omega) b;have t1:¬((y.toNat:Nat):Int)<128:=(by omega);have t2:¬(191:Int)<((y.toNat:Nat):Int):=(by omega);have G:=o.o b;clear b V;go_wp2;go_roundw
       case rel=>exact⟨2,rfl,by omega,by omega,G,trivial⟩
       case measure=>simp[ei];omega
     .have t:¬(k:Int)=1:=(by omega);have V:((k:Int)==1)=Y:=(by simpa using t);have b:=aMj (f:=aC c) (c:=y) g;clear D g;by_cases t1:((y.toNat:Nat):Int)<128
      .have u:=A (p.o · · (by rw[b,decide_eq_false (by omega)];rfl));clear b;go_wp2_with fail;exact bb (v:=ae #[I ao 0,I J 0,I J 30,I J ((i:Int)+(k:Int))]) (by simp[dp,dq,go_sem]) rfl (u.o _ _ rfl rfl)
      .by_cases t2:(191:Int)<((y.toNat:Nat):Int)
       .have u:=A (p.o · · (by rw[b,decide_eq_true (show 128<=y.toNat by omega),decide_eq_false (by omega)];rfl));clear b;go_wp2_with fail;exact bb (v:=ae #[I ao 0,I J 0,I J 30,I J ((i:Int)+(k:Int))]) (by simp[dp,dq,go_sem]) rfl (u.o _ _ rfl rfl)
       .have G:=o.o (by rw[b,decide_eq_true (show 128<=y.toNat by omega),decide_eq_true (show y.toNat<=191 by omega)];rfl);clear b;go_wp2_with fail;exact⟨⟨k+1,by go_num,by omega,by omega,G,trivial⟩,by simp[ei];omega⟩
    .have K:(s.size:Int)<=(i:Int)+(k:Int):=(by omega);have a:=C.o;obtain⟨m,r⟩:∃m,n-k=m+1:=⟨n-k-1,by omega⟩;rw[r,cY l]at a;have a:dy=R:=a;subst a;clear r;go_wp2_with fail;exact bb (v:=ae #[I ao 0,I J 0,I J 31,s.size]) (by simp[dp,dq,go_sem]) rfl ⟨rfl,rfl⟩
   .obtain rfl:k=n:=(by omega);have o:cJ (aC c) 0 k (s.data.toList.drop (i+k))=R:=(by have:=C.o;rwa[Nat.sub_self]at this);rw[cJ]at o;subst o;obtain⟨p,a⟩:=aGI hi z.o.2.2;have b:((s.data.toList.drop i).take k).length=k:=(by rw[el,ea,show s.data.toList.length=s.size by simp];omega);obtain⟨m1,m2,P,l,D,G,K⟩:=aJC p;rw[b]at m1 m2 l D G;have l:P 1+(if k=2 then 192 else if k=3 then 224 else if k=4 then 240 else 0)=s[i].toNat:=(by rw[l,take_at (by omega) a];rfl);have S:=A (show ∀j q(r:q<s.size),i+j=q->1<=j->j<k->P (j+1)+128=64*P j+(s[q]'r).toNat from λj q r e h1 h2=>by subst e;rw[D j h1 h2,take_at h2 a]);have T:=A G;have V:=A K;have t:i+k<=s.size:=a;have g1:¬(k:Int)<(k:Int):=(by omega);have u:k=1\/k=2\/k=3\/k=4:=(by omega);have c0:J.wrap ((s[i].toNat:Nat):Int)=((s[i].toNat:Nat):Int):=(by rw[b9];have:=s[i].toNat_lt;omega);have i4:P 1<=2000000:=K 1;clear C HR D G K b p
    have p:(k=1/\((s[i].toNat:Nat):Int)=(P 1:Int))\/(k=2/\J.wrap (((s[i].toNat:Nat):Int)-192)=(P 1:Int))\/(k=3/\J.wrap (((s[i].toNat:Nat):Int)-224)=(P 1:Int))\/(k=4/\J.wrap (((s[i].toNat:Nat):Int)-240)=(P 1:Int)):=by
     rcases u with b|b|b|b
     .exact af ⟨b,by simp[b]at l;omega⟩
     .exact ai (af ⟨b,by simp[b]at l;rw[b9];omega⟩)
     .exact ai (ai (af ⟨b,by simp[b]at l;rw[b9];omega⟩))
     .exact ai (ai (ai ⟨b,by simp[b]at l;rw[b9];omega⟩))
    have C:=A t;clear l u a t m1 m2;rcases p with⟨g,a⟩|⟨g,a⟩|⟨g,a⟩|⟨g,a⟩
    all_goals
     (first|have b:((k:Int)==2)=X:=by(simp;omega)|have b:((k:Int)==2)=Y:=by(simp;omega));first|have l:((k:Int)==3)=X:=by(simp;omega)|have l:((k:Int)==3)=Y:=by(simp;omega)
     (first|have t:((k:Int)==4)=X:=by(simp;omega)|have t:((k:Int)==4)=Y:=by(simp;omega));have u:=A g;clear g;go_wp2_with fail;clear b l t
     go_loopw [12,11] (λv x wr=>∃j:Nat,v=I J j/\1<=j/\j<=k/\x=I J (P j)/\w1=wr) (λv _ _=>k-(ei v).toNat)
     case atStart=>exact⟨1,rfl,hU _,by omega,by first|rfl|rw[a],rfl⟩
     case round=>
      obtain⟨j,rfl,g,t,rfl,rfl⟩:=hrel;clear a;have D:=V.o j;by_cases l:j<k
      .obtain⟨q,r⟩:∃q,i+j=q:=⟨_,rfl⟩;have a:q<s.size:=(by have:=C.o;omega);have b:=S.o j q a r g l;have b1:(j:Int)<(k:Int):=(by omega);have b2:J.wrap ((i:Int)+(j:Int))=(q:Int):=(by rw[b9];omega);have b3:(q:Int)<(s.size:Int):=(by omega);have G:=(s[q]'a).toNat_lt;have b4:J.wrap ((64:Int)*(P j:Int))=(64:Int)*(P j:Int):=(by rw[b9];omega);have K:J.wrap (((s[q]'a).toNat:Nat):Int)=(((s[q]'a).toNat:Nat):Int):=(by rw[b9];omega);have b6:J.wrap ((64:Int)*(P j:Int)+(((s[q]'a).toNat:Nat):Int))=(64:Int)*(P j:Int)+(((s[q]'a).toNat:Nat):Int):=(by rw[b9];omega);have b7:J.wrap ((64:Int)*(P j:Int)+(((s[q]'a).toNat:Nat):Int)-128)=(P (j+1):Int):=(by rw[b9];omega);clear b r;go_wp2_with fail;exact⟨⟨j+1,by go_num,by omega,by omega,rfl,trivial⟩,by simp[ei];omega⟩
      .obtain rfl:j=k:=(by omega);have b1:¬(j:Int)<(j:Int):=(by omega);have b2:ao.wrap (P j:Int)=(P j:Int):=(by rw[og];omega);go_wp2_with fail;exact bb (v:=ae #[I ao (P j:Int),I J (j:Int),I J 0,I J 0]) (by simp[dp,dq,go_sem]) rfl ⟨by rw[T.o];rfl,rfl⟩
