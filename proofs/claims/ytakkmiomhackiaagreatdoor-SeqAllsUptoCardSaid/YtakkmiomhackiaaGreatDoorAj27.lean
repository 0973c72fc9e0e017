/-
  The program, one part of its walk. Conditions: none.
-/
import Derived.Test.YtakkmiomhackiaaGreatDoorAj24
import Derived.Test.YtakkmiomhackiaaGreatDoorAj26
import Derived.Test.YtakkmiomhackiaaGreatDoorCards
import Derived.Test.YtakkmiomhackiaaGreatDoorTie
import Derived.ProofKit
import Derived.OpenShut
import Derived.ChangeSame
import Derived.Carry
import Derived.Deep.DeepHandedRow
import Derived.Deep.DeepLaidRun
import Derived.Lib.LaidTab
set_option linter.all false
set_option maxRecDepth 100000
set_option maxHeartbeats 16000000
open Go.Proofs.Tryz
open Bool renaming false->U,true->L
open Except renaming error->ah,ok->ao,pure->dm
open False renaming elim->ew
open Go renaming Addr->aw,Calls->bp,TypeId->cg,Value->h,World->E,cell_of_one->fq,lt_of_block->cr,maxLen->dh,method->du
open Go.ChangeShapes renaming lits->ep
open Go.DataW renaming TrodAll->ip
open Go.Ending renaming returned->co
open Go.FloatKind renaming f64->bz
open Go.Instr renaming typeAssert->av
open Go.IntKind renaming i64->Z,u64->Q,u8->fj
open Go.Lit renaming int->ij,wf->ik
open Go.Obj renaming cells->D
open Go.Proofs renaming intOf->ct
open Go.Proofs.Tryz renaming func122->dv,ntmps122->dw,prog->C
open Go.Proofs.YtakkmiomhackiaaGreatDoor.Goes renaming C8->ek
open Go.Proofs.YtakkmiomhackiaaGreatDoor.Keeps renaming A2->bs,A4->af
open Go.Proofs.YtakkmiomhackiaaGreatDoor.Lx renaming B3->cu,B5->eh,B7->fc,C0->fd,E5->gd
open Go.Proofs.YtakkmiomhackiaaGreatDoor.Ps renaming B3->di,B7->ee,C5->dp,C7->dt,C9->gw,D0->bh,D3->dj,D6->gz,D7->ei,E2->fa,E7->ie,F0->gh
open Go.Proofs.YtakkmiomhackiaaGreatDoor.Ra renaming bad->cw
open Go.Proofs.YtakkmiomhackiaaGreatDoor.Rr renaming D9->gk,E6->eo,F5->gl
open Go.Proofs.YtakkmiomhackiaaGreatDoor.St renaming outside->bw,within->bm
open Go.Proofs.YtakkmiomhackiaaGreatDoor.Tr renaming A9->gj,F3->et,num->dq
open Go.Proofs.YtakkmiomhackiaaGreatDoor.aQ renaming lt->gc
open Go.Result renaming ok->aj
open Go.RowKit renaming Below->ai
open Go.Value renaming agg->bk,bool->G,cells->io,float->bx,iface->ac,int->O,okWide->fh,ownBlock->ej,pointer->ak,slice->I,string->ae,tuple->ar
open List renaming drop_eq_nil_iff->ig,map_map->gr
open Option renaming map_none->gy,none->Y,some->J
open Or renaming inl->az,inr->au
open Pure renaming pure->dl
open UInt8 renaming ofNat->gm
namespace Go.Proofs.YtakkmiomhackiaaGreatDoor
open Go.RowKit
def kN(w2:E)(V:h)(a:List Stp)(l:List Tr)(i:Nat)(o:h)(wr:E):Prop:=
 cK 147 wr o (a++dX (l.take i))/\Keeps (λk=>V.ownBlock=J k) w2 wr/\∀k,o.ownBlock=J k->V.ownBlock=J k\/w2.heap.size<=k
def kN.K8{w2 wr c:E}{V o:h}{p:List Stp}{l:List Tr}{i:Nat}{t:Tr}{e:Ending}(q:kN w2 V p l i o wr)(g:l[i]?=J t)(m:aA8 wr o (p++dX (l.take i)++t.F3) e c):∃a,e=co a/\kN w2 V p l (i+1) a c:=by
 obtain⟨-,b,d⟩:=q;obtain⟨a,rfl,f,n,j⟩:=m;refine⟨a,rfl,?_,?_,?_⟩
 .rw[uN g,<-kd];exact f
 .exact b.trans n d
 .intro k e;have:=b.size;rcases j k e with e|e
  .exact d k e
  .exact au (by omega)
def aBY{w w2 wr t:E}{V r:h}{X a:List Stp}{s:Stp}{p:Option aw}{l m:Nat}{j:Option aw}{b:List (List h)}(R:cK 147 w V X)(f:ai w w w2)(y:b.length=a.length)(K:aQ 6 147 wr (I p a.length l) a.length b.flatten)
 (N:∀(i:Nat)(c:List h)(s:Stp),b[i]?=J c->a[i]?=J s->nK wr c s)(d:Keeps (λk=>V.ownBlock=J k) w2 wr)(B:∀k,(I p a.length l).ownBlock=J k->V.ownBlock=J k\/w2.heap.size<=k)
 (H:Win 9 encS w2 (I j s.f.length m) s.f)(o:Obj)(q:aQ 6 147 t r (a.length+1) (b.flatten++aId s (I j s.f.length m)))(n:Keeps (λk=>(I p a.length l).ownBlock=J k) (wr.alloc o) t)
 (x:∀k,r.ownBlock=J k->(I p a.length l).ownBlock=J k\/wr.heap.size<=k):aA8 w V (a++ [s]) (co r) t:=by
 have P:∀(k:Nat)(c:Array h),w2.heap[k]?=J (D c 9 (0,0))->¬V.ownBlock=J k:=λk c g e=>by
  obtain⟨z,_,F,_⟩:=R;obtain⟨S,u⟩:=F.D5 e;rw[keep u f]at g;injection g with g;injection g with _ g _;exact absurd g (by decide)
 have v:nK wr (aId s (I j s.f.length m)) s:=(show nK w2 (aId s (I j s.f.length m)) s from⟨j,m,rfl,H⟩).A0 d P;have W:=f.size;have T:=d.size;refine⟨r,rfl,cK.L7 (by decide) y K N v (((af (λk=>(I p a.length l).ownBlock=J k) wr).A5 o).same n) q,?_,?_⟩
 .exact(((bs (λk=>V.ownBlock=J k) f).trans d λk e=>az e).A5 o).trans n λk e=>by
   rcases B k e with e|e
   .exact az e
   .exact au (by omega)
 .intro k e;rcases x k e with e|e
  .rcases B k e with e|e
   .exact az e
   .exact au (by omega)
  .exact au (by omega)
def kU{w w2:E}{e c b a f d:h}(g:ai (w.alloc (D #[e,c,b,a,f,d] 147)).heap.size (w.alloc (D #[e,c,b,a,f,d] 147)) w2):w2.heap[w.heap.size]?=J (D #[e,c,b,a,f,d] 147 (0,0)):=keep (aL w _) g
def nF(w:E)(V v:h)(T:List Stp)(s:Stp)(a:cK 147 w V T)(hl:T.length+1<=1048576)(R:(v=ac 177 (bk #[])/\s=⟨1,U,0,[],0,[]⟩)\/(∃b,v=ac 178 (G b)/\s=⟨2,b,0,[],0,[]⟩)\/(∃x,v=ac 179 (bx bz x)/\s=⟨3,U,x,[],0,[]⟩)\/∃p:Oo,v=ac 180 (ae ⟨p.toArray⟩)/\s=⟨4,U,0,p,0,[]⟩):
 bp C 122 #[V,v] w λe w'=>aA8 w V (T++ [s]) e w':=by
 obtain⟨W,X,rfl⟩:=a.A8;have P:=A a;clear a;rcases R with⟨rfl,rfl⟩|⟨b,rfl,rfl⟩|⟨x,rfl,rfl⟩|⟨p,rfl,rfl⟩
 focus
  have F:∀w:E,(du 565 177 (bk #[]) "affidavit/node.sort").run C w=aj (344,bk #[]) w:=λ_=>by kernel_rfl
  have a:∀w:E,(av (ac 177 (bk #[])) 97 178 L).run C w=aj (ar #[G U,G U]) w:=λ_=>by kernel_rfl
  have d:∀w:E,(av (ac 177 (bk #[])) 97 179 L).run C w=aj (ar #[bx bz 0,G U]) w:=λ_=>by kernel_rfl
  have l:∀w:E,(av (ac 177 (bk #[])) 97 180 L).run C w=aj (ar #["",G U]) w:=λ_=>by kernel_rfl
  have H:∀w:E,(av (ac 177 (bk #[])) 97 181 L).run C w=aj (ar #[ak Y,G U]) w:=λ_=>by kernel_rfl
  have K:∀w:E,(av (ac 177 (bk #[])) 97 187 L).run C w=aj (ar #[ak Y,G U]) w:=λ_=>by kernel_rfl
  have r:=A (λw=>aIe w);have t:=A (λw=>aAo w);go_enter dv,dw;go_wp2_with fail;refine(r.o _).mono ?_;rintro e w1 ⟨rfl,f⟩;have m:=A f;clear f;go_wp2_with fail;refine(t.o _).mono ?_;rintro e w2 ⟨rfl,c⟩;have j:=A (chain m.o (((dk w1 w1).alloc (hU _) (D #[O Z 1,G U,O Q 0,"",O Z 0,()] 147)).trans (c.mono (by simp))));have z:=A (kU c);have B:=A (lU w2 (O Z 1) (G U) (O Q 0) (ae ⟨#[]⟩) (O Z 0) (I Y 0 0) 147);obtain⟨N,i,n,y⟩:=P.o.A7 j.o;have S:=A (n.A0 ((af (λ_=>False) w2).A5 (D #[O Z 1,G U,O Q 0,"",O Z 0,()] 147)) λ_ _=>id);have q:=A (And.intro i (And.intro n y));clear i n y c F a d l H K r t
 rotate_left
 focus
  have F:∀w:E,(du 565 178 (G b) "affidavit/node.sort").run C w=aj (346,G b) w:=λ_=>by kernel_rfl
  have a:∀w:E,(av (ac 178 (G b)) 97 178 L).run C w=aj (ar #[b,G L]) w:=λ_=>by kernel_rfl
  have r:=A (λw=>aIf w b);have t:=A (λw=>aAp w b);go_enter dv,dw;go_wp2_with fail;refine(r.o _).mono ?_;rintro e w1 ⟨rfl,f⟩;have m:=A f;clear f;go_wp2_with fail;refine(t.o _).mono ?_;rintro e w2 ⟨rfl,c⟩;have j:=A (chain m.o (((dk w1 w1).alloc (hU _) (D #[O Z 2,b,O Q 0,"",O Z 0,()] 147)).trans (c.mono (by simp))));have z:=A (kU c);have B:=A (lU w2 (O Z 2) (G b) (O Q 0) (ae ⟨#[]⟩) (O Z 0) (I Y 0 0) 147);obtain⟨N,i,n,y⟩:=P.o.A7 j.o;have S:=A (n.A0 ((af (λ_=>False) w2).A5 (D #[O Z 2,b,O Q 0,"",O Z 0,()] 147)) λ_ _=>id);have q:=A (And.intro i (And.intro n y));clear i n y c F a r t
 rotate_left
 focus
  have F:∀w:E,(du 565 179 (bx bz x) "affidavit/node.sort").run C w=aj (348,bx bz x) w:=λ_=>by kernel_rfl
  have a:∀w:E,(av (ac 179 (bx bz x)) 97 178 L).run C w=aj (ar #[G U,G U]) w:=λ_=>by kernel_rfl
  have d:∀w:E,(av (ac 179 (bx bz x)) 97 179 L).run C w=aj (ar #[bx bz x,G L]) w:=λ_=>by kernel_rfl
  have H:=λw=>n8 x w;have r:=A (λw=>aKp w x);have t:=A (λw=>aBX w x);go_enter dv,dw;go_wp2_with fail;refine(r.o _).mono ?_;rintro e w1 ⟨rfl,f⟩;have m:=A f;clear f;go_wp2_with fail;refine(t.o _).mono ?_;rintro e w2 ⟨rfl,c⟩;have j:=A (chain m.o (((dk w1 w1).alloc (hU _) (D #[O Z 3,G U,O Q x,"",O Z 0,()] 147)).trans (c.mono (by simp))));have z:=A (kU c);have B:=A (lU w2 (O Z 3) (G U) (O Q x) (ae ⟨#[]⟩) (O Z 0) (I Y 0 0) 147);obtain⟨N,i,n,y⟩:=P.o.A7 j.o;have S:=A (n.A0 ((af (λ_=>False) w2).A5 (D #[O Z 3,G U,O Q x,"",O Z 0,()] 147)) λ_ _=>id);have q:=A (And.intro i (And.intro n y));clear i n y c F a d r t
 rotate_left
 focus
  have F:∀w:E,(du 565 180 (ae ⟨p.toArray⟩) "affidavit/node.sort").run C w=aj (350,ae ⟨p.toArray⟩) w:=λ_=>by kernel_rfl
  have a:∀w:E,(av (ac 180 (ae ⟨p.toArray⟩)) 97 178 L).run C w=aj (ar #[G U,G U]) w:=λ_=>by kernel_rfl
  have d:∀w:E,(av (ac 180 (ae ⟨p.toArray⟩)) 97 179 L).run C w=aj (ar #[bx bz 0,G U]) w:=λ_=>by kernel_rfl
  have l:∀w:E,(av (ac 180 (ae ⟨p.toArray⟩)) 97 180 L).run C w=aj (ar #[ae ⟨p.toArray⟩,G L]) w:=λ_=>by kernel_rfl
  have r:=A (λw=>aIg w ⟨p.toArray⟩);have t:=A (λw=>aAq w ⟨p.toArray⟩);go_enter dv,dw;go_wp2_with fail;refine(r.o _).mono ?_;rintro e w1 ⟨rfl,f⟩;have m:=A f;clear f;go_wp2_with fail;refine(t.o _).mono ?_;rintro e w2 ⟨rfl,c⟩;have j:=A (chain m.o (((dk w1 w1).alloc (hU _) (D #[O Z 4,G U,O Q 0,ae ⟨p.toArray⟩,O Z 0,()] 147)).trans (c.mono (by simp))));have z:=A (kU c);have B:=A (lU w2 (O Z 4) (G U) (O Q 0) (ae ⟨p.toArray⟩) (O Z 0) (I Y 0 0) 147);obtain⟨N,i,n,y⟩:=P.o.A7 j.o;have S:=A (n.A0 ((af (λ_=>False) w2).A5 (D #[O Z 4,G U,O Q 0,ae ⟨p.toArray⟩,O Z 0,()] 147)) λ_ _=>id);have q:=A (And.intro i (And.intro n y));clear i n y c F a d l r t
 rotate_left
 all_goals
  obtain⟨i,l,m,n,r,t,y⟩:=bJ z.o;go_wp2;go_loopw [55,0] (λv o wr=>v=O Z 0/\o=I W T.length X/\wr=w2) (λ_ _ _=>0)
  case atStart=>exact⟨rfl,rfl,rfl⟩
  case round=>
   obtain⟨rfl,rfl,rfl⟩:=hrel;have z:¬(0:Int)<0:=(by omega);go_wp2_with (at_builtin;refine bC aBW rfl _ _ rfl rfl S.o ⟨wr.heap.size,0,Y⟩ 1 1 _ rfl rfl B.o (by intro u f;simp at f;rcases f with rfl|rfl|rfl|rfl|rfl|rfl<;>rfl) (by decide) ?_ ?_ ?_)
   .omega
   .unfold dh;omega
   intro g off cap B a c R;have d:=A (And.intro a (And.intro c R));clear a c R i l m n r t y;go_wp2;go_ret;exact aBY P.o j.o q.o.1 q.o.2.1 q.o.2.2 (af _ _) (λk e=>az e) (.nil _ _ _) _ d.o.1 d.o.2.2 λk e=>d.o.2.1.imp (λa=>by cases e;exact a) λa=>by cases e;have:=a.1;(try simp at this);show wr.heap.size<=g;omega
def cS.R8{F:Nat->Prop}{w:E}{v:h}{t:Tr}(p:cS F w v t):cS (λk=>F k/\k<w.heap.size) w v t:=by
 induction p with
 | null=>exact .null
 | flag b=>exact .flag b
 | num x=>exact .num x
 | text s=>exact .text s
 | list b a d l j c i f o n=>exact .list b a d l ⟨j,cr c⟩ c ⟨i.1,λk e=>⟨i.2 k e,i.1.lt e⟩⟩ f n
 | object b g a d keys l j c m i f o n=>exact .object b g a d keys l ⟨j,cr c⟩ c ⟨m.1,λk e=>⟨m.2 k e,m.1.lt e⟩⟩ ⟨i.1,λk e=>⟨i.2 k e,i.1.lt e⟩⟩ f n
def zB{F:Nat->Prop}{w w2:E}{a:Option aw}{n c:Nat}{b:List h}{l:List Tr}{V:h}{a0:List Stp}(hn:l.length=n)(s:eK F 97 id w (I a n c) b)(d:b.length=l.length)(K:∀(i:Nat)(v:h)(t:Tr),b[i]?=J v->l[i]?=J t->cS F w v t)
 (X:∀t∈l,tF t)(r:∀k,F k->V.ownBlock≠J k)(hl:a0.length+(dX l).length<=1048576)(f:ai w w w2)(i:Nat)(hi:i<n)(o:h)(wr:E)(j:kN w2 V a0 l i o wr):
 ∃(T:cg)(x:h)(g off:Nat),a=J ⟨g,off,Y⟩/\wr.cell? ⟨g,off+i,Y⟩=J (ac T x)/\bp C 122 #[o,ac T x] wr λe w'=>∃z,e=co z/\kN w2 V a0 l (i+1) z w':=by
 obtain⟨s,m⟩:=s;rcases s with⟨_,e⟩|⟨g,off,cap,R,W,N,-,-,-,p⟩
 .rw[e]at d;simp at d;omega
 .injection W with x1 x2 x3;subst x1;have q:l[i]?=J (l[i]'(by omega)):=bf (by omega);have y:b[i]?=J (b[i]'(by omega)):=bf (by omega);have z1:=f.size;have u:=((K i _ _ y q).R8.A0 (bs (λ_=>False) f) λ_ _=>id).A0 j.2.1 λk e=>r k e.1;obtain⟨T,x,H⟩:=u.O1;rw[H]at u;refine⟨T,x,g,off,rfl,?_,(X _ (List.getElem_mem (by omega)) _ wr _ o (a0++dX (l.take i)) u j.1 (λk e P=>?_) ?_).mono λe w' S=>j.K8 q S⟩
  .rw[<-H];exact j.2.1.B6 ((aA (keep N f)).trans (p i _ y)) (r g (m g rfl))
  .rcases j.2.2 k P with B|B
   .exact r k e.1 B
   .have:=e.2;omega
  .have:=aA7 q;rw[cn];omega
def aFA(F:Nat->Prop)(w:E)(V:h)(H:List Stp)(b:Nat)(a:Option aw)(c:Nat)(f:List h)(l:List Tr)(z0 z1 z2:Int)(B:cK 147 w V H)(hl:H.length+(dX l).length+1<=1048576)
 (d:w.heap[b]?=J (D #[z0,z1,z2,I a l.length c] 186 (0,0)))(j:eK F 97 id w (I a l.length c) f)(p:f.length=l.length)(X:∀(i:Nat)(v:h)(t:Tr),f[i]?=J v->l[i]?=J t->cS F w v t)(ih:∀t∈l,tF t)(hF:∀k,F k->V.ownBlock≠J k):
 bp C 122 #[V,ac 181 (ak b)] w λe w'=>aA8 w V (H++(dX l++ [⟨5,U,0,[],l.length,[]⟩])) e w':=by
 obtain⟨N,P,rfl⟩:=B.A8;obtain⟨n,z⟩:∃n,l.length=n:=⟨_,rfl⟩;have R:=A B;have HN:=A z;rw[z]at j d;have HT:=A (λ(W:E)(m:ai w.heap.size w W)=>zB (w2:=W) z j p X ih hF (by omega:H.length+(dX l).length<=1048576) m);have S:=A d;have HI:=A (λ(W:E)(hW:ai w.heap.size w W)=>aAr W b a n c (O Z z0) (O Z z1) (O Z z2) (keep d hW));have HS:=A (λw=>aIh w b);have hm:∀w:E,(du 565 181 (ak b) "affidavit/node.sort").run C w=aj (352,ak b) w:=λ_=>by kernel_rfl
 have q:∀w:E,(av (ac 181 (ak b)) 97 178 L).run C w=aj (ar #[G U,G U]) w:=λ_=>by kernel_rfl
 have r:∀w:E,(av (ac 181 (ak b)) 97 179 L).run C w=aj (ar #[bx bz 0,G U]) w:=λ_=>by kernel_rfl
 have s:∀w:E,(av (ac 181 (ak b)) 97 180 L).run C w=aj (ar #["",G U]) w:=λ_=>by kernel_rfl
 have y:∀w:E,(av (ac 181 (ak b)) 97 181 L).run C w=aj (ar #[ak b,G L]) w:=λ_=>by kernel_rfl
 have K:=tE l;rw[z]at K;have g9:n<=1048576:=by omega
 clear B j d p X ih hF z;rw[HN.o];go_enter dv,dw;go_wp2_with fail;refine(HS.o _).mono ?_;rintro e w1 ⟨rfl,p⟩;have d:=chain p ((dk w1 w1).alloc (hU _) (D #[O Z 5,G U,O Q 0,"",O Z 0,()] 147));have X:(w1.alloc (D #[O Z 5,G U,O Q 0,"",O Z 0,()] 147)).cell? ⟨b,3,Y⟩=J (I a n c):=(aA (keep S.o d)).trans rfl;have z:=A p;clear p d;go_wp2_with fail;refine(HI.o _ (chain z.o ((dk w1 w1).alloc (hU _) _))).mono ?_;rintro e w2 ⟨rfl,m⟩;have B:=A (chain z.o (((dk w1 w1).alloc (hU _) (D #[O Z 5,G U,O Q 0,"",O Z n,()] 147)).trans (m.mono (by simp))));have g2:=A (kU m);clear m hm q r s y HS HI X;have X:=A (show kN w2 (I N H.length P) H l 0 (I N H.length P) w2 from⟨by simpa[dX]using R.o.A7 B.o,af _ _,λk e=>az e⟩);have g3:=A (HT.o w2 B.o);have g4:=A hl;clear hl K;go_wp2;go_loopw [55,0] (λv o wr=>∃i:Nat,v=O Z i/\i<=n/\M (kN w2 (I N H.length P) H l i o wr)) (λv _ _=>n-(ct v).toNat)
 case atStart=>exact⟨0,rfl,dr _,X⟩
 case round=>
  obtain⟨i,rfl,hi,s⟩:=hrel;by_cases g5:i<n
  .have e1:(i:Int)<(n:Int):=(by omega);have r:(0:Int)<=(i:Int):=(by omega);obtain⟨T,x,g,off,rfl,m,d⟩:=g3.o i g5 _ wr s.o;have q:=A d;clear d;go_wp2_with fail;refine q.o.mono ?_;rintro e y ⟨K,rfl,d⟩;have p:=A d;clear d;go_wp2_with fail;exact⟨⟨i+1,by go_num,by omega,p⟩,by simp[ct];omega⟩
  .have e1:¬(i:Int)<(n:Int):=(by omega);obtain rfl:i=n:=(by omega);have d:=s.o.2.1.B4 g2.o (λe=>by have:=R.o.lt e;have:=z.o.size;omega);obtain⟨x0,x1,x2,x3,x4,x5,-⟩:=bJ d;obtain⟨h0,m,j,y⟩:=s.o.1;have q:l.take i=l:=(by rw[<-HN.o,pd]);have r:(H++dX (l.take i)).length<=1048575:=(by rw[q,cn];have:=g4.o;omega);obtain⟨K,p⟩:∃K,H++dX (l.take i)=K:=⟨_,rfl⟩;obtain⟨oa,oc,rfl⟩:=j.A8;rw[p]at m j y r⊢;have g6:=A (lU wr (O Z 5) (G U) (O Q 0) (ae ⟨#[]⟩) (O Z i) (I Y 0 0) 147);have HW:=A (j.A0 ((af (λ_=>False) wr).A5 (D #[O Z 5,G U,O Q 0,"",i,()] 147)) λ_ _=>id);have g7:=A (And.intro m (And.intro j (And.intro y (show K=H++dX l by rw[<-p,q]))));have g8:=A (show ∀k,(I oa K.length oc).ownBlock=J k->(I N H.length P).ownBlock=J k\/w2.heap.size<=k from by rw[<-p];exact s.o.2.2);clear m j y d q p;go_wp2_with (at_builtin;refine bC aBW rfl _ _ rfl rfl HW.o ⟨wr.heap.size,0,Y⟩ 1 1 _ rfl rfl g6.o (by intro u hu;simp at hu;rcases hu with rfl|rfl|rfl|rfl|rfl|rfl<;>rfl) (by decide) ?_ ?_ ?_)
   .omega
   .unfold dh;omega
   intro g off cap w4 d p hk;have q:=A (And.intro d (And.intro p hk));clear d p hk x0 x1 x2 x3 x4 x5;go_wp2;go_ret;obtain⟨m,j,y,d⟩:=g7.o;rw[<-kd,<-d];exact aBY R.o B.o m j y s.o.2.1 g8.o (.nil _ _ _) _ q.o.1 q.o.2.2 λk e=>q.o.2.1.imp (λp=>by cases e;exact p) λp=>by cases e;have:=p.1;(try simp at this);show wr.heap.size<=g;omega
def aBZ(F:Nat->Prop)(w:E)(V:h)(R:List Stp)(b:Nat)(a S:Option aw)(c X:Nat)(m:List h)(keys:List Oo)(l:List Tr)(z0 z1 z2:Int)(P:cK 147 w V R)(hl:R.length+(dX l).length+1<=1048576)
 (d:w.heap[b]?=J (D #[z0,z1,z2,I S keys.length X,I a l.length c] 189 (0,0)))(s:Win 9 encS w (I S keys.length X) keys)(q:eK F 97 id w (I a l.length c) m)(j:m.length=l.length)(ht:∀(i:Nat)(v:h)(t:Tr),m[i]?=J v->l[i]?=J t->cS F w v t)(ih:∀t∈l,tF t)(hF:∀k,F k->V.ownBlock≠J k)(K:keys.length<=1048576):
 bp C 122 #[V,ac 187 (ak b)] w λe w'=>aA8 w V (R++(dX l++ [⟨6,U,0,[],0,keys⟩])) e w':=by
 obtain⟨va,vc,rfl⟩:=P.A8;obtain⟨n,N⟩:∃n,l.length=n:=⟨_,rfl⟩;have HV:=A P;have HN:=A N;rw[N]at q d;have HT:=A (λ(W:E)(f:ai w.heap.size w W)=>zB (w2:=W) N q j ht ih hF (by omega:R.length+(dX l).length<=1048576) f);have g7:=A d;have HI:=A (λ(W:E)(hW:ai w.heap.size w W)=>wD W b a n c S keys.length X (O Z z0) (O Z z1) (O Z z2) (keep d hW));have g2:=A (λ(W:E)(hW:ai w.heap.size w W)=>qG W (I S keys.length X) keys K (s.A0 (bs (λ_=>False) hW) λ_ _=>id));have HS:=A (λw=>aDH w b);have hm:∀w:E,(du 565 187 (ak b) "affidavit/node.sort").run C w=aj (353,ak b) w:=λ_=>by kernel_rfl
 have r:∀w:E,(av (ac 187 (ak b)) 97 178 L).run C w=aj (ar #[G U,G U]) w:=λ_=>by kernel_rfl
 have y:∀w:E,(av (ac 187 (ak b)) 97 179 L).run C w=aj (ar #[bx bz 0,G U]) w:=λ_=>by kernel_rfl
 have z:∀w:E,(av (ac 187 (ak b)) 97 180 L).run C w=aj (ar #["",G U]) w:=λ_=>by kernel_rfl
 have B:∀w:E,(av (ac 187 (ak b)) 97 181 L).run C w=aj (ar #[ak Y,G U]) w:=λ_=>by kernel_rfl
 have H:∀w:E,(av (ac 187 (ak b)) 97 187 L).run C w=aj (ar #[ak b,G L]) w:=λ_=>by kernel_rfl
 have g3:=tE l;rw[N]at g3;have h4:n<=1048576:=by omega
 clear P q d j ht ih hF N s K;go_enter dv,dw;go_wp2_with fail;refine(HS.o _).mono ?_;rintro e w1 ⟨rfl,j⟩;have d:=chain j ((dk w1 w1).alloc (hU _) (D #[O Z 6,G U,O Q 0,"",O Z 0,()] 147));have g8:(w1.alloc (D #[O Z 6,G U,O Q 0,"",O Z 0,()] 147)).cell? ⟨b,3,Y⟩=J (I S keys.length X):=(aA (keep g7.o d)).trans rfl;have s:=A j;clear j d;go_wp2_with fail;refine(g2.o _ (chain s.o ((dk w1 w1).alloc (hU _) _))).mono ?_;rintro e w5 ⟨kv,rfl,K,g4,N⟩;obtain⟨d,j,rfl⟩:=K.A8;have P:=kU N;obtain⟨-,-,-,-,-,x5,xf⟩:=bJ P;have g5:=A ((chain (chain s.o ((dk w1 w1).alloc (hU _) (D #[O Z 6,G U,O Q 0,"",O Z 0,()] 147))) N).setCell (p:=⟨w1.heap.size,5,Y⟩) s.o.size (I d keys.length j));have g9:=A (aB (o:=5) P (I d keys.length j));have g6:=A (K.A0 ((af (λk=>k=w1.heap.size) w5).own 5 (I d keys.length j)) λk e e2=>by have:=(g4 k e).1;simp at this;omega);clear K g4 N P g8;go_wp2_with fail;refine(HI.o _ g5.o).mono ?_;rintro e w2 ⟨rfl,f⟩;have K:=A (chain g5.o f);have g4:=A (show w2.heap[w1.heap.size]?=J (D #[O Z 6,G U,O Q 0,"",O Z 0,I d keys.length j] 147 (0,0))from keep g9.o f);have g8:=A (g6.o.A0 (bs (λ_=>False) f) λ_ _=>id);clear f hm r y z B H HS HI g2 x5 xf g6;have g2:=A (show kN w2 (I va R.length vc) R l 0 (I va R.length vc) w2 from⟨by simpa[dX]using HV.o.A7 K.o,af _ _,λk e=>az e⟩);have g6:=A (HT.o w2 K.o);have h0:=A hl;clear hl g3;go_wp2;go_loopw [55,0] (λv o wr=>∃i:Nat,v=O Z i/\i<=n/\M (kN w2 (I va R.length vc) R l i o wr)) (λv _ _=>n-(ct v).toNat)
 case atStart=>exact⟨0,rfl,dr _,g2⟩
 case round=>
  obtain⟨i,rfl,hi,H⟩:=hrel;by_cases g3:i<n
  .have e1:(i:Int)<(n:Int):=(by omega);have B:(0:Int)<=(i:Int):=(by omega);obtain⟨T,x,g,off,rfl,r,f⟩:=g6.o i g3 _ wr H.o;have z:=A f;clear f;go_wp2_with fail;refine z.o.mono ?_;rintro e N ⟨P,rfl,f⟩;have y:=A f;clear f;go_wp2_with fail;exact⟨⟨i+1,by go_num,by omega,y⟩,by simp[ct];omega⟩
  .have e1:¬(i:Int)<(n:Int):=(by omega);obtain rfl:i=n:=(by omega);have f:=H.o.2.1.B4 g4.o (λe=>by have:=HV.o.lt e;have:=s.o.size;omega);obtain⟨x0,x1,x2,x3,x4,x5,-⟩:=bJ f;obtain⟨h5,r,q,N⟩:=H.o.1;have z:l.take i=l:=(by rw[<-HN.o,pd]);have B:(R++dX (l.take i)).length<=1048575:=(by rw[z,cn];have:=h0.o;omega);obtain⟨P,y⟩:∃P,R++dX (l.take i)=P:=⟨_,rfl⟩;obtain⟨oa,oc,rfl⟩:=q.A8;rw[y]at r q N B⊢;have h1:=A (lU wr (O Z 6) (G U) (O Q 0) (ae ⟨#[]⟩) (O Z 0) (I d keys.length j) 147);have HW:=A (q.A0 ((af (λ_=>False) wr).A5 (D #[O Z 6,G U,O Q 0,"",O Z 0,I d keys.length j] 147)) λ_ _=>id);have h2:=A (And.intro r (And.intro q (And.intro N (show P=R++dX l by rw[<-y,z]))));have h3:=A (show ∀k,(I oa P.length oc).ownBlock=J k->(I va R.length vc).ownBlock=J k\/w2.heap.size<=k from by rw[<-y];exact H.o.2.2);clear r q N f z y;go_wp2_with (at_builtin;refine bC aBW rfl _ _ rfl rfl HW.o ⟨wr.heap.size,0,Y⟩ 1 1 _ rfl rfl h1.o (by intro u hu;simp at hu;rcases hu with rfl|rfl|rfl|rfl|rfl|rfl<;>rfl) (by decide) ?_ ?_ ?_)
   .omega
   .unfold dh;omega
   intro g off cap w4 f y hk;have z:=A (And.intro f (And.intro y hk));clear f y hk x0 x1 x2 x3 x4 x5;go_wp2;go_ret;obtain⟨r,q,N,e2⟩:=h2.o;rw[<-kd,<-e2];exact aBY HV.o K.o r q N H.o.2.1 h3.o g8.o _ z.o.1 z.o.2.2 λk e=>z.o.2.1.imp (λf=>by cases e;exact f) λf=>by cases e;have:=f.1;(try simp at this);show wr.heap.size<=g;omega
def aB0{t:Tr}(K:Small t):tF t:=by
 induction K with
 | null=>intro F w v V H g j k e;cases g;rw[et]at e⊢;exact nF w V _ H _ j e (az ⟨rfl,rfl⟩)
 | flag b=>intro F w v V H g j k e;cases g;rw[et]at e⊢;exact nF w V _ H _ j e (au (az ⟨b,rfl,rfl⟩))
 | num x=>intro F w v V H g j k e;cases g;rw[et]at e⊢;exact nF w V _ H _ j e (au (au (az ⟨x,rfl,rfl⟩)))
 | text s=>intro F w v V H g j k e;cases g;rw[et]at e⊢;exact nF w V _ H _ j e (au (au (au ⟨s,rfl,rfl⟩)))
 | list l o K p=>
  intro F w v V H g j k e;rw[tD]at e⊢;rw[cn,ki]at e;cases g with
  | list b u i l r f m d g=>
   obtain⟨a,c,rfl⟩:=m.1.A8;rw[d]at m f;exact aFA F w V H b a c i l _ _ _ j (by omega) f m d g p k
 | object keys l z o K p=>
  intro F w v V H g j k e;rw[nE]at e⊢;rw[cn,ki]at e;cases g with
  | object b B u i keys l r f n m d g=>
   obtain⟨a,c,rfl⟩:=m.1.A8;obtain⟨q,y,rfl⟩:=n.1.A8;rw[d]at m f;exact aBZ F w V H b a q c y i keys l _ _ _ j (by omega) f n.1 m d g p k (by omega)
def aKq(w:E)(a:List Stp)(e:Ending)(w':E):Prop:=∃V,e=co V/\cK 147 w' V a/\ai w w w'/\∀k,V.ownBlock=J k->w.heap.size<=k
def aIi(w:E)(T:cg)(x:h):(binOp .eql 97 (ac T x) .nilIface).run C w=aj (G U) w:=by kernel_rfl
def aB1{t:Tr}(o:Small t)(F:Nat->Prop)(w:E)(T:cg)(x:h)(d:cS F w (ac T x) t)(l:t.F3.length<=1048576):bp C 92 #[bk #[ac T x]] w λe w'=>aKq w t.F3 e w':=by
 have a:=(dk w.heap.size w).alloc (hU _) (D #[ac T x] 99);have m:=A (aB0 o F (w.alloc (D #[ac T x] 99)) _ (I Y 0 0) [] (d.A0 (bs (λ_=>False) a) λ_ _=>id) (cK.nil _ _) (λk _ e=>by cases e) (by simpa using l));have n:(w.alloc (D #[ac T x] 99)).cell? ⟨w.heap.size,0,Y⟩=J (ac T x):=fq (aL w _);have j:=λw=>aIi w T x;have c:=A a;clear a d;go_enter func92,ntmps92;go_wp2_with fail;refine m.o.mono ?_;rintro e w1 ⟨V,rfl,g,f,i⟩;have b:=A (And.intro g (And.intro f i));clear g f i;go_wp2;go_ret
 exact⟨V,rfl,by simpa using b.o.1,c.o.trans (b.o.2.1.A6 c.o.size λk e=>by cases e),λk e=>by
  rcases b.o.2.2 k e with e|e
  .cases e
  .exact bo c.o.size e⟩
def aLB(w:E)(b:Nat)(T:cg)(x:h)(a:w.heap[b]?=J (D #[ac T x] 176 (0,0))):bp C 49 #[ak b] w λe w'=>e=co (bk #[ac T x])/\ai w w w':=by
 have f:w.cell? b=J (ac T x):=fq a;have d:=cr a;clear a;go_enter func49,ntmps49;go_wp2_with fail;have c:(w.alloc (D #[ac T x] 99)).cell? w=J (ac T x):=fq (aL w _);exact bb (v:=bk #[ac T x]) (by simp[results,results49,go_sem,c]) rfl ⟨rfl,(dk w w).alloc (hU _) _⟩
def aAs{t:Tr}(q:Small t)(F:Nat->Prop)(w:E)(b:Nat)(T:cg)(x:h)(i:w.heap[b]?=J (D #[ac T x] 176 (0,0)))(g:cS F w (ac T x) t)(o:t.F3.length<=1048576):bp C 59 #[ak b] w λe w'=>aKq w t.F3 e w':=by
 have n:=A (aLB w b T x i);have p:=A (λW(m:ai w w W)=>aB1 q F W T x (g.A0 (bs (λ_=>False) m) λ_ _=>id) o);clear i g q;go_enter func59,ntmps59;go_wp2_with fail;refine n.o.mono ?_;rintro e w1 ⟨rfl,d⟩;have a:=A d;clear d;go_wp2_with fail;refine(p.o w1 a.o).mono ?_;rintro e w2 ⟨V,rfl,j,c,l⟩;have f:=A (And.intro j (And.intro c l));clear j c l;go_wp2;go_ret;exact⟨V,rfl,f.o.1,chain a.o f.o.2.1,λk e=>bo a.o.size (f.o.2.2 k e)⟩
def aHR{F:Nat->Prop}{w:E}{X N:Option aw}{n kc vc:Nat}{keys:List Oo}{c:List Tr}{m:List (List h)}(hk:Win 9 encS w (I X n kc) keys)(hw:aQ 6 34 w (I N n vc) n m.flatten)(P:l5 F w m c)(hl:c.length=keys.length)(R:keys.length=n)(i:Nat)(hi:i<n):
 ∃(B H f l:Nat)(k:Oo)(t:Tr)(kx:ByteArray)(r:Int)(s:Bool)(v:Nat)(x:ByteArray)(a:Option aw)(y z:Nat)(b:Option aw)(p q:Nat),X=J ⟨B,H,Y⟩/\N=J ⟨f,l,Y⟩/\encS k=ae kx/\(gR keys c m)[i]?=J ((k,t),eQ r s v x (I a y z) (I b p q))/\∀W,ai w w W->
  W.cell? ⟨B,H+i,Y⟩=J (ae kx)/\W.cell? ⟨f,l+i*6,Y⟩=J (O Z r)/\W.cell? ⟨f,l+i*6+1,Y⟩=J (G s)/\W.cell? ⟨f,l+i*6+2,Y⟩=J (O Q v)/\W.cell? ⟨f,l+i*6+3,Y⟩=J (ae x)/\W.cell? ⟨f,l+i*6+4,Y⟩=J (I a y z)/\W.cell? ⟨f,l+i*6+5,Y⟩=J (I b p q):=by
 have g4:=P.1;have h1:keys[i]?=J (keys[i]'(by omega)):=bf (by omega);have h2:c[i]?=J (c[i]'(by omega)):=bf (by omega);have K:m[i]?=J (m[i]'(by omega)):=bf (by omega);obtain⟨r,s,v,x,a,y,z,b,p,q,hc⟩:=(P.2 i _ _ K h2).A8;rw[hc]at K;rcases hk with⟨_,e⟩|⟨B,H,g2,g3,e1,S,-,-,-,T⟩
 .rw[e]at R;simp at R;omega
 injection e1 with y1 y2 y3;subst y1
 obtain⟨f,l,o,e2⟩:∃f l o,(I N n vc)=I (J ⟨f,l,Y⟩) n o:=by
  rcases hw with⟨_,⟨_,R⟩|⟨g,off,cap,d,e,_⟩⟩
  .omega
  .exact⟨g,off,cap,e⟩
 injection e2 with z1 z2 z3;subst z1;refine⟨B,H,f,l,_,_,_,r,s,v,x,a,y,z,b,p,q,rfl,rfl,rfl,aHO h1 h2 K,λW hW=>⟨by rw[aA (keep S hW)];exact T i _ h1,?_⟩⟩
 have d:∀(j:Nat)(u:h),(eQ r s v x (I a y z) (I b p q))[j]?=J u->W.cell? ⟨f,l+i*6+j,Y⟩=J u:=λj u hj=>by
  have V:j<6:=(bt.1 hj).1;have:=(hw.A0 (bs (λ_=>False) hW) λ_ _=>id).B6 (j:=i*6+j) (u:=u) (by rw[pH P.Y0 K V];exact hj);rw[fo];exact this
 exact⟨d 0 _ rfl,d 1 _ rfl,d 2 _ rfl,d 3 _ rfl,d 4 _ rfl,d 5 _ rfl⟩
def rB{b:Type}{l:List b}{i:Nat}{x:b}(a:l[i]?=J x):l.take (i+1)=l.take i++ [x]:=by
 rw[List.take_succ,a];rfl
def aHQ.K8{w wr b w':E}{l:List eA}{i g off cap:Nat}{o:h}{x:eA}(t:aHQ w l i o wr)(p:l[i]?=J x)(m:Keeps (λ_=>False) wr b)(a:aQ 7 336 w' (I (g,off) (i+1) cap) (i+1) (((l.take i).map lL).flatten++lL x))(f:o.ownBlock=J g\/b.heap.size<=g)(q:Keeps (λk=>o.ownBlock=J k) b w'):
 aHQ w l (i+1) (I (g,off) (i+1) cap) w':=by
 obtain⟨-,j,n⟩:=t;have c:(w.alloc (D #[O Z 0,G U,O Q 0,"",(),()] 34)).heap.size=w.heap.size+1:=by simp
 have r:=n.size;have s:=m.size;rw[c]at r;have d:i<l.length:=(bt.1 p).1;refine⟨?_,λk e=>?_,(n.trans (m.A6 (by omega) λ_=>ew)).trans (q.A6 (by omega) λk e=>j k e)⟩
 .unfold bN;rw[rB p,kr,oq,dV,cn,ki,el,Nat.min_eq_left (iF d)];exact a
 .obtain rfl:g=k:=by simpa[ej]using e
  exact f.elim (j g) λe=>by omega
def bN.D0{w:E}{g off n cap i:Nat}{S:List eA}{x:eA}{f:Int}{m:Bool}{l:Nat}{s:ByteArray}{a b:Option aw}{r o p q:Nat}(K:bN w (I (g,off) n cap) S)(B:iZ S)(hi:S[i]?=J x)(y:x.2=eQ f m l s (I a r o) (I b p q)):
 w.cell? ⟨g,off+i*7,Y⟩=J (encS x.1.1)/\w.cell? ⟨g,off+i*7+1,Y⟩=J (O Z f)/\w.cell? ⟨g,off+i*7+2,Y⟩=J (G m)/\w.cell? ⟨g,off+i*7+3,Y⟩=J (O Q l)/\w.cell? ⟨g,off+i*7+4,Y⟩=J (ae s)/\w.cell? ⟨g,off+i*7+5,Y⟩=J (I a r o)/\w.cell? ⟨g,off+i*7+6,Y⟩=J (I b p q):=by
 have z:n=S.length:=by
  rcases K.2 with⟨d,_⟩|⟨H,e,k,v,d,_⟩
  .cases d
  .cases d;rfl
 subst z
 have c:∀(j:Nat)(u:h),(lL x)[j]?=J u->j<7->w.cell? ⟨g,off+i*7+j,Y⟩=J u:=λj u F t=>by
  have:=aQ.B6 K (j:=i*7+j) (u:=u) (by rw[pH (qY B) (show(S.map lL)[i]?=J (lL x) by rw[ed,hi];rfl) t];exact F);rw[fo];exact this
 unfold lL at c;rw[y]at c;exact⟨c 0 _ rfl (by decide),c 1 _ rfl (by decide),c 2 _ rfl (by decide),c 3 _ rfl (by decide),c 4 _ rfl (by decide),c 5 _ rfl (by decide),c 6 _ rfl (by decide)⟩
def aL7(c:E)(B:Nat)(S:List eA)(i:Nat)(wr:E):Prop:=∃a b:h,wr.heap[B]?=J (D #[O Z 6,G U,O Q 0,"",b,a] 34 (0,0))/\aQ 1 9 wr a i ((S.take i).map λx=>encS x.1.1)/\aQ 6 34 wr b i ((S.take i).map (·.2)).flatten/\
 (∀k,a.ownBlock=J k->c.heap.size<=k)/\(∀k,b.ownBlock=J k->c.heap.size<=k)/\Keeps (λk=>k=B) c wr
def aLp{w:E}{b:Nat}{m l j i n p:h}{T:cg}(d g c a e f:h)(q:w.heap[b]?=J (D #[m,l,j,i,n,p] T (0,0))):
 ((((((w.setCell b d).setCell ⟨b,1,Y⟩ g).setCell ⟨b,2,Y⟩ c).setCell ⟨b,3,Y⟩ a).setCell ⟨b,4,Y⟩ e).setCell ⟨b,5,Y⟩ f).heap[b]?=J (D #[d,g,c,a,e,f] T (0,0))/\
 Keeps (λk=>k=b) w ((((((w.setCell b d).setCell ⟨b,1,Y⟩ g).setCell ⟨b,2,Y⟩ c).setCell ⟨b,3,Y⟩ a).setCell ⟨b,4,Y⟩ e).setCell ⟨b,5,Y⟩ f):=
 ⟨aB (o:=5) (aB (o:=4) (aB (o:=3) (aB (o:=2) (aB (o:=1) (aB (o:=0) q d) g) c) a) e) f,((((((af (λk=>k=b) w).own _ _).own _ _).own _ _).own _ _).own _ _).own _ _⟩
def aJ2{F:Nat->Prop}{w j wr K:E}{B n:Nat}{S l:List eA}{keys:List Oo}{a:List Tr}{b:List (List h)}{m N:h}(hv:l5 F w b a)(P:a.length=keys.length)(T:keys.length=n)(hr:bK keys)(V:keys.Nodup)(f:gR keys a b=l)(W:dR l=S)
 (o:aQ 1 9 wr m n ((S.take n).map λx=>encS x.1.1))(p:aQ 6 34 wr N n ((S.take n).map (·.2)).flatten)(q:∀k,m.ownBlock=J k->j.heap.size<=k)(r:∀k,N.ownBlock=J k->j.heap.size<=k)(d:ai w w j)(s:Keeps (λk=>k=B) j wr)(g4:w.heap.size<B)(g5:B<j.heap.size)(X:Keeps (λk=>k=w.heap.size) wr K)
 :ValAt (λk=>F k\/w.heap.size<=k) K (eQ 6 U 0 ⟨#[]⟩ N m) (.object (dC keys) (besides keys a))/\ai w w K:=by
 have u:b.length=keys.length:=by rw[hv.1];exact P
 have g2:S.length=n:=by rw[<-W,rA,<-f,yQ P u,T]
 have g:S.take n=S:=lj (by omega);rw[g]at o p;have v:S.map (·.1)=iE (keys.zip a):=by rw[<-W,aFk _ l (hU _),<-f,aFl P u]
 obtain⟨e1,R⟩:=aLn hr V P;rw[<-v,gr]at e1 R;have y:ai w w K:=(d.trans (s.A6 d.size λk e=>by omega)).trans (X.A6 (bo d.size s.size) λk e=>by omega);have hz:=d.size;refine⟨?_,y⟩;rw[<-e1,<-R];have g3:Win 9 encS wr m (S.map λx=>x.1.1):=aQ.I4 (n:=n) (by rw[gr];exact o);have z:(S.map ((λx:Mem=>x.2)∘λx:eA=>x.1)).length=n:=by simp[g2]
 refine .object N m (S.map (·.2)) _ _ ?_ (λk e=>au (by have:=r k e;omega)) ?_ (λk e=>au (by have:=q k e;omega)) (by simp) (by simp) ?_
 .rw[z];exact p.A0 X λk e R=>by have:=r k e;omega
 .exact g3.A0 X λk e R=>by have:=q k e;omega
 .intro i c t H ht;rw[ed]at H ht;cases hi:S[i]? with
  | none=>rw[hi]at H;cases H
  | some x=>
   rw[hi]at H ht;cases H;cases ht
   have hx:x∈gR keys a b:=by
    rw[f];exact(oS _ l (hU _)).mem_iff.1 (by rw[W];exact lx hi)
   exact((vJ hv x hx).A0 (bs (λ_=>False) y) λ_ _ _ a0=>a0.elim).mono λk e _=>az e
def aHS{b wr r w1:E}{B j g1 o1 c1 g:Nat}{S:List eA}{x:eA}{m:Option aw}{n:h}{F:ByteArray}(R:S[j]?=J x)(v:encS x.1.1=ae F)(P:B<b.heap.size)(H:wr.heap[B]?=J (D #[O Z 6,G U,O Q 0,"",n,I m j g] 34 (0,0)))
 (q:aQ 1 9 wr (I m j g) j ((S.take j).map λx=>encS x.1.1))(f:aQ 6 34 wr n j ((S.take j).map (·.2)).flatten)(c:∀k,(I m j g).ownBlock=J k->b.heap.size<=k)(u:∀k,n.ownBlock=J k->b.heap.size<=k)(p:Keeps (λk=>k=B) b wr)(d:Keeps (λ_=>False) wr r)
 (l:aQ 1 9 w1 (I (g1,o1) (j+1) c1) (j+1) (((S.take j).map λx=>encS x.1.1)++ [ae F]))(w:(I m j g).ownBlock=J g1\/r.heap.size<=g1)(s:Keeps (λk=>(I m j g).ownBlock=J k) r w1):
 (w1.setCell ⟨B,5,Y⟩ (I (g1,o1) (j+1) c1)).heap[B]?=J (D #[O Z 6,G U,O Q 0,"",n,I (g1,o1) (j+1) c1] 34 (0,0))/\
 aQ 1 9 (w1.setCell ⟨B,5,Y⟩ (I (g1,o1) (j+1) c1)) (I (g1,o1) (j+1) c1) (j+1) ((S.take (j+1)).map λx=>encS x.1.1)/\aQ 6 34 (w1.setCell ⟨B,5,Y⟩ (I (g1,o1) (j+1) c1)) n j ((S.take j).map (·.2)).flatten/\
 (∀k,(I (g1,o1) (j+1) c1).ownBlock=J k->b.heap.size<=k)/\Keeps (λk=>k=B) b (w1.setCell ⟨B,5,Y⟩ (I (g1,o1) (j+1) c1)):=by
 have V:=p.size;have T:=d.size;have y:w1.heap[B]?=_:=s.B4 (d.B4 H id) (λe=>by have:=c _ e;omega);have a:=(af (λk=>k=B) w1).own 5 (I (g1,o1) (j+1) c1);have K:b.heap.size<=g1:=w.elim (c g1) λe=>by omega
 have i:=(f.A0 d λ_ _=>id).A0 s (λk e t=>by
  obtain⟨c1,N⟩:=(q.A0 d λ_ _=>id).D5 t;obtain⟨c2,z⟩:=(f.A0 d λ_ _=>id).D5 e;rw[N]at z;cases z)
 refine⟨aB (o:=5) y _,?_,i.A0 a λk e t=>by have:=u k e;omega,λk e=>?_,?_⟩
 .rw[rB R,kr,oq,v]
  exact l.A0 a λk e t=>by
   obtain rfl:g1=k:=(by simpa[ej]using e);omega
 .obtain rfl:g1=k:=by simpa[ej]using e
  exact K
 .exact(((p.trans d λ_=>ew).trans s λk e=>au (c k e))).own 5 _
def aLq(w:E)(a b c d e f:h):∀(j:Nat)(u:h),[a,b,c,d,e,f][j]?=J u->(w.alloc (D #[a,b,c,d,e,f] 34)).cell? ((⟨w.heap.size,0,Y⟩:aw).add j)=J u:=λj u g=>by
 rw[mi,jw];exact(aA (aL w _)).trans (by simpa using g)
def aJ3:lB 31 34 6 88:=⟨underlying31,by decide,by
 have e:(C.info? 34).map (λi=>(i.zero,i.size,i.bytes))=J (J (bk #[O Z 0,G U,O Q 0,"",(),()]),6,88):=by kernel_rfl
 obtain⟨i,c,a,d,b⟩:=info_parts e;exact⟨i,_,c,a,d,b,rfl⟩⟩
def aHT{f wr v w1:E}{B j g1 o1 c1 i:Nat}{S:List eA}{x:eA}{l:Option aw}{u:h}{N:Int}{P:Bool}{R:Nat}{T:ByteArray}{a b:Option aw}{V W p q:Nat}(hx:S[j]?=J x)(w:x.2=eQ N P R T (I a V W) (I b p q))(g4:B<f.heap.size)(hb:wr.heap[B]?=J (D #[O Z 6,G U,O Q 0,"",I l j i,u] 34 (0,0)))
 (m:aQ 1 9 wr u (j+1) ((S.take (j+1)).map λx=>encS x.1.1))(y:aQ 6 34 wr (I l j i) j ((S.take j).map (·.2)).flatten)(n:∀k,u.ownBlock=J k->f.heap.size<=k)(d:∀k,(I l j i).ownBlock=J k->f.heap.size<=k)(r:Keeps (λk=>k=B) f wr)(g:Keeps (λ_=>False) wr v)
 (s:aQ 6 34 w1 (I (g1,o1) (j+1) c1) (j+1) (((S.take j).map (·.2)).flatten++ [O Z N,G P,O Q R,ae T,I a V W,I b p q]))(z:(I l j i).ownBlock=J g1\/v.heap.size<=g1)(F:Keeps (λk=>(I l j i).ownBlock=J k) v w1):
 aL7 f B S (j+1) (w1.setCell ⟨B,4,Y⟩ (I (g1,o1) (j+1) c1)):=by
 have z1:=r.size;have z2:=g.size;have H:w1.heap[B]?=_:=F.B4 (g.B4 hb id) (λe=>by have:=d _ e;omega);have c:=(af (λk=>k=B) w1).own 4 (I (g1,o1) (j+1) c1);have hg:f.heap.size<=g1:=z.elim (d g1) λe=>by omega
 have t:=(m.A0 g λ_ _=>id).A0 F (λk e K=>by
  obtain⟨c1,h1⟩:=(y.A0 g λ_ _=>id).D5 K;obtain⟨c2,X⟩:=(m.A0 g λ_ _=>id).D5 e;rw[h1]at X;cases X)
 refine⟨u,_,aB (o:=4) H _,t.A0 c λk e K=>by have:=n k e;omega,?_,n,λk e=>?_,(((r.trans g λ_=>ew).trans F λk e=>au (d k e))).own 4 _⟩
 .rw[rB hx,kr,oq,dV,w]
  exact s.A0 c λk e K=>by
   obtain rfl:g1=k:=(by simpa[ej]using e);omega
 .obtain rfl:g1=k:=by simpa[ej]using e
  exact hg
def aHU(F:Nat->Prop)(w:E)(K V:h)(keys:List Oo)(d:List Tr)(css:List (List h))(hk:Win 9 encS w K keys)(hw:aQ 6 34 w V d.length css.flatten)(hv:l5 F w css d)(hl:d.length=keys.length)(hn:keys.length<=65536)(hr:bK keys)(hnd:keys.Nodup):
 bp C 171 #[K,V] w λe w'=>∃a n m b p q,e=co (bk #[O Z 6,G U,O Q 0,"",I a n m,I b p q])/\ValAt (λk=>F k\/w.heap.size<=k) w' (eQ 6 U 0 ⟨#[]⟩ (I a n m) (I b p q)) (.object (dC keys) (besides keys d))/\ai w w w':=by
 obtain⟨ka,kc,rfl⟩:=hk.A8;obtain⟨va,vc,rfl⟩:=hw.A8;obtain⟨n,r⟩:∃n,keys.length=n:=⟨_,rfl⟩;rw[hl,r]at hw;rw[r]at hk hn;have HP:=A (aHR hk hw hv hl r);have hok:iZ (gR keys d css):=aHP hv λk a0=>⟨(hr k a0).1,by have:=(hr k a0).2;omega⟩;have hln:(gR keys d css).length=n:=by rw[yQ hl (by rw[hv.1];exact hl),r]
 have HX:=A (And.intro hv (And.intro hl (And.intro r (And.intro hr hnd))));obtain⟨l,hll⟩:∃l,gR keys d css=l:=⟨_,rfl⟩;rw[hll]at hok hln HP;have HL:=A (And.intro hll (And.intro hok hln));have HM0:=A (show aHQ w l 0 (I Y 0 0) (w.alloc (D #[O Z 0,G U,O Q 0,"",(),()] 34))from⟨.nil _ _ _,λk e=>(by cases e),dk _ _⟩);rw[hl,r];clear hk hw hv hl hr hnd hok hln hll r;go_enter func171,ntmps171;go_wp2;go_loopw [5,6] (λo v wr=>∃i:Nat,v=O Z i/\i<=n/\M (aHQ w l i o wr)) (λ_ v _=>n-(ct v).toNat)
 case atStart=>exact⟨0,rfl,dr _,HM0⟩
 case round=>
  obtain⟨i,rfl,hi,HM⟩:=hrel;obtain⟨oa,oc,rfl⟩:=aQ.A8 HM.o.1;have hto:(l.take i).length=i:=by rw[el,HL.o.2.2];omega
  rw[hto]at HM⊢;clear hto;by_cases hin:i<n
  .have e1:(i:Int)<(n:Int):=(by omega);have e0:(0:Int)<=(i:Int):=(by omega);obtain⟨kg,ko,vg,vo,k,t,z,N,P,X,T,a,R,m1,b,p,q,rfl,rfl,hkx,hmem,hcs⟩:=HP.o i hin
   have hbw:ai w w wr:=by
    obtain⟨_,_,h3⟩:=HM.o;exact((dk w w).alloc (hU _) _).trans (h3.mono (by omega))
   obtain⟨d0,d1,d2,d3,d4,d5,d6⟩:=hcs wr hbw;have HD:=A (And.intro hkx hmem);have HCS:=A hcs;have HBL:=A (λ(w':E)(hkk:Keeps (λk=>(I oa i oc).ownBlock=J k) (wr.drew.alloc (D #[z,N,P,O Q X,T,I a R m1,I b p q] 336)) w')=>show ai w w w' from(hbw.trans (((af (λ_=>False) wr).B0.A5 (D #[z,N,P,O Q X,T,I a R m1,I b p q] 336)).A6 hbw.size λ_=>ew)).trans (hkk.A6 (bo hbw.size (by simp)) λk e=>iF (HM.o.2.1 k e)));clear hcs hbw hkx hmem
   have HW:=A (λ(a0:(l.take i).length=i)=>show aQ 7 336 (wr.drew.alloc (D #[z,N,P,O Q X,T,I a R m1,I b p q] 336)) (I oa i oc) i ((l.take i).map lL).flatten from by
    have h2:=aQ.A0 HM.o.1 ((af (λ_=>False) wr).B0.A5 (D #[z,N,P,O Q X,T,I a R m1,I b p q] 336)) λ_ _=>id
    rwa[a0]at h2)
   have HNW:=A (mE wr.drew (ae z) (O Z N) (G P) (O Q X) (ae T) (I a R m1) (I b p q));have HTO:=A (show(l.take i).length=i by rw[el,HL.o.2.2];omega);have HBM:=A (show(i+1)*104<=140737488355328/\i+1<=dh from⟨by omega,by unfold dh;omega⟩);go_wp2
   go_region_held3 (λw'=>w'.cell? ⟨kg,ko+i,Y⟩=J (ae z)/\w'.cell? ⟨vg,vo+i*6,Y⟩=J (O Z N)/\w'.cell? ⟨vg,vo+i*6+1,Y⟩=J (G P)/\w'.cell? ⟨vg,vo+i*6+2,Y⟩=J (O Q X)/\w'.cell? ⟨vg,vo+i*6+3,Y⟩=J (ae T)/\w'.cell? ⟨vg,vo+i*6+4,Y⟩=J (I a R m1)/\w'.cell? ⟨vg,vo+i*6+5,Y⟩=J (I b p q)) (first|with_reducible exact hS|go_keep)
    ((refine bP sZ rfl _ _ rfl rfl (HW.o HTO.o) ⟨wr.heap.size,0,Y⟩ 1 1 [ae z,O Z N,G P,O Q X,ae T,I a R m1,I b p q] (by rfl) (by rfl) HNW.o (by intro u hu;simp at hu;rcases hu with rfl|rfl|rfl|rfl|rfl|rfl|rfl<;>rfl) (by decide) HBM.o.1 HBM.o.2 ?_;intro g' off' cap' w' hwin hgb hkk;have hS:=HCS.o w' (HBL.o w' hkk)))
   all_goals
    have HF:=A (And.intro hwin (And.intro hgb hkk));clear hwin hgb hkk hS;go_wp2_with fail;exact⟨⟨i+1,by go_num,by omega,A (HM.o.K8 HD.o.2 ((af (λ_=>False) wr).B0.A5 _) (by unfold lL;rw[HD.o.1];exact HF.o.1) (HF.o.2.1.imp id λa0=>a0.1) HF.o.2.2)⟩,by simp[ct];omega⟩
  .have e1:¬(i:Int)<(n:Int):=(by omega);have hie:i=n:=(by omega);have HMn:=A (show aHQ w l n (I oa n oc) wr from hie▸HM.o);subst hie;have HO:=A (λ(hl1:l.take i=l)=>s6 l.length l wr (I oa i oc) (hU _) (by rw[HL.o.2.2];omega) HL.o.2.1 (by have:=HM.o.1;rwa[hl1]at this));have HLT:=A (show l.take i=l from lj (by rw[HL.o.2.2];exact hU _));go_wp2_with fail;refine(HO.o HLT.o).mono ?_;rintro e w3 ⟨sa,sc,rfl,hsort⟩;rw[HL.o.2.2]at hsort⊢;have HS:=A hsort;clear hsort;go_wp2_with fail;have hSl:(dR l).length=i:=(by rw[rA,HL.o.2.2]);have hSk:=uK HL.o.2.1;have HSS:=A (And.intro hSl hSk);clear hSl hSk;obtain⟨S,hS⟩:∃S,dR l=S:=⟨_,rfl⟩;have HSE:=A hS;rw[hS]at HSS;obtain⟨B,hB⟩:∃B,w3.heap.size=B:=⟨_,rfl⟩;rw[hB];obtain⟨w0,hw0⟩:∃w0,w3.alloc (D #[O Z 6,G U,O Q 0,"",(),()] 34)=w0:=⟨_,rfl⟩;rw[hw0]
   have hSg:bN w0 (I sa i sc) S:=by
    rw[<-hw0,<-hS];exact HS.o.2.1.A0 ((af (λ_=>False) w3).A5 _) λ_ _=>id
   have hSb:∀k,(I sa i sc).ownBlock=J k->k≠B:=λk e e2=>by
    have:=gc HS.o.2.1 e;omega
   have hwB:w0.heap[B]?=J (D #[O Z 6,G U,O Q 0,"",(),()] 34 (0,0)):=(by rw[<-hw0,<-hB];exact aL w3 _);have f:=A (And.intro hSg (And.intro hSb (And.intro hwB (And.intro hB hw0))));have HM2:=A (show aL7 w0 B S 0 w0 from⟨I Y 0 0,I Y 0 0,hwB,.nil _ _ _,.nil _ _ _,λk e=>(by cases e),λk e=>(by cases e),af _ _⟩)
   have hR4:w0.heap[w.heap.size]?=J (D #[O Z 0,G U,O Q 0,"",(),()] 34 (0,0)):=by
    rw[<-hw0];have h1:=HMn.o.2.2;have h2:=(h1.block w.heap.size (by omega)).trans (aL w _);exact((af (λ_=>False) w3).A5 _).B4 (keep h2 HS.o.1) id
   have hB4:w.heap.size<B:=by
    have h1:=HMn.o.2.2.size;have h2:=HS.o.1.size;simp at h1;omega
   have hBw:ai w w w0:=by
    rw[<-hw0];have h1:=HMn.o.2.2;have h0:=((dk w w).alloc (hU _) (D #[O Z 0,G U,O Q 0,"",(),()] 34)).trans (h1.mono (by omega));exact(chain h0 HS.o.1).alloc (chain h0 HS.o.1).size _
   have HR4:=A (And.intro hR4 (And.intro hB4 hBw));clear hSg hSb hwB hw0 hS hB hR4 hB4 hBw;go_loopw [8] (λv wr=>∃j:Nat,v=O Z j/\j<=i/\M (aL7 w0 B S j wr)) (λv _=>i-(ct v).toNat)
   case atStart=>exact⟨0,rfl,dr _,HM2⟩
   case round=>
    obtain⟨j,rfl,hj,HMJ⟩:=hrel;by_cases hji:j<i
    .have j1:(j:Int)<(i:Int):=(by omega);have j0:(0:Int)<=(j:Int):=(by omega);obtain⟨Kv,Vv,hb,H,y,hko,hvo,s⟩:=HMJ.o;obtain⟨qa,qc,rfl⟩:=H.A8;obtain⟨ra,rc,rfl⟩:=y.A8;obtain⟨x,hx⟩:∃x,S[j]?=J x:=⟨_,bf (by rw[HSS.o.1];exact hji)⟩;obtain⟨⟨N,P,X,T,a,R,m1,b,p,q,hx2⟩,_,_⟩:=HSS.o.2 x (lx hx)
     obtain⟨sg,sf,scap,hsa⟩:∃sg sf scap,(I sa i sc)=I (J ⟨sg,sf,Y⟩) i scap:=by
      rcases f.o.1 with⟨_,⟨_,hn⟩|⟨g,off,cap,cur,e,_⟩⟩
      .rw[HSS.o.1]at hn;omega
      .rw[HSS.o.1]at e;exact⟨g,off,cap,e⟩
     injection hsa with z1 z2 z3;subst z1;subst z3;clear z2;obtain⟨z,hkx⟩:∃z:ByteArray,encS x.1.1=ae z:=⟨_,rfl⟩;have HCS:=A (λ(W:E)(hW:Keeps (λk=>k=B) w0 W)=>bN.D0 (f.o.1.A0 hW f.o.2.1) HSS.o.2 hx hx2);rw[hkx]at HCS;obtain⟨d0,-,-,-,-,-,-⟩:=HCS.o wr s;obtain⟨-,-,-,-,-,b5,-⟩:=bJ hb;have HX2:=A (And.intro hx (And.intro hx2 hkx));have n3:¬sg=B:=f.o.2.1 sg rfl;have c:=A (And.intro hb (And.intro H (And.intro y (And.intro hko (And.intro hvo s)))));have HBM:=A (show((j+1)*16<=140737488355328/\j+1<=dh)/\(j+1)*88<=140737488355328 from⟨⟨by omega,by unfold dh;omega⟩,by omega⟩);clear hb H y hko hvo s hx hx2 hkx;have HWX:=A (c.o.2.1.A0 ((af (λ_=>False) wr).B0.A5 (D #[z] 9)) λ_ _=>id)
     have HNC:=A (show ∀(j:Nat)(u:h),[ae z][j]?=J u->(wr.drew.alloc (D #[z] 9)).cell? ((⟨wr.heap.size,0,Y⟩:aw).add j)=J u from λj u hj=>by
      rw[mi,jw];exact(aA (aL wr.drew _)).trans (by simpa using hj))
     have HQ:=A (show ∀w1,Keeps (λk=>(I qa j qc).ownBlock=J k) (wr.drew.alloc (D #[z] 9)) w1->w1.heap[B]?=J (D #[O Z 6,G U,O Q 0,"",I ra j rc,I qa j qc] 34 (0,0))/\w1.cell? ⟨sg,sf+j*7,Y⟩=J (ae z)from λw1 hk=>by
      have hBs:=cr f.o.2.2.1;have hq:=(af (λ_=>False) wr).B0.A5 (D #[z] 9);have hsg:sg<w0.heap.size:=gc f.o.1 rfl;exact⟨hk.B4 (hq.B4 c.o.1 id) (λe=>by have:=c.o.2.2.2.1 _ e;omega),hk.B6 (hq.B6 (HCS.o wr c.o.2.2.2.2.2).1 id) (λe=>by have:=c.o.2.2.2.1 _ e;simp at this;omega)⟩)
     have HMK:=A (λ(w1:E)(g1 o1 c1:Nat)=>aHS (w1:=w1) (g1:=g1) (o1:=o1) (c1:=c1) HX2.o.1 HX2.o.2.2 (cr f.o.2.2.1) c.o.1 c.o.2.1 c.o.2.2.1 c.o.2.2.2.1 c.o.2.2.2.2.1 c.o.2.2.2.2.2 ((af (λ_=>False) wr).B0.A5 (D #[z] 9)));go_wp2_with fail;have a5:=((af (λ_=>False) wr).A5 (D #[z] 9)).B6 b5 id
     go_region_law (refine bP sX rfl _ _ rfl rfl HWX.o ⟨wr.heap.size,0,Y⟩ 1 1 [ae z] (by rfl) (by rfl) HNC.o (by intro u hu;simp at hu;subst hu;rfl) (by decide) HBM.o.1.1 HBM.o.1.2 ?_;intro g1 o1 c1 w1 hwin1 hgb1 hkk1;have hq1:=HQ.o w1 hkk1;obtain⟨-,-,-,-,-,f5,ff⟩:=bJ hq1.1;clear hq1)
     all_goals
      have H1:=A (HMK.o w1 g1 o1 c1 hwin1 (hgb1.imp id λa0=>a0.1) hkk1);clear hwin1 hgb1 hkk1 a5 f5 ff b5 d0;go_wp2_with fail;obtain⟨W1,hW1⟩:∃W1,w1.setCell ⟨B,5,Y⟩ (I (g1,o1) (j+1) c1)=W1:=⟨_,rfl⟩;have h1:=H1.o;rw[hW1]at h1⊢;obtain⟨hb1,hkw1,hvw1,hko1,hkp1⟩:=h1;obtain⟨_,d1,d2,d3,d4,d5,d6⟩:=HCS.o W1 hkp1;obtain⟨-,-,-,-,b4,-,-⟩:=bJ hb1;have H2:=A (And.intro hb1 (And.intro hkw1 (And.intro hvw1 (And.intro hko1 hkp1))));have HWY:=A (hvw1.A0 ((af (λ_=>False) W1).B0.A5 (D #[N,P,O Q X,T,I a R m1,I b p q] 34)) λ_ _=>id);have HNY:=A (aLq W1.drew (O Z N) (G P) (O Q X) (ae T) (I a R m1) (I b p q))
      have HQY:=A (show ∀w',Keeps (λk=>(I ra j rc).ownBlock=J k) (W1.drew.alloc (D #[N,P,O Q X,T,I a R m1,I b p q] 34)) w'->w'.heap[B]?=J (D #[O Z 6,G U,O Q 0,"",I ra j rc,I (g1,o1) (j+1) c1] 34 (0,0))/\w'.cell? ⟨sg,sf+j*7+1,Y⟩=J (O Z N)/\w'.cell? ⟨sg,sf+j*7+2,Y⟩=J (G P)/\w'.cell? ⟨sg,sf+j*7+3,Y⟩=J (O Q X)/\w'.cell? ⟨sg,sf+j*7+4,Y⟩=J (ae T)/\w'.cell? ⟨sg,sf+j*7+5,Y⟩=J (I a R m1)/\w'.cell? ⟨sg,sf+j*7+6,Y⟩=J (I b p q)from λw' hk=>by
       have hBs:=cr f.o.2.2.1;have hq:=(af (λ_=>False) W1).B0.A5 (D #[N,P,O Q X,T,I a R m1,I b p q] 34);have hsg:sg<w0.heap.size:=gc f.o.1 rfl;have hF:¬(I ra j rc).ownBlock=J sg:=λe=>by have:=c.o.2.2.2.2.1 _ e;omega
       obtain⟨_,d1,d2,d3,d4,d5,d6⟩:=HCS.o W1 H2.o.2.2.2.2;exact⟨hk.B4 (hq.B4 H2.o.1 id) (λe=>by have:=c.o.2.2.2.2.1 _ e;omega),hk.B6 (hq.B6 d1 id) hF,hk.B6 (hq.B6 d2 id) hF,hk.B6 (hq.B6 d3 id) hF,hk.B6 (hq.B6 d4 id) hF,hk.B6 (hq.B6 d5 id) hF,hk.B6 (hq.B6 d6 id) hF⟩)
      have HMV:=A (λ(w':E)(g' o' c':Nat)=>aHT (w1:=w') (g1:=g') (o1:=o') (c1:=c') HX2.o.1 HX2.o.2.1 (cr f.o.2.2.1) H2.o.1 H2.o.2.1 H2.o.2.2.1 H2.o.2.2.2.1 c.o.2.2.2.2.1 H2.o.2.2.2.2 ((af (λ_=>False) W1).B0.A5 (D #[N,P,O Q X,T,I a R m1,I b p q] 34)));clear hb1 hkw1 hvw1 hko1 hkp1 hW1;have a4:=((af (λ_=>False) W1).A5 (D #[N,P,O Q X,T,I a R m1,I b p q] 34)).B6 b4 id
      go_region_law (refine bP aJ3 rfl _ _ rfl rfl HWY.o ⟨W1.heap.size,0,Y⟩ 1 1 [O Z N,G P,O Q X,ae T,I a R m1,I b p q] (by rfl) (by rfl) HNY.o (by intro u hu;simp at hu;rcases hu with rfl|rfl|rfl|rfl|rfl|rfl<;>rfl) (by decide) HBM.o.2 HBM.o.1.2 ?_;intro g2 o2 c2 w2 hwin2 hgb2 hkk2;have hq2:=HQY.o w2 hkk2;obtain⟨-,-,-,-,f4,-,ff⟩:=bJ hq2.1;clear hq2)
      all_goals
       have H3:=A (HMV.o w2 g2 o2 c2 hwin2 (hgb2.imp id λa0=>a0.1) hkk2);clear hwin2 hgb2 hkk2 f4 ff;go_wp2;go_roundw
       case rel=>exact⟨j+1,by go_num,by omega,H3⟩
       case measure=>simp[ct];omega
    .have j1:¬(j:Int)<(i:Int):=(by omega);obtain rfl:j=i:=(by omega);obtain⟨Kv,Vv,hb,H,y,hko,hvo,s⟩:=HMJ.o;obtain⟨qa,qc,rfl⟩:=H.A8;obtain⟨ra,rc,rfl⟩:=y.A8;obtain⟨b0,b1,b2,b3,b4,b5,-⟩:=bJ hb;have h4:=s.B4 HR4.o.1 (by have:=HR4.o.2.1;omega);obtain⟨r0,r1,r2,r3,r4,r5,rf⟩:=bJ h4;have HP6:=A (aLp (O Z 6) (G U) (O Q 0) (ae ⟨#[]⟩) (I ra j rc) (I qa j qc) h4);have c:=A (And.intro H (And.intro y (And.intro hko (And.intro hvo s))));clear hb H y hko hvo s h4;go_wp2_with fail;obtain⟨s0,s1,s2,s3,s4,s5,_⟩:=bJ HP6.o.1;obtain⟨H,y,hko,hvo,s⟩:=c.o;obtain⟨hv,hl,r,hr,hnd⟩:=HX.o;have hfin:=aJ2 hv hl r hr hnd HL.o.1 HSE.o H y hko hvo HR4.o.2.2 s HR4.o.2.1 (cr f.o.2.2.1) HP6.o.2;exact bb (v:=bk #[O Z 6,G U,O Q 0,"",I ra j rc,I qa j qc]) (by simp[results,results171,go_sem,s0,s1,s2,s3,s4,s5]) rfl ⟨ra,j,rc,qa,j,qc,rfl,hfin.1,hfin.2⟩
section
def fin(p:Ps)(l:List UInt8):Out:=match p.C4 po l with
 | .error e=>ah e
 | .ok q=>q.B7 po
def aBT{p:Ps}{l:Oo}(c:Goes p l .cut):fin p l=ah (95,p.a+l.length):=by
 obtain⟨q,b,a⟩:=c;unfold fin;rw[b];exact a
def aGW{p:Ps}{l:Oo}{no a:Nat}(b:Goes p l (.bad no a)):fin p l=ah (no,a):=by
 have b:p.C4 po l=ah (no,a):=b;unfold fin;rw[b]
def aFy{p q:Ps}{l m:Oo}(a:Goes p l (.ok (q,m))):fin p l=fin q m:=by
 unfold fin;rw[a.1]
def fT{p q:Ps}{c:UInt8}{t:Oo}(a:p.B3 po c=ao q):fin p (c::t)=fin q t:=by
 unfold fin;rw[wM a]
def eU{p:Ps}{c:UInt8}{t:Oo}{e:Nat×Nat}(a:p.B3 po c=ah e):fin p (c::t)=ah e:=by
 unfold fin;rw[gX a]
structure Alike(p:Ps)(r:Rr)(d i:Nat):Prop where
 b:Al p r d
 a:p.d.a=i
 h:p.d.h=bw
 e:p.d.e=U
 ok:fF p
section
variable {p:Ps} {r:Rr} {d i:Nat}
def Alike.ps(a:Alike p r d i):cH p 0:=by
 have:=a.ok.ps;have e:bW p=0:=by unfold bW;rw[py (by rw[a.e];simp)]
 rwa[e]at this
def Alike.N9(a:Alike p r d i):p.a=i:=a.ok.a.trans a.a
def yY{y:Lx}{c:UInt8}(l:Alike p r d i)(g:p.d.B5 c=⟨y,[],0⟩)(k:i<16777216)(hi:y.e=L)(b:y.b=i):
 p.B3 po c=match fa {p with d:={y with a:=i+1}} c with
  | .error e=>ah e
  | .ok q=>ao {q with a:=q.a+1}:=by
 have f:=l.a;have a:¬i=16777216:=by omega
 have j:i+1-y.b=1:=by omega
 simp[di,cu,a,g,dj,gd,hi,j,f,dl,dm];rfl
def Alike.X9{c:UInt8}(g:Alike p r d i)(b:(p.d.B5 c).b=94/\(p.d.B5 c).a= [])(f:i<16777216):p.B3 po c=ah (120,i):=by
 have e:=g.a;have a:¬i=16777216:=by omega
 simp[di,cu,a,b.1,b.2,dj,e,nO,dl,dm]
def Alike.E2{y:Lx}{c:UInt8}(s:Alike p r d i)(q:p.d.B5 c=⟨y,[],0⟩)(b:i<16777216)(hi:y.e=L)(e:y.b=i)(l:¬(c=34/\(r.b=2\/r.b=3))):match r.D4 d with
 | .error no=>p.B3 po c=ah (no,i)
 | .ok g=>p.B3 po c=ao (bh {p with g:=p.g+1} {y with a:=i+1})/\g={r with g:=r.g+1}/\(r.b=0\/r.b=1):=by
 have f:=yY s q b hi e
 have k:fa {p with d:={y with a:=i+1}} c=gw {p with d:={y with a:=i+1}} i:=by
  unfold fa;rw[py (by show ¬(c=34/\(p.b=2\/p.b=3));rw[s.b.b];exact l)];show gw _ p.a=_;rw[s.N9]
 rw[k]at f;have n:Al {p with d:={y with a:=i+1}} r d:=⟨s.b.h,s.b.b,s.b.g,s.b.bytes,s.b.e,s.b.c,s.b.low,s.b.a⟩;have a:=n.C9 (s.ps.R2 _) i;cases b:r.D4 d with
 | error no=>rw[b]at a;simp only at a⊢;rw[f,a]
 | ok g=>
  rw[b]at a;simp only at a⊢;obtain⟨m,o,j,_⟩:=a;rw[f,m];refine⟨?_,o,j⟩;show ao _=ao _;congr 1;show(⟨_,p.a+1,_,_,_,_,_,_⟩:Ps)=_;rw[s.N9];rfl
end
abbrev gY(P s:Nat)(raw:List UInt8)(n:Nat)(x:Lx):Lx:={x with a:=P,h:=.numeral,e:=L,b:=s,d:=raw,number:=n}
def aIa{P s n n':Nat}{a:Oo}{x:Lx}{c:UInt8}(b:aR n c=J n'):(gY P s a n x).B5 c=⟨gY P s (a++ [c]) n' x,[],0⟩:=by
 show bX _ c=_;unfold bX;rw[b]
def aDB(p:Ps)(s:Nat)(x:Lx):∀(l:Oo)(P n:Nat)(a:Oo),s<P->P+l.length<=16777216->
 Goes (p.D0 (gY P s a n x)) l (.ok (p.D0 (gY (P+(bV n l).1) s (a++l.take (bV n l).1) (bV n l).2 x),l.drop (bV n l).1))
 | [],P,n,a,_,_=>by rw[m7];refine⟨?_,λg=>?_⟩<;>simpa using g
 | c::l,P,n,a,f,d=>by
  rw[cv]at d;cases b:aR n c with
  | none=>
   rw[eS b];refine⟨?_,λg=>?_⟩
   .simp
   .simpa using g
  | some n'=>
   rw[cQ b];refine ek (eG p (aIa b) (show P<16777216 by omega) rfl f) rfl ?_;have e:=aDB p s x l (P+1) n' (a++ [c]) (by omega) (by omega);simp only[List.take_succ_cons,kw];rw[show a++c::l.take (bV n' l).1=a++ [c]++l.take (bV n' l).1 by simp,show P+((bV n' l).1+1)=P+1+(bV n' l).1 by omega];exact e
def vL(n:Nat):∀(l:Oo){c:UInt8}{t:Oo},l.drop (bV n l).1=c::t->aR (bV n l).2 c=Y
 | [],c,t,b=>by simp at b
 | d::l,c,t,b=>by
  cases a:aR n d with
  | none=>rw[eS a]at b⊢;simp at b;rw[<-b.1];exact a
  | some n'=>
   rw[cQ a]at b⊢;simp only[kw]at b;exact vL n' l b
def pR(n:Nat):∀l:Oo,(bV n l).1<=l.length
 | []=>hU _
 | d::l=>by
  cases a:aR n d with
  | none=>rw[eS a];exact dr _
  | some n'=>rw[cQ a];have:=pR n' l;simp only[cv];omega
abbrev fO(P s:Nat)(raw:List UInt8)(n:Nat)(x:Lx):Lx:={x with a:=P,h:=bw,e:=U,b:=s,d:=raw,number:=n}
def aKl(p:Ps){P s n b:Nat}{a:Oo}{x:Lx}(i:bL n=L)(k:bitsOf a=J b)(l:P<16777216){c:UInt8}(j:aR n c=Y):
 (p.D0 (gY P s a n x)).B3 po c=(dp {(p.D0 (fO P s a n x))with c:=iR p.c b}).B3 po c:=by
 have f:¬P=16777216:=by omega
 have e:(gY P s a n x).B5 c=⟨(aP (fO P s a n x) c).c,.num s (P-s) b::(aP (fO P s a n x) c).a,(aP (fO P s a n x) c).b⟩:=by
  show bX _ c=_;unfold bX;rw[j];simp only;rw[pz i];unfold fc;simp only[k,ng];rfl
 have d:(fO P s a n x).B5 c=aP (fO P s a n x) c:=rfl;unfold di cu;simp only[bh,e,f,if_false,dp,d];generalize aP (fO P s a n x) c=o;by_cases g:o.b=0
 .simp only[g,if_true];rw[eT];rfl
 .simp only[g,if_false];rw[eT];rfl
def aLy(p:Ps){P s n b:Nat}{a:Oo}{x:Lx}(e:bL n=L)(f:bitsOf a=J b):
 (p.D0 (gY P s a n x)).B7 po=(dp {(p.D0 (fO P s a n x))with c:=iR p.c b}).B7 po:=by
 have d:(gY P s a n x).C0=(fO P s a n x,[.num s (P-s) b],0,0):=by
  unfold fd;rw[py (by simp),py (by rw[e];simp)];unfold fc;simp only[f,ng];rfl
 have c:(fO P s a n x).C0=(fO P s a n x,[],0,0):=by
  unfold fd;rw[pz rfl]
 unfold ee;simp only[bh,d,dp,c];rw[eT];rfl
def aIb(p:Ps){P s n:Nat}{a:Oo}{x:Lx}(f:bL n=L)(g:bitsOf a=Y):(p.D0 (gY P s a n x)).B7 po=ah (41,s)/\
 ∀c,aR n c=Y->P<16777216->(p.D0 (gY P s a n x)).B3 po c=ah (41,s):=by
 refine⟨?_,λc i j=>?_⟩
 .have e:(gY P s a n x).C0=(gY P s a n x,[],41,s):=by
   unfold fd;rw[py (by simp),py (by rw[f];simp)];unfold fc;simp only[g,gy]
  unfold ee;simp only[bh,e];simp[dj,nO,dl,dm]
 .have d:¬P=16777216:=by omega
  have b:(gY P s a n x).B5 c=⟨gY P s a n x,[],41⟩:=by
   show bX _ c=_;unfold bX;rw[i];simp only;rw[pz f];unfold fc;simp only[g,gy]
  simp[di,cu,bh,d,b,dj,nO,dl,dm]
abbrev jN(P s:Nat)(raw:List UInt8)(x:Lx):Lx:={x with a:=P,h:=.letter,e:=L,b:=s,d:=raw,number:=0}
abbrev s9(P s:Nat)(raw:List UInt8)(x:Lx):Lx:={x with a:=P,h:=bw,e:=U,b:=s,d:=raw,number:=0}
def aA5(p:Ps)(s:Nat)(x:Lx)(w:Oo):∀(f d l:Oo)(P:Nat),f≠ []->d≠ []->aH (d.headD 0)=w->w=d++f->s<P->P+l.length<=16777216->
 if alike f l<f.length/\alike f l<l.length then Goes (p.D0 (jN P s d x)) l (.bad 120 (P+alike f l))
 else if alike f l<f.length then Goes (p.D0 (jN P s d x)) l .cut
 else Goes (p.D0 (jN P s d x)) l (.ok ((p.D0 (s9 (P+f.length) s w x)).F8 (jE w),l.drop f.length))
 | [],_,_,_,N,_,_,_,_,_=>absurd rfl N
 | b::f,d,[],P,_,_,_,_,_,_=>by
  have e:alike (b::f) []=0:=rfl;rw[e,py (by simp),pz (by simp)];exact kB p rfl rfl
 | b::f,d,c::l,P,_,u,t,i,K,H=>by
  rw[cv]at H;have k:(aH (d.headD 0))[d.length]?=J b:=by rw[t,i,List.getElem?_append_right (hU _),Nat.sub_self];rfl
  by_cases m:b=c
  .subst m;have e:alike (b::f) (b::l)=alike f l+1:=by show(if b=b then _ else _)=_;rw[pz rfl]
   have n:(d++ [b]).headD 0=d.headD 0:=by cases d with
    | nil=>exact absurd rfl u
    | cons a q=>rfl
   cases f with
   | nil=>
    have z:alike ([]:Oo) l=0:=(by cases l<;>rfl);rw[e,z,py (by simp),py (by simp)];have j:d.length+1=(aH (d.headD 0)).length:=by rw[t,i];simp
    have g:(jN P s d x).B5 b=⟨s9 P s (d++ [b]) x,[.term s (P+1-s) w],0⟩:=by
     show cP _ b=_;unfold cP;simp only;rw[pz k,pz j,t];rfl
    have v:¬P=16777216:=by omega
    have y:(p.D0 (jN P s d x)).B3 po b=ao ((p.D0 (s9 (P+1) s w x)).F8 (jE w)):=by
     unfold di cu;simp only[bh,g,v,if_false,if_true];rw[eT,<-i];rfl
    exact ek y rfl (o:=.ok (_,l)) ⟨rfl,id⟩
   | cons b2 f=>
    have j:¬d.length+1=(aH (d.headD 0)).length:=by rw[t,i];simp
    have g:(jN P s d x).B5 b=⟨jN P s (d++ [b]) x,[],0⟩:=by
     show cP _ b=_;unfold cP;simp only;rw[pz k,py j]
    have q:=eG p g (show P<16777216 by omega) rfl K;have r:=aA5 p s x w (b2::f) (d++ [b]) l (P+1) (by simp) (by simp) (by rw[n,t]) (by rw[i];simp) (by omega) (by omega);rw[e];simp only[cv]at r⊢;split at r
    .rename_i F;rw[pz,show P+(alike (b2::f) l+1)=P+1+alike (b2::f) l by omega];exact ek q rfl r
    .rename_i F;rw[py];split at r
     .rename_i B;rw[pz];exact ek q rfl r
     .rename_i B;rw[py,kw,show P+(f.length+1+1)=P+1+(f.length+1) by omega];exact ek q rfl r
  .have e:alike (b::f) (c::l)=0:=(by show(if b=c then _ else _)=_;rw[py m]);rw[e,pz (by simp)]
   have g:(jN P s d x).B5 c=⟨jN P s d x,[],94⟩:=by
    show cP _ c=_;unfold cP;simp only;rw[py (by rw[k];exact λN=>m (mz N))]
   exact gX (eZ p g (show P<16777216 by omega) (by decide) (by decide))
end
def Rr.I1(e:Bool)(r:Rr)(a:Nat)(l:List UInt8):Ra:=r.E6 a λr=>
 if(dB l).2=U/\(dB l).1<l.length then cw 120 (dB l).1
 else if(dB l).2=U\/(dB l).1=l.length/\e=U then .cut
 else match bitsOf (l.take (dB l).1)with
  | none=>cw 41 0
  | some b=>.on (dB l).1 (r.C5 (dq (dW b)))
def aLz(w:E)(c:Nat)(s:ByteArray)(d i f:Nat)(r:Rr)(a0:aU w c s d i r f)(u:Bnd r d)(en:Bool)(hi:i<s.size)(hs:s.size<=16777216):
 bp C 108 #[ak c,en] w λe w'=>qC w c s d i (r.I1 en d (s.data.toList.drop i)) e w':=by
 have B:=A (sH w c s d i f r a0 (by omega) u.h u.e u.g);have a:c<w.heap.size:=by obtain⟨P,g8,so,fl,bi,tx,a1,n1,m1,a2,n2,m2,hb,-⟩:=a0;exact cr hb
 have g:r.I1 en d (s.data.toList.drop i)=match r.D4 d with
  | .error no=>cw no 0
  | .ok r=>if(dB (s.data.toList.drop i)).2=U/\(dB (s.data.toList.drop i)).1<(s.data.toList.drop i).length then cw 120 (dB (s.data.toList.drop i)).1 else if(dB (s.data.toList.drop i)).2=U\/(dB (s.data.toList.drop i)).1=(s.data.toList.drop i).length/\en=U then .cut else match bitsOf ((s.data.toList.drop i).take (dB (s.data.toList.drop i)).1)with
   | none=>cw 41 0
   | some b=>.on (dB (s.data.toList.drop i)).1 (r.C5 (dq (dW b))):=by
  unfold Rr.I1 eo;cases r.D4 d<;>rfl
 rw[g];have y:=A a;clear g;have o:(s.data.toList.drop i).length=s.size-i:=by simp
 have N:(dB (s.data.toList.drop i)).1<=s.size-i:=by rw[xX,<-o];exact pR 0 _
 have HN:=A (λW=>vK W s i hi (by omega));have x:=A (λm=>mY (l:=s.data.toList.drop i) (m:=m));obtain⟨NN,t⟩:∃NN,dB (s.data.toList.drop i)=NN:=⟨_,rfl⟩;rw[t]at HN N x;rw[t,o];obtain⟨n,wh⟩:=NN;simp only at HN N⊢;obtain⟨p,hp⟩:∃p,i+n=p:=⟨_,rfl⟩;rw[hp]at HN;cases z:r.D4 d with
 | error no=>
  rw[z]at B;clear a0 z a;go_enter func108,ntmps108;go_wp2_with fail;refine B.o.mono ?_;rintro e w1 ⟨F,rfl,g⟩;have q:=A (And.intro F g);clear F g;go_wp2;go_ret;exact⟨q.o.1.A6 (iF y.o) λk e=>by omega,rfl,q.o.2⟩
 | ok v=>
  have H:=aBC u z;rw[z]at B
  obtain⟨R,j⟩:∃R,(if wh=U/\n<s.size-i then cw 120 n else if wh=U\/n=s.size-i/\en=U then .cut else match bitsOf ((s.data.toList.drop i).take n)with
   | none=>cw 41 0
   | some b=>.on n (v.C5 (dq (dW b))))=R:=⟨_,rfl⟩
  simp only[j];have g5:=A H;have HX:=A hp;clear a0 z a u H t o;go_enter func108,ntmps108;go_wp2_with fail;refine B.o.mono ?_;rintro e w1 ⟨F,rfl,a⟩;have HK:=A (F.A6 (iF y.o) λk e=>by omega);have z:=A a;obtain⟨c0,c2,-⟩:=a.cells;clear F a B;have t:=A (a7 y.o HK.o.size);go_wp2
  go_region_held3 (λw'=>w'.cell? c=J (ae s)/\w'.cell? ⟨c,2,Y⟩=J (O Z i)) (go_keep) ((go_at_call 90;(refine(HN.o _).mono ?_);rintro e w2 ⟨rfl,rfl⟩))
  all_goals
   have H:=A (show ai c w w1.drew/\aU w1.drew c s d i v f from⟨m8 HK.o,z.o.C8 (af _ w1).B0⟩);rcases Bool.eq_false_or_eq_true wh with rfl|rfl
   .by_cases K:p=s.size/\en=U
    .obtain⟨K,rfl⟩:=K;rw[py (by simp),pz (au ⟨by omega,rfl⟩)]at j;subst j;go_wp2;go_ret;exact⟨H.o.1,rfl,v,f,H.o.2⟩
    .have g6:=x.o n rfl
     have he:((p:Int)==(s.size:Int))=U\/(((p:Int)==(s.size:Int))=L/\en=L):=by
      by_cases a:p=s.size
      .cases en with
       | false=>exact absurd ⟨a,rfl⟩ K
       | true=>exact au ⟨by simp;omega,rfl⟩
      .exact az (by simp;omega)
     rw [py (by simp), py (by rintro (a0|a0);cases a0;exact K ⟨by omega,a0.2⟩)]at j
     obtain⟨_,neg,W,P,a4,a⟩:=g6;have B:s.extract i p=⟨((s.data.toList.drop i).take n).toArray⟩:=(by rw[<-hp];exact kJ);have g9:p<=s.size:=by omega
     have o:∀X,bp C 91 #[ae (s.extract i p)] X λr w'=>r=co (uM (bitsOf ((s.data.toList.drop i).take n)))/\ai X.heap.size X w':=λX=>by
      have:=aDz (s.extract i p) X neg W P a4 (by rw[B];simpa using a) (by simp;omega);rw[B]at this⊢;simpa using this
     have u:∀b,bitsOf ((s.data.toList.drop i).take n)=J b->b<18446744073709551616:=λb hb=>by
      have:=l0 hb;unfold gO aM at this;omega
     obtain⟨a3,F⟩:∃a3,bitsOf ((s.data.toList.drop i).take n)=a3:=⟨_,rfl⟩;rw[F]at j o u;have S:=A o;have i1:(i:Int)<=(p:Int):=(by omega);have i2:(p:Int)<=(s.size:Int):=(by omega);clear o a F B K x;cases a3 with
     | none=>
      simp only at j;subst j;have B:=A (λX=>show bp C 91 #[ae (s.extract i p)] X λr w'=>r=co (ar #[O Q 0,G U])/\ai X.heap.size X w' from S.o X);rcases he with T|⟨T,rfl⟩
      all_goals
       go_wp2
       go_region_held3 (λw'=>w'.cell? c=J (ae s)/\w'.cell? ⟨c,2,Y⟩=J (O Z i)) (first|exact hS|go_keep) ((go_at_call 91;(refine(B.o _).mono ?_);rintro e F ⟨rfl,a⟩;have a:=fA (fA a);have hS:=And.intro (bE a c0) (bE a c2)))
       all_goals
        have o:=A (show ai c w F/\aU F c s d i v f from⟨HK.o.trans (a.mono (iF t.o)),z.o.C8 (bs _ a)⟩);have x:=A (a7 t.o a.size);clear a;go_wp2_with fail;refine(eP F c s d i f v o.o.2 (by omega) 41 i p).mono ?_;rintro e w5 ⟨rfl,V,g⟩;have q:=A (And.intro V g);clear V g;go_wp2;go_ret;exact⟨o.o.1.trans (q.o.1.A6 (iF x.o) λk e=>by omega),rfl,by simpa using q.o.2⟩
     | some b=>
      simp only at j;subst j;have B:=A (λX=>show bp C 91 #[ae (s.extract i p)] X λr w'=>r=co (ar #[O Q b,G L])/\ai X.heap.size X w' from S.o X);have V:=A (λX=>aKj X b (u b rfl));clear u;rcases he with T|⟨T,rfl⟩
      all_goals
       go_wp2
       go_region_held3 (λw'=>w'.cell? c=J (ae s)/\w'.cell? ⟨c,2,Y⟩=J (O Z i)) (first|exact hS|go_keep) ((go_at_call 91;(refine(B.o _).mono ?_);rintro e F ⟨rfl,a⟩;have a:=fA (fA a);have hS:=And.intro (bE a c0) (bE a c2)))
       all_goals
        have o:=A (show ai c w F/\aU F c s d i v f from⟨HK.o.trans (a.mono (iF t.o)),z.o.C8 (bs _ a)⟩);have x:=A (a7 t.o a.size);obtain⟨-,-,h0⟩:=o.o.2.cells;clear a hS;go_wp2_with fail;refine(V.o _).mono ?_;rintro e w5 ⟨rfl,a⟩;have g7:=A (show ai c w w5 from(o.o.1.trans (((af (λk=>k=c) F).own 2 (O Z p)).A6 (iF x.o) λk e=>by omega)).trans (a.mono (by simp[World.setCell];exact iF x.o)));have HP:=A (oG w5 c s d p f v ((o.o.2.B5 p _ rfl).C8 (bs _ a)) g5.o 3 U (dW b) ⟨#[]⟩ Y 0 0 Y 0 0 (dq (dW b)) (.num _));clear a;go_wp2_with fail;refine HP.o.mono ?_;rintro e w6 ⟨rfl,u,a⟩;have q:=A (And.intro u a);clear u a;go_wp2;go_ret;exact⟨g7.o.trans q.o.1,rfl,by rw[HX.o];exact q.o.2⟩
   .by_cases K:p<s.size
    .rw[pz ⟨rfl,by omega⟩]at j;subst j;have T:(p:Int)<(s.size:Int):=(by omega);go_wp2_with fail;refine(eP w1.drew c s d i f v H.o.2 (by omega) 120 p p).mono ?_;rintro e o ⟨rfl,a,g⟩;have q:=A (And.intro a g);clear a g;go_wp2;go_ret;exact⟨H.o.1.trans (q.o.1.A6 (iF t.o) λk e=>by omega),rfl,by rw[HX.o];exact q.o.2⟩
    .rw[py,pz (az rfl)]at j;subst j;have T:¬(p:Int)<(s.size:Int):=(by omega);go_wp2;go_ret;exact⟨H.o.1,rfl,v,f,H.o.2⟩
section
variable {p:Ps} {r:Rr} {d i:Nat}
def zS(f:List Tr->List Oo->List Tr)(p:Ps)(b:p.d.h=bw)(d:p.d.e=U)(i:p.d.a<16777216)(c:UInt8)(g:aI c=L):p.B3 f c=ao {p with d:={p.d with a:=p.d.a+1},a:=p.a+1}:=by
 have a:p.d.B5 c=⟨p.d,[],0⟩:=by unfold eh;rw[b];simp[aP,g]
 have e:¬p.d.a=16777216:=by omega
 simp[di,cu,e,a,dj,gd,d,dl,dm]
def aBk{x:Ps}{b:Lx}{tok:Tok}{c:UInt8}(a:x.d.B3 c=(b,[tok],0,0))(hi:b.e=U):x.B3 po c=match ei po {x with d:=b} tok with
 | .error e=>ah e
 | .ok q=>ao {q with a:=q.a+1}:=by
 unfold di;simp only[a];rw[eT];cases ei po {x with d:=b} tok with
 | error e=>rfl
 | ok q=>
  simp[Except.bind,dj,gd,hi,dl,dm]
def aIL{x q:Ps}{tok:Tok}(a:ei po x tok=ao q):q.d=x.d/\q.a=x.a:=
 oK (toks:= [tok]) (by rw[eT,a];rfl)
def zT{x q:Ps}{k:Lx}{tok:Tok}{c:UInt8}(i:fF x)(j:x.d.B3 c=(k,[tok],0,0))(hi:k.e=U)(g:k.h=bw)(f:ei po {x with d:=k} tok=ao q)(a:Al q r d):
 x.B3 po c=ao {q with a:=q.a+1}/\Alike {q with a:=q.a+1} r d k.a:=by
 have e:=aBk j hi;rw[f]at e;have b:=aIL f;exact⟨e,⟨a.h,a.b,a.g,a.bytes,a.e,a.c,a.low,a.a⟩,by show q.d.a=_;rw[b.1],by show q.d.h=_;rw[b.1];exact g,by show q.d.e=_;rw[b.1];exact hi,i.B3 e⟩
def aEm{x:Ps}{d:Lx}{tok:Tok}{c:UInt8}{e:Nat×Nat}(b:x.d.B3 c=(d,[tok],0,0))(hi:d.e=U)(a:ei po {x with d:=d} tok=ah e):x.B3 po c=ah e:=by
 rw[aBk b hi,a]
def Steps(p:Ps)(d i:Nat)(l:List UInt8):Ra->Prop
 | .cut=>fin p l=ah (95,i+l.length)
 | .bad no a=>fin p l=ah (no,i+a)
 | .on n b=>1<=n/\n<=l.length/\∃p',Alike p' b d (i+n)/\fin p l=fin p' (l.drop n)
def aGu(l:Alike p r d i){c:UInt8}(t:Oo)(X:aI c=U)(hc:aY c=L)(hm:i<16777216):Steps p d i (c::t) (r.C7 d c):=by
 obtain⟨m,K⟩:∃m:Lx,({p.d with e:=U,b:=i,d:= [],number:=0,h:=bw,a:=i+1}:Lx)=m:=⟨_,rfl⟩;have S:¬p.d.a=16777216:=by rw[l.a];omega
 have j:p.d.B3 c=(m,[.mark i c],0,0):=by
  have a:p.d.B5 c=⟨{p.d with e:=U,b:=i,d:= [],number:=0,h:=bw},[.mark i c],0⟩:=by
   unfold eh;rw[l.h];simp only[aP,X,hc,if_true,Lx.F4,l.a];rfl
  unfold cu;rw[py S,a,<-K,l.a];rfl
 have x:m.e=U:=by rw[<-K]
 have T:m.h=bw:=by rw[<-K]
 have V:m.a=i+1:=by rw[<-K]
 have s:Al {p with d:=m} r d:=⟨l.b.h,l.b.b,l.b.g,l.b.bytes,l.b.e,l.b.c,l.b.low,l.b.a⟩;have N:cH {p with d:=m} 0:=l.ps.R2 m
 have g:∀{q:Ps}{P:Rr},dt po {p with d:=m} i c=ao q->Al q P d->Steps p d i (c::t) (.on 1 P):=by
  intro q P a b;obtain⟨u,v⟩:=zT l.ok j x T a b;rw[V]at v;exact⟨hU _,by simp,_,v,fT u⟩
 have y:∀{no:Nat},dt po {p with d:=m} i c=ah (no,i)->Steps p d i (c::t) (cw no 0):=by
  intro no a;exact eU (aEm j x a)
 have b:=s.C9 N i;have z:=s.U9 N.b;unfold Rr.C7;by_cases u:c=91\/c=123
 .rw[pz u];unfold eo;cases a:r.D4 d with
  | error no=>
   rw[a]at b;simp only at b⊢;refine y ?_;unfold dt;rcases u with rfl|rfl
   .rw[pz rfl,b];rfl
   .rw[py (by decide),pz rfl,b];rfl
  | ok P=>
   rw[a]at b;simp only at b⊢;obtain⟨w,rfl,B,_⟩:=b;have k:=λo=>s.N5.O3 B (z B) o;rcases u with rfl|rfl
   .exact g (by unfold dt;rw[pz rfl,w];rfl) (k U)
   .exact g (by unfold dt;rw[py (by decide),pz rfl,w];rfl) (k L)
 .rw[py u];have R:p.b=r.b:=l.b.b
  have a:dt po {p with d:=m} i c=(if c=58/\p.b=4 then ao {p with d:=m,b:=0}else if c=44/\p.b=5 then ao {p with d:=m,b:=if jB p.e then 3 else 0}else if gz {p with d:=m} c then ao (Ps.C6 po {p with d:=m})else ah (120,i)):=by
   unfold dt;rw[py (λe=>u (az e)),py (λe=>u (au e))]
  by_cases v:c=58/\r.b=4
  .rw[pz v];exact g (a.trans (pz (by rw[R];exact v))) (s.N2 (n:=0) (by decide) (by omega) (az (by rw[v.2];rfl)))
  .rw[py v];rw[py (by rw[R];exact v)]at a;have B:r.E4=jB p.e:=l.b.E4;by_cases k:c=44/\r.b=5
   .rw[pz (by rw[R];exact k)]at a;cases w:r.E4 with
    | true=>
     rw[pz ⟨k.1,k.2,rfl⟩];rw[<-B,w,pz rfl]at a;exact g a (s.N2 (n:=3) (by decide) (by omega) (az (by rw[k.2];rfl)))
    | false=>
     rw[py (λe=>by cases e.2.2)];have F:p.e≠ []:=(l.ps.b.O2).2.1 (by omega)
     have W:r.F9=L:=by
      unfold Rr.E4 at w;unfold Rr.F9;have H:=l.b.e;rcases List.eq_nil_or_concat r.e with e|⟨g0,f,e⟩
      .rw[e]at H;exact absurd H F
      .rw[List.concat_eq_append]at e;rw[e,cE]at w⊢;simp only at w⊢;rw[w];rfl
     rw[pz ⟨k.1,k.2,W⟩];rw[<-B,w,py (by decide)]at a;exact g a (s.N2 (n:=0) (by decide) (by omega) (au w))
   .rw[py (λe=>k ⟨e.1,e.2.1⟩),py (λe=>k ⟨e.1,e.2.1⟩)];rw[py (by rw[R];exact k)]at a;have F:=s.D6 N.b c;by_cases w:gz {p with d:=m} c=L
    .rw[pz (F.1 w)];rw[pz w]at a;exact g a (s.I9 N w)
    .rw[py (λe=>w (F.2 e))];rw[py w]at a;exact y a
def aCp{x:Ps}(m:Al x r d)(hp:fF (x.D0 (aK bm (i+1) i [] [] 0 0 0)))(t:Oo)(hl:i+1+t.length<=16777216)(hk:r.D9=U->r.b=0\/r.b=1):
 match r.J8 t with
  | .cut=>fin (x.D0 (aK bm (i+1) i [] [] 0 0 0)) t=ah (95,i+1+t.length)
  | .bad no a=>fin (x.D0 (aK bm (i+1) i [] [] 0 0 0)) t=ah (no,i+a)
  | .on n P=>1<=n/\n<=t.length+1/\∃p',Alike p' P d (i+n)/\fin (x.D0 (aK bm (i+1) i [] [] 0 0 0)) t=fin p' (t.drop (n-1)):=by
 have N:=aAX x i i (hU _) t.length t [] 1 0 0 (hU _) (hU _) hl;unfold Rr.J8;cases w:cM [] 1 t with
 | cut=>rw[w]at N;exact aBT N
 | bad no a=>rw[w]at N;exact aGW N
 | ok y=>
  rw[w]at N;obtain⟨S,n⟩:=y;obtain⟨g1,g2,dg,cd,W⟩:=N;simp only at g1 g2 W⊢;obtain⟨k,rfl⟩:∃k,n=k+2:=⟨n-2,by omega⟩;have e0:i+(k+2)-1=i+k+1:=by omega
  rw[e0]at W;have z:fF (x.D0 (aK bm (i+k+1) i [] S dg cd 0)):=W.2 hp
  have o:aV S=L:=by
   have:=(z.c.text rfl).2.2;unfold aV;show(aX [] S==J [])=L;have e:aX [] S=J []:=this;rw[e];rfl
  rw[aFy W];obtain⟨a0,hL⟩:∃a0:Lx,(⟨i+k+2,bw,U,i,[],0,[],S,dg,cd,0⟩:Lx)=a0:=⟨_,rfl⟩
  have l:(x.D0 (aK bm (i+k+1) i [] S dg cd 0)).d.B3 34=(a0,[.str i (i+k+1+1-i) S],0,0):=by
   rw[<-hL];unfold cu;rw[py (by show ¬i+k+1=16777216;omega)];rfl
  have R:a0.e=U:=by rw[<-hL]
  have g4:a0.h=bw:=by rw[<-hL]
  have g5:a0.a=i+(k+2):=by rw[<-hL];rfl
  obtain⟨X,hX⟩:∃X:Ps,({x.D0 (aK bm (i+k+1) i [] S dg cd 0)with d:=a0}:Ps)=X:=⟨_,rfl⟩;have c:Al X r d:=by rw[<-hX];exact⟨m.h,m.b,m.g,m.bytes,m.e,m.c,m.low,m.a⟩
  have g6:∀q,cH (x.D0 (aK bm (i+k+1) i [] S dg cd 0)) q->cH X q:=λq a1=>by rw[<-hX];exact a1.R2 a0
  have B:=g6 _ z.ps;have g8:X.b=r.b:=c.b;have T:X.bytes=r.bytes:=c.bytes;have s:ei po {x.D0 (aK bm (i+k+1) i [] S dg cd 0)with d:=a0} (.str i (i+k+1+1-i) S)=X.E7 i S:=by rw[hX];rfl
  have u:∀{q:Ps}{P:Rr},X.E7 i S=ao q->Al q P d->1<=k+2/\k+2<=t.length+1/\∃p',Alike p' P d (i+(k+2))/\fin (x.D0 (aK bm (i+k+1) i [] S dg cd 0)) (34::t.drop (k+2-1))=fin p' (t.drop (k+2-1)):=by
   intro q P f g;obtain⟨j,v⟩:=zT z l R g4 (s.trans f) g;rw[g5]at v;exact⟨by omega,by omega,_,v,fT j⟩
  have F:∀{no:Nat},X.E7 i S=ah (no,i)->fin (x.D0 (aK bm (i+k+1) i [] S dg cd 0)) (34::t.drop (k+2-1))=ah (no,i+0):=by
   intro no f;exact eU (aEm l R (s.trans f))
  cases H:r.D9 with
  | false=>
   have hw:=hk H;rw[py (by simp)]
   have g:cH X 1:=by
    have:bW (x.D0 (aK bm (i+k+1) i [] S dg cd 0))=1:=(by unfold bW;rw[pz ⟨rfl,by show x.b=0\/x.b=1;rw[m.b];exact hw⟩]);rw[this]at B;exact B
   have f:X.E7 i S=(X.F0 S i).map λp=>dp {p with c:=gE p.c S}:=(by unfold ie;rw[pz]);unfold gh at f;by_cases j:2097152<r.bytes+S.length
   .rw[pz j];rw[pz]at f;exact F f
   .rw[py j];rw[py]at f;simp only[ou,if_false];refine u f ?_;have v:cH {X with bytes:=X.bytes+S.length} 1:=⟨g.h,g.c,g.g,by show X.bytes+S.length<=2097152;omega,g.f,by have:=g.d;show jK X.c+fW X.e<=X.bytes+S.length;omega,g.b,g.a,g.e⟩;have K:Al {X with bytes:=X.bytes+S.length} {r with bytes:=r.bytes+S.length} d:=⟨c.h,c.b,c.g,by show X.bytes+S.length=_;rw[T],c.e,c.c,c.low,c.a⟩;have V:=c.U9 g.b hw;have:=K.F8 v (t:=.text S) (b:=S.length) (by simp[gj]) (by have:=g.d;show jK X.c+S.length+fW X.e<=X.bytes+S.length;omega) V;have g7:gE X.c S=bB X.c (.text S):=(by unfold gE;rw[pz o]);show Al (dp {X with bytes:=X.bytes+S.length,c:=gE X.c S}) _ d;rw[g7];exact this
  | true=>
   have hw:r.b=2\/r.b=3:=(by unfold gk at H;simpa using H);have v:r.E4=L:=(by rw[c.E4];exact(B.b.O2).1 (by omega));have V:=c.D8 v;have f:X.E7 i S=(if S∈fP X.e then ah (101,i)else(gh {X with e:=X.e.dropLast++ [.object (fP X.e++ [S])]} S i).map λp=>{p with b:=4}):=(by unfold ie;rw[py]);by_cases g:S∈r.D8
   .rw[pz ⟨rfl,g⟩];rw[pz (V▸g)]at f;exact F f
   .rw[py (λe=>g e.2)];rw[py (λe=>g (V.symm▸e))]at f;unfold gh at f;simp only at f;by_cases j:2097152<r.bytes+S.length
    .rw[pz j];rw[pz]at f;exact F f
    .rw[py j];rw[py]at f;simp only[if_true];refine u f ?_;have K:Al {X with bytes:=X.bytes+S.length} {r with bytes:=r.bytes+S.length} d:=⟨c.h,c.b,c.g,by show X.bytes+S.length=_;rw[T],c.e,c.c,c.low,c.a⟩;exact K.N1 hw v S
def aCq{x:Lx}(a:x.h=bw)(b:x.a=i):x.B5 34=⟨aK bm i i [] [] 0 0 0,[],0⟩:=by
 unfold eh;rw[a,<-b];rfl
def aGv(H:Alike p r d i)(t:Oo)(z:i+1+t.length<=16777216):Steps p d i (34::t) (r.E7 d t):=by
 have o:=aCq H.h H.a;unfold Rr.E7
 have b:∀{l:Rr}{x:Ps},Al x l d->(l.D9=U->l.b=0\/l.b=1)->p.B3 po 34=ao (x.D0 (aK bm (i+1) i [] [] 0 0 0))->Steps p d i (34::t) (l.J8 t):=by
  intro l x B s f;have:=aCp B (H.ok.B3 f) t z s;revert this;cases l.J8 t with
  | cut=>intro g;show fin p _=_;rw[fT f,g,cv];congr 2;omega
  | bad no a=>intro g;show fin p _=_;rw[fT f,g]
  | on n q=>
   rintro⟨g1,u,p',F,y⟩;refine⟨g1,by rw[cv];exact u,p',F,?_⟩;rw[fT f,y];obtain⟨k,rfl⟩:∃k,n=k+1:=⟨n-1,by omega⟩;rfl
 cases c:r.D9 with
 | true=>
  rw[pz rfl];have w:r.b=2\/r.b=3:=by unfold gk at c;simpa using c
  refine b H.b (λe=>by rw[c]at e;cases e) ?_;have v:=yY H o (by omega) rfl rfl;rw[v];unfold fa;rw[pz ⟨rfl,by show p.b=2\/p.b=3;rw[H.b.b];exact w⟩];show ao _=ao _;congr 1;show(⟨_,p.a+1,_,_,_,_,_,_⟩:Ps)=_;rw[H.N9];rfl
 | false=>
  rw[py (by simp)];have m:=H.E2 o (by omega) rfl rfl (λe=>by unfold gk at c;simp at c;omega);unfold eo;cases j:r.D4 d with
  | error no=>rw[j]at m;exact eU m
  | ok q=>
   rw[j]at m;obtain⟨b1,rfl,b3⟩:=m;exact b H.b.N5 (λ_=>b3) b1
def aEn:∀a b:Oo,alike a b<=a.length
 | [],[]=>hU _
 | [],_::_=>hU _
 | _::_,[]=>dr _
 | x::a,y::b=>by
  unfold alike;split
  .have:=aEn a b;simp only[cv];omega
  .exact dr _
def aBl:∀a b:Oo,alike a b<=b.length
 | [],[]=>hU _
 | [],_::_=>dr _
 | _::_,[]=>hU _
 | x::a,y::b=>by
  unfold alike;split
  .have:=aBl a b;simp only[cv];omega
  .exact dr _
def aEo{c:UInt8}(b:aH c≠ []):∃a,aH c=c::a/\a≠ []/\aI c=U/\aY c=U/\c≠34/\c≠45/\isD c=U:=by
 unfold aH at b;split at b
 .rename_i e;subst e;exact⟨[117,108,108],rfl,by simp,by decide,by decide,by decide,by decide,by decide⟩
 .split at b
  .rename_i e;subst e;exact⟨[114,117,101],rfl,by simp,by decide,by decide,by decide,by decide,by decide⟩
  .split at b
   .rename_i e;subst e;exact⟨[97,108,115,101],rfl,by simp,by decide,by decide,by decide,by decide,by decide⟩
   .exact absurd rfl b
def aGw(T:Alike p r d i){c:UInt8}(t:Oo)(v:aH c≠ [])(F:i+1+t.length<=16777216):Steps p d i (c::t) (r.M8 d (aH c) (c::t)):=by
 obtain⟨a,u,n,y,s,o,q,w⟩:=aEo v
 have H:p.d.B5 c=⟨jN i i [c] p.d,[],0⟩:=by
  unfold eh;rw[T.h];simp only[aP,y,s,o,q,w,ou,or_self,if_false,v,ne_eq,not_false_eq_true,if_true];rw[<-T.a]
 have g:=T.E2 H (by omega) rfl rfl (λe=>o e.1);unfold Rr.M8 eo;cases k:r.D4 d with
 | error no=>rw[k]at g;exact eU g
 | ok P=>
  rw[k]at g;obtain⟨b1,rfl,b3⟩:=g;have b1:p.B3 po c=ao (bh {p with g:=p.g+1} (jN (i+1) i [c] p.d)):=b1;have j:=T.ok.B3 b1;have l:=aA5 {p with g:=p.g+1} i p.d (aH c) a [c] t (i+1) n (by simp) rfl u (by omega) F;rw[u]at l⊢;have N:alike (c::a) (c::t)=alike a t+1:=by show(if c=c then _ else _)=_;rw[pz rfl]
  rw[N];simp only[cv];split at l
  .rename_i z;rw[pz];show fin p _=_;rw[fT b1,aGW l,show i+1+alike a t=i+(alike a t+1) by omega]
  .rename_i z;rw[py];split at l
   .rename_i x;rw[pz];show fin p _=_;rw[fT b1,aBT l];congr 2;show i+1+t.length=i+(t.length+1);omega
   .rename_i x;rw[py];have S:=aEn a t;have R:=aBl a t;have K:alike a t=a.length:=(by omega);rw[K];have m:=l.2 j;refine⟨by omega,by simp;omega,_,⟨?_,?_,rfl,rfl,m⟩,?_⟩
    .have f:cH (bh {p with g:=p.g+1} (jN (i+1) i [c] p.d)) 1:=by
      have:=j.ps;have e:bW (bh {p with g:=p.g+1} (jN (i+1) i [c] p.d))=1:=(by unfold bW;rw[pz ⟨rfl,by show p.b=0\/p.b=1;rw[T.b.b];exact b3⟩]);rwa[e]at this
     have B:=(T.b.N5).D0 (s9 (i+1+a.length) i (c::a) p.d);exact B.F8 (b:=0) ⟨f.h,f.c,f.g,f.bytes,f.f,f.d,f.b,f.a,f.e⟩ (sQ _) (by have:=f.d;exact this) (T.b.U9 T.ps.b b3)
    .show i+1+a.length=i+(a.length+1);omega
    .rw[fT b1,aFy l];rfl
def aCr(a0:Alike p r d i){c:UInt8}(t:List UInt8)(m:c=45\/isD c=L)(hl:i+1+t.length<=16777216):Steps p d i (c::t) (r.L4 d (c::t)):=by
 have v:aI c=U/\aY c=U/\c≠34:=by
  rcases m with rfl|m
  .decide
  .have a:∀c:UInt8,isD c=L->aI c=U/\aY c=U/\c≠34:=by
    intro c m;refine⟨?_,?_,?_⟩
    .cases w:aI c with
     | false=>rfl
     | true=>
      unfold aI at w;simp at w;rcases w with((rfl|rfl)|rfl)|rfl<;>cases m
    .cases w:aY c with
     | false=>rfl
     | true=>
      unfold aY at w;simp at w;rcases w with((((rfl|rfl)|rfl)|rfl)|rfl)|rfl<;>cases m
    .rintro rfl;cases m
   exact a c m
 obtain⟨w,g4,T⟩:=v
 obtain⟨o,V⟩:∃o,aR 0 c=J o:=by
  rw[aJQ];rcases m with rfl|m
  .exact⟨1,rfl⟩
  .split
   .exact⟨_,rfl⟩
   .split
    .exact⟨_,rfl⟩
    .first|exact⟨_,rfl⟩|(rw[pz m];exact⟨_,rfl⟩)
 have hs:p.d.B5 c=⟨gY i i [c] o p.d,[],0⟩:=by
  unfold eh;rw[a0.h];simp only[aP,w,g4,T,ou,if_false,m,if_true,kX,V];rw[<-a0.a]
 have y:=a0.E2 hs (by omega) rfl rfl (λe=>T e.1);unfold Rr.L4 eo;cases B:r.D4 d with
 | error no=>rw[B]at y;exact eU y
 | ok r'=>
  rw[B]at y;obtain⟨b1,rfl,b3⟩:=y;have b1:p.B3 po c=ao (bh {p with g:=p.g+1} (gY (i+1) i [c] o p.d)):=b1;have F:=a0.ok.B3 b1;have hg:=aDB {p with g:=p.g+1} i p.d t (i+1) o [c] (by omega) hl;simp only;rw[xX,cQ V];obtain⟨k,hk⟩:∃k,(bV o t).1=k:=⟨_,rfl⟩;obtain⟨n',H⟩:∃n',(bV o t).2=n':=⟨_,rfl⟩;have a:= @vL o t;have g5:=pR o t;rw[hk]at g5 a;rw[H]at a;rw[hk,H]at hg;rw[hk,H];simp only[cv];have W: [c]++t.take k=(c::t).take (k+1):=rfl;have K:=hg.2 F;have l:fin p (c::t)=fin (bh {p with g:=p.g+1} (gY (i+1+k) i ([c]++t.take k) n' p.d)) (t.drop k):=by rw[fT b1,aFy hg]
  cases n:bL n' with
  | false=>
   by_cases j:k+1<t.length+1
   .rw[pz ⟨rfl,j⟩];show fin p _=_;rw[l];cases f:t.drop k with
    | nil=>rw[ig]at f;omega
    | cons e u=>
     have z:=a f
     have g:(gY (i+1+k) i ([c]++t.take k) n' p.d).B5 e=⟨gY (i+1+k) i ([c]++t.take k) n' p.d,[],94⟩:=by
      show bX _ e=_;unfold bX;rw[z];simp only;rw[n,py (by decide)]
     rw[eU (eZ _ g (show i+1+k<16777216 by omega) (by decide) (by decide))];show ah (120,i+1+k)=ah (120,i+(k+1));rw[show i+1+k=i+(k+1) by omega]
   .rw[py (λe=>j e.2),pz rfl];show fin p _=_;rw[l,ig.2 (by omega)];rw[aBT (kB _ rfl n)];show ah (95,i+1+k+0)=ah (95,i+(t.length+1));rw[show i+1+k+0=i+(t.length+1) by omega]
  | true=>
   rw[py (λe=>by cases e.1),py (by decide),<-W];cases g:bitsOf ([c]++t.take k)with
   | none=>
    show fin p _=_;rw[l];obtain⟨g1,j⟩:=aIb {p with g:=p.g+1} (P:=i+1+k) (s:=i) (x:=p.d) n g;cases f:t.drop k with
    | nil=>unfold fin;exact g1
    | cons e u=>exact eU (j e (a f) (by have:(t.drop k).length=t.length-k:=ea;rw[f,cv]at this;omega))
   | some b=>
    obtain⟨q,S⟩:∃q,dp {(bh {p with g:=p.g+1} (fO (i+1+k) i ([c]++t.take k) n' p.d))with c:=iR p.c b}=q:=⟨_,rfl⟩
    have z:cH (bh {p with g:=p.g+1} (fO (i+1+k) i ([c]++t.take k) n' p.d)) 1:=by
     have:=F.ps;have e:bW (bh {p with g:=p.g+1} (gY (i+1) i [c] o p.d))=1:=(by unfold bW;rw[pz ⟨rfl,by show p.b=0\/p.b=1;rw[a0.b.b];exact b3⟩]);rw[e]at this;exact⟨this.h,this.c,this.g,this.bytes,this.f,this.d,this.b,this.a,this.e⟩
    have X:=z.F8 (t:=dq (dW b)) (b:=0) (by simp[gj]) (by have:=z.d;omega)
    have g6:Al q (Rr.C5 {r with g:=r.g+1} (dq (dW b))) d:=by
     rw[<-S];exact((a0.b.N5).D0 (fO (i+1+k) i ([c]++t.take k) n' p.d)).F8 z (b:=0) (by simp[gj]) (by have:=z.d;exact this) (a0.b.U9 a0.ps.b b3)
    have g7:cH q 0:=by
     rw[<-S];have e:iR p.c b=p.c++ [dq (dW b)]:=X.1;rw[e];exact X.2
    have j:q.d=fO (i+1+k) i ([c]++t.take k) n' p.d:=(by rw[<-S];rfl);have g8:q.a=i+1+k:=by rw[<-S];rfl
    have N:fF q:=by
     have R:bW q=0:=(by unfold bW;rw[j,py (λe=>by cases e.1)]);refine⟨by rw[R];exact g7,?_,λe=>(by rw[j]at e;cases e),by rw[j,g8]⟩;rw[j];exact gH rfl rfl (show i+1+k<=16777216 by omega) (show i<=i+1+k by omega) K.c.number
    refine⟨by omega,by simp;omega,q,⟨g6,by rw[j];show i+1+k=i+(k+1);omega,by rw[j],by rw[j],N⟩,?_⟩;rw[l,kw];cases f:t.drop k with
    | nil=>unfold fin;show ee po _=ee po q;rw[aLy _ n g,S]
    | cons e u=>
     have:=aKl {p with g:=p.g+1} (P:=i+1+k) (s:=i) (x:=p.d) n g (by have:(t.drop k).length=t.length-k:=ea;rw[f,cv]at this;omega) (a f);have R:(bh {p with g:=p.g+1} (gY (i+1+k) i ([c]++t.take k) n' p.d)).B3 po e=q.B3 po e:=(by rw[<-S];exact this);unfold fin Ps.C4;rw[ml,ml,R]
def aBm(k:Alike p r d i)(c:UInt8)(t:Oo)(j:aI c=U)(f:i+1+t.length<=16777216):Steps p d i (c::t) (r.B5 d c t):=by
 unfold Rr.B5;by_cases a:aY c=L
 .rw[pz a];exact aGu k t j a (by omega)
 .rw[py a];by_cases g:c=34
  .subst g;rw[pz rfl];exact aGv k t f
  .rw[py g];by_cases e:aH c≠ []
   .rw[pz e];exact aGw k t e f
   .rw[py e];by_cases b:c=45\/isD c=L
    .rw[pz b];exact aCr k t b f
    .rw[py b];refine eU (k.X9 ?_ (by omega));unfold eh;rw[k.h];have a:aY c=U:=(by simpa using a);simp only[aP,j,a,g,b,e,ou,if_false,ne_eq];refine⟨?_,?_⟩<;>first|rfl|trivial
def rJ(d:Nat):∀(N:Nat)(l:Oo)(p:Ps)(r:Rr)(i:Nat),l.length<=N->Alike p r d i->i+l.length<=16777216->oneOf (fin p l)=gl d r i l
 | _,[],p,r,i,_,H,_=>by
  rw[gl]
  have v:fin p []=if p.b≠6 then ah (95,p.a)else ao p:=by
   unfold fin;show ee po p=_;unfold ee;have y:p.d.C0=(p.d,[],0,0):=(by unfold fd;rw[pz H.e]);simp[y,dj,dl,dm]
  rw[v];have F:=H.b.b;by_cases m:r.b=6
  .rw[py,pz m];obtain⟨j,_⟩:=(H.ps.b.O2).2.2.2 (by omega);have hi:=H.b.c;have e:=H.b.e;rw[pz m]at hi;have:r.e= []:=(by rw[j]at e;exact List.map_eq_nil_iff.1 e.symm);rw[this]at hi;show ao (p.c.headD .null)=_;rw[hi];rfl
  .rw[pz,py m,H.N9];rfl
 | 0,_::_,_,_,_,H,_,_=>by simp at H
 | N+1,c::t,p,r,i,z,H,w=>by
  rw[cv]at z w;rw[gl];by_cases g:aI c=L
  .rw[pz g];have f:=zS po p H.h H.e (by rw[H.a];omega) c g
   have o:Alike {p with d:={p.d with a:=p.d.a+1},a:=p.a+1} r d (i+1):=
    ⟨⟨H.b.h,H.b.b,H.b.g,H.b.bytes,H.b.e,H.b.c,H.b.low,H.b.a⟩,by show p.d.a+1=_;rw[H.a],H.h,H.e,H.ok.B3 f⟩
   rw[fT f];exact rJ d N t _ r (i+1) (by omega) o (by omega)
  .rw[py g];have b:=aBm H c t (by simpa using g) (by omega);revert b;cases r.B5 d c t with
   | cut=>intro b;have b:fin p (c::t)=ah (95,i+(t.length+1)):=b;rw[b];rfl
   | bad no a=>intro b;have b:fin p (c::t)=ah (no,i+a):=b;rw[b];rfl
   | on n q=>
    rintro⟨B,s,p',x,u⟩;rw[u];obtain⟨k,rfl⟩:∃k,n=k+1:=⟨n-1,by omega⟩;rw[cv]at s;rw[kw];exact rJ d N (t.drop k) p' q (i+(k+1)) (by rw[ea];omega) x (by rw[ea];omega)
def uW(b:d<=512):Alike (Ps.E9 d) ⟨0,[],0,0,.null⟩ d 0:=
 ⟨⟨rfl,rfl,rfl,rfl,rfl,rfl,λf a=>by simp at a,λf a=>by simp at a⟩,rfl,rfl,rfl,pN d b⟩
def aEp{l:Oo}(a:d<=512)(b:l.length<=16777216):mP l d=jR l d:=by
 have:=rJ d l.length l (Ps.E9 d) ⟨0,[],0,0,.null⟩ 0 (hU _) (uW a) (by omega);exact this
end
open Go.ChangeShapes Go.WideShapes Go.ChangeAt Go.RowKit
namespace Rowed
def cells5:C.cellsOf 5=1:=by kernel_rfl
def cells3:C.cellsOf 3=1:=by kernel_rfl
def laidOut:laidOutB C=L:=by kernel_rfl
def slice_plain{W:E}{b:Nat}{t e:cg}{a:Option aw}{n c:Nat}(d:C.underlying t=J (.slice e))(f:fh C W .any b t (I a n c)):I a n c=I Y 0 0\/∃g off,a=J ⟨g,off,Y⟩:=by
 simp only[fh,d,Cell.okWide,Cell.ok]at f;cases a with
 | none=>
  left;split at f;all_goals simp_all
 | some a=>
  right;obtain⟨g,off,s⟩:=a
  have:s=Y:=by
   simp only at f;exact f.2.2.2.1
  subst this;exact⟨g,off,rfl⟩
def bulk_lits{H:Type}(k:IntKind)(l r:List Int):l.length+1<=Rows.uptoBulk (DataW.slice (ep (H:=H) k l) (ep k r)):=by
 have j:∀(l:List (DataW H)),l.length<=Rows.uptoBulkAll l:=by
  intro l
  induction l with
  | nil=>simp[Rows.uptoBulkAll]
  | cons x l g=>
   have f:1<=Rows.uptoBulk x:=by
    cases x with
    | lit l=>cases l<;>simp[Rows.uptoBulk]
    | nil=>simp[Rows.uptoBulk]
    | ptr d=>simp[Rows.uptoBulk]
    | slice c e=>simp[Rows.uptoBulk]
    | agg b=>simp[Rows.uptoBulk]
    | iface t d=>simp[Rows.uptoBulk]
    | map a=>simp[Rows.uptoBulk]
    | held j=>simp[Rows.uptoBulk]
   simp only[Rows.uptoBulkAll,cv];omega
 have f:=j (ep k l);simp only[Rows.uptoBulk];have i:(ep (H:=H) k l).length=l.length:=by simp[ep]
 omega
def byte_of_wf{x:Int}(c:(ij fj x).wf=L):0<=x/\x<256:=by
 have a:fj.min=0:=rfl;have b:fj.max=255:=rfl;simp only[ik,mn,decide_eq_true_eq]at c;omega
def int_of_wf{x:Int}(c:(ij Z x).wf=L):Z.wrap x=x:=by
 have a:Z.min= -9223372036854775808:=rfl;have b:Z.max=9223372036854775807:=rfl;simp only[ik,mn,decide_eq_true_eq]at c;rw[b9];omega
def nil_shape{a:Option aw}{n c:Nat}(f:I a n c=I Y 0 0):a=Y/\n=0/\c=0:=by
 injection f with d b e;exact⟨d,b,e⟩
def opened_bytes{H:Type}{enc:cg×h->H}{W:E}{n:Nat}{t:Option aw}{c cap:Nat}{w:DataW H}{p:List MemPlace}(s:fh C W .any n 22 (I t c cap))
 (F:DataW.Trod enc C W 0 (λ_=>L) L 22 (I t c cap) w p):∃b:Oo,b.length<=Rows.uptoBulk w/\aM4 W (I t c cap) b:=by
 have o:=slice_plain ku s;obtain⟨y,P⟩:=F;rcases open_ints ku underlying5 cells5 P with⟨d,-⟩|⟨a,v,u,m,d,_,R,S,N,f,l,q⟩
 .simp[io]at d;obtain⟨rfl,rfl,rfl⟩:=d;exact⟨[],dr _,⟨⟨Y,0,rfl,hU _,dr _,az rfl⟩,az rfl⟩⟩
 .simp[io]at d;obtain⟨rfl,rfl,rfl⟩:=d;simp only[ov]at f;obtain⟨rfl,rfl⟩:=f;simp only[if_true]at N;obtain⟨g,off,r⟩:=o.resolve_left (λe=>by cases (nil_shape e).1);cases r;have k:((m.take c).map λz=>gm z.toNat).length=c:=by simp;omega
  refine⟨(m.take c).map λz=>gm z.toNat,?_,⟨⟨_,cap,by rw[k],by rw[k];exact R,S,au ⟨g,off,rfl,id,λi x f=>?_⟩⟩,au ⟨g,off,_,_,rfl⟩⟩⟩
  .have:=bulk_lits (H:=H) fj (m.take c) (m.drop c);rw[List.length_map];omega
  .have hi:i<c:=(by have:=(bt.1 f).1;omega);have B:=l i (by omega);rw[add_plain]at B;rw[B];rw[ed,List.getElem?_take_of_lt hi]at f;cases j:m[i]? with
   | none=>rw[j]at f;cases f
   | some z=>
    rw[j]at f;cases f;have T:=byte_of_wf (q z (lx j));have K:m.getD i 0=z:=(by rw[List.getD_eq_getElem?_getD,j];rfl);rw[K];have:(gm z.toNat).toNat=z.toNat:=(by simp[UInt8.toNat_ofNat];omega);rw[this];congr 2;omega
def post_of_below{H:Type}{enc:cg×h->H}{P:Program}{f:Func}{s:ChangeSpec}{g n c l:Bool}{W w:E}{args:Array h}{v:h}{y x:List (DataW H)}{a pa pv:List MemPlace}
 (z:DataW.Whole enc P f.params.toList s.vars g W args.toList y x a)
 (k:∀(b:Nat)(m:Nat->Bool)(N:Bool),ip enc P w b m N f.resultTypes.toList (v.resultList f.resultTypes.size) (s.fn H (y++x)).results [])
 (d:∀m:Nat->Bool,(∀p∈a,m p.block=L)->ip enc P w 0 m L f.params.toList args.toList (s.fn H (y++x)).args pa)
 (e:∀m:Nat->Bool,(∀p∈a,m p.block=L)->DataW.TrodVars enc P w m s.vars (s.fn H (y++x)).vars pv)
 (u:a=pa++pv)(K:ai W W w)
 (F:∀(j:Nat)(t:cg)(r:h),f.resultTypes[j]?=J t->(v.resultList f.resultTypes.size)[j]?=J r->fh P w .any 0 t r):
 s.post enc P f g n c l W args v w:=by
 have B:∀p∈a,p.block<W.heap.size:=λp q=>z.lt p q;have i:∀p∈a,(λb=>decide (b<W.heap.size)) p.block=L:=λp q=>by simpa using z.lt p q
 refine⟨y,x,a,[],pa,pv,z,k _ _ _,d _ i,e _ i,K.frame _,λ_=>?_⟩;obtain⟨_,_,_,_,_,S,T⟩:=z;refine⟨F,_,_,([]++pa)++pv,⟨[]++pa,pv,trodAll_append (d _ (λ_ _=>rfl)) (k _ _ _),e _ (λ_ _=>rfl),rfl,?_,?_⟩,?_⟩
 .intro b off q;have o:=q;rw[show([]++pa)++pv=a by rw[u];simp]at o;have R:=B _ o;have:=S b off o;unfold World.frozen? at this⊢;rw[K.block b R];exact this
 .intro V;have:=T V;rw[u]at this;simpa using this
 .intro p q _;rw[u];simpa using q
end Rowed
