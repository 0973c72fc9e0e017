/-
  The program, one part of its walk. Conditions: none.
-/
import Derived.Test.YtakkmiomhackiaaGreatDoorTd39
import Derived.Test.YtakkmiomhackiaaGreatDoorTd40
import Derived.StillTailTactics
set_option linter.all false
set_option maxRecDepth 100000
set_option maxHeartbeats 16000000
open Go.Proofs.Tryz
open Bool renaming false->Z,true->bg
open Except renaming error->aw,ok->ai
open Go renaming Calls->ae,Ending->ar,Leaves->cr,Value->bz,World->V,bodyPost_ret->bm,cell_of_one->aj,free_of_one->ck,heap_alloc_new->az,leaves_cons->co,results->au,settle->ct
open Go.Ending renaming returned->Y
open Go.Fn renaming func->cj
open Go.IntKind renaming i64->S,wrap_i64->dw
open Go.Obj renaming cells->X
open Go.Proofs.Tryz renaming func53->bu,func56->bj,ntmps53->bw,ntmps56->bk,prog->af,results12->dh,results52->cu
open Go.Proofs.YtakkmiomhackiaaGreatDoor.Keeps renaming A1->bs,A3->ak
open Go.Proofs.YtakkmiomhackiaaGreatDoor.LS renaming at_->K
open Go.Proofs.YtakkmiomhackiaaGreatDoor.Ps renaming D4->dj,D7->dl,I0->ao,J7->cw
open Go.RowKit.Below renaming heap_alloc->cv
open Go.Value renaming agg->ah,bool->av,func->cg,iface->ag,int->O,nilIface->N,pointer->U,slice->H,tuple->ac
open Go.World renaming block_lt_of_cell?->di,cell?_of_block->dv,cell?_setCell_same'->cz,setCell->ba,size_alloc->dt
open List renaming foldlM->dp,foldlM_append->dm
open Nat renaming le_add_right->du,le_refl->bc,le_trans->bp,lt_of_lt_of_eq->bx,lt_of_lt_of_le->bh,not_lt->dq
open Option renaming none->I,some->J
open Or renaming inl->D,inr->E
namespace Go.Proofs.YtakkmiomhackiaaGreatDoor
open Go.RowKit
section
section
variable (po:List Tr->List (List UInt8)->List Tr)
end
end
def mE(F:Nat->Prop)(w:V)(p:Nat)(o:Out)(e:ar)(w':V):Prop:=
 Keeps F w w'/\match o with
 | .error (no,a)=>e=bR no a/\gX w' p
 | .ok y=>e=Y (ac #[])/\aG (Since F w w') w' p y (K y.lex Z) []
theorem aJo(F:Nat->Prop)(w:V)(p:Nat)(x:Ps)(g off:Nat)(c:UInt8)(h:aG F w p x (K x.lex Z) [])(Q:x.lex.Fine)(T:w.cell? ⟨g,off,I⟩=J (O .u8 ((c.toNat:Nat):Int))):
 ∃b,w.cell? ⟨p,2,I⟩=J (U (J ⟨b,0,I⟩))/\ae af 82 #[U (J ⟨b,0,I⟩),H (J ⟨g,off,I⟩) 1 1] w λe w'=>Keeps F w w'/\w'.cell? ⟨p,2,I⟩=J (U (J ⟨b,0,I⟩))/\
  ((x.lex.B0 c).2.2.1=0->e=Y N/\aG (Since F w w') w' p x (K (x.lex.B0 c).1 Z) (x.lex.B0 c).2.1)/\
  ((x.lex.B0 c).2.2.1≠0->e=Y (cM (x.lex.B0 c).2.2.1 (x.lex.B0 c).2.2.2)/\∃s,aG (Since F w w') w' p x s (x.lex.B0 c).2.1):=by
 obtain⟨i,P,G,B,b,A,a,d,f,t,R,z,C⟩:=h;have q:w.cell? ⟨p,2,I⟩=J (U (J ⟨b,0,I⟩)):=by rw[aA t];rfl
 refine⟨b,q,(aBb P w b g off x.lex [] c R T Q (by simp)).mono ?_⟩;rintro e w' ⟨l,r,y⟩;have j:Keeps F w w':=l.A6 f.lex;have n:=z.B6 l (λk h e=>f.lm k e h);have m:=C.A0 l (λk h e=>f.lp k e h);have o:=f.N3 (w:=w) (w':=w') (i p f.self.1) z.2.1 C.lt;refine⟨j,l.B5 q f.self.2.1,λv=>?_,λv=>?_⟩
 .obtain⟨rfl,u⟩:=r v;exact⟨rfl,aF i j.size,_,G,B,b,A,a,d,o,l.C4 t f.self.2.1,u,n,m⟩
 .obtain⟨rfl,pl,st,u⟩:=y v;exact⟨rfl,.dead pl st _,aF i j.size,_,G,B,b,A,a,d,o,l.C4 t f.self.2.1,u,n,m⟩
theorem aJp(F:Nat->Prop)(w:V)(p:Nat)(x:Ps)(l:Lx)(toks:List Tok)(h:aG F w p x (K l Z) toks)(g:l.Fine):
 ∃a,w.cell? ⟨p,2,I⟩=J (U (J ⟨a,0,I⟩))/\ae af 83 #[U (J ⟨a,0,I⟩)] w λe w'=>e=Y (O S (l.F0:Int))/\Below w.heap.size w w':=by
 obtain⟨-,o,s,r,a,q,b,f,-,k,m,-,-⟩:=h;obtain⟨-,-,j,n,c,i,d,-,-⟩:=m;refine⟨a,by rw[aA k];rfl,aCF w a l.place l.start l.isIn _ _ _ _ _ _ _ _ _ d g.start (bp g.place (by decide))⟩
theorem aBc{x y:Ps}{c:UInt8}(h:x.E2 c=ai y):y.lex=x.lex/\y.place=x.place:=by
 unfold Ps.E2 at h;split at h
 .cases h;exact⟨rfl,rfl⟩
 .exact⟨(iI h).1,(iI h).2.1⟩
theorem aAj{G:Nat->Prop}{w:V}{p:Nat}{x:Ps}{s:LS}{toks:List Tok}(h:aG G w p x s toks):aG G (w.setCell ⟨p,1,I⟩ (O S ((x.place:Int)+1))) p {x with place:=x.place+1} s toks:=by
 obtain⟨f,g,r,n,o,l,a,b,d,j,m,i,q⟩:=h;have c:Keeps (λk=>k=p) w (w.setCell ⟨p,1,I⟩ (O S ((x.place:Int)+1))):=(ak (λk=>k=p) w).A2 (p:=⟨p,1,I⟩) (D rfl) _;exact⟨λk h=>bh (f k h) c.size,g,r,n,o,l,a,b,d,aB j _,m.B6 c (λk h e=>d.self.2.1 (e▸h)),i.B6 c (λk h e=>d.self.2.2.1 (e▸h)),q.A0 c (λk h e=>d.self.2.2.2 (e▸h))⟩
theorem tV{F:Nat->Prop}{w b:V}{p pl:Nat}{q:Ps}{l:Lx}(c:∀k,F k->k<w.heap.size)(d:Keeps F w b)(e:aG (Since F w b) (b.setCell ⟨p,1,I⟩ (O S ((pl:Int)+1))) p {q with place:=pl+1} (K l Z) [])(f:q.lex=l):
 cH (Y (ac #[]))/\mE F w p (ai {q with place:=pl+1}) (Y (ac #[])) (b.setCell ⟨p,1,I⟩ (O S ((pl:Int)+1))):=by
 have a:Keeps F w (b.setCell ⟨p,1,I⟩ (O S ((pl:Int)+1))):=d.A2 (p:=⟨p,1,I⟩) (e.M8.elim D (λh=>E h.1)) _;refine⟨D rfl,a,rfl,?_⟩
 show aG _ _ p {q with place:=pl+1} (K q.lex Z) []
 rw[f];exact e.A6 (λk h=>h.E7 (by simp[ba])) (aF c a.size)
theorem aE4{F:Nat->Prop}{w d e:V}{p pl:Nat}{q:Ps}{l:Lx}(c:∀k,F k->k<w.heap.size)(a:Keeps F w d)(b:Keeps (Since F w d) d e)(f:aG (Since (Since F w d) d e) (e.setCell ⟨p,1,I⟩ (O S ((pl:Int)+1))) p {q with place:=pl+1} (K l Z) [])(g:q.lex=l):
 cH (Y (ac #[]))/\mE F w p (ai {q with place:=pl+1}) (Y (ac #[])) (e.setCell ⟨p,1,I⟩ (O S ((pl:Int)+1))):=
 tV c (a.B7 b) (f.A6 (λk h=>h.B9 a.size b.size) (λk h=>bh (aF c (bp a.size b.size) k h) (by simp[ba]))) g
theorem aJq(F:Nat->Prop)(w:V)(p:Nat)(x:Ps)(g off:Nat)(c:UInt8)(a0:aG F w p x (K x.lex Z) [])(v:eY x)(hc:w.cell? ⟨g,off,I⟩=J (O .u8 ((c.toNat:Nat):Int)))(hgF:¬F g):
 ae af 56 #[U (J ⟨p,0,I⟩),H (J ⟨g,off,I⟩) 1 1] w λe w'=>cH e/\mE F w p (x.B0 po c) e w':=by
 have hlt:=a0.lt;have HLT:=L hlt;have hgl:g<w.heap.size:=di w _ hc;obtain⟨lb,hc2,Q⟩:=aJo F w p x g off c a0 v.fine hc;have B:=zQ v.fine c;have C:=aAO v c;have htl:=aHo x.lex c;obtain⟨r,hr⟩:∃r,x.lex.B0 c=r:=⟨_,rfl⟩;rw[hr]at Q B C htl;obtain⟨d,hd⟩:∃d,dj po {x with lex:=r.1} r.2.1=d:=⟨_,rfl⟩;have a:x.B0 po c=mS c r d:=by rw[<-hd,<-hr];rfl
 have R:cG {x with lex:=r.1} (bU x):=v.ps.P4 r.1;have HDR:=L (λ(G:Nat->Prop)(w1:V)(s:LS)(h1:aG G w1 p x s r.2.1)=>aAg G w1 p {x with lex:=r.1} s r.2.1 (bU x) h1 B.2 R C (by omega));rw[hd]at HDR;have HFD:=L Q;have HGF:=L hgF;have hpla:x.place<=16777216:=by rw[v.place];exact v.fine.place
 have HC:=L hc
 by_cases n:r.2.2.1=0
 .cases d with
  | error er=>
   obtain⟨no,at_⟩:=er;rw[a];clear a R B C htl hd hr a0 v hlt hgF hgl Q hc hpla;go_enter bj,bk;go_wp2_with fail;refine(HFD.o).mono ?_;rintro e w1 ⟨i,-,b,f⟩;obtain⟨rfl,j⟩:=b n;have y:=L (HDR.o _ w1 _ j);have o:=L i;clear b f j i n;go_wp2_with fail;refine(y.o).mono ?_;rintro e w2 ⟨-,h,he,z⟩;have HK2:=L h;have HD:=L z;clear h z;unfold bR at he;subst he;go_wp2_with fail;exact⟨rfl,E ⟨_,_,rfl⟩,o.o.B7 HK2.o,rfl,HD.o⟩
  | ok q=>
   simp only[mS]at a;rw[if_neg (λa0=>a0 n)]at a;have hql:=lL hd;have hqo:=(sP R B.2 C hd).1;have hgr:=B.1 n;have HQL:=L hql.1;have hqp:q.place=x.place:=hql.2;have HQO:=L hqo;have HGR:=L hgr;have T:=L (λ(G:Nat->Prop)(w2:V)(h2:aG G w2 p q (K r.1 Z) [])=>aJp G w2 p q r.1 [] h2 hgr)
   by_cases hh:r.1.F0=1
   .rw[if_pos hh]at a;have HBG:=L (λ(G:Nat->Prop)(P:V)(h3:aG G P p q (K r.1 Z) [])=>aEB G P p q (K r.1 Z) [] c h3 hqo.nodes);rw[hh]at T;cases hbg:q.E2 c with
    | error er=>
     obtain⟨no,at_⟩:=er;rw[hbg]at a HBG;rw[a];clear a R B C htl hd hr a0 v hlt hgF hgl Q hc hql hqo hgr hh hbg hpla;go_enter bj,bk;go_wp2_with fail;refine(HFD.o).mono ?_;rintro e w1 ⟨i,-,b,f⟩;obtain⟨rfl,j⟩:=b n;have y:=L (HDR.o _ w1 _ j);have o:=L i;clear b f j i n;go_wp2_with fail;refine(y.o).mono ?_;rintro e w2 ⟨hpl,h,he,A⟩;subst he;have u:=o.o.B7 h;obtain⟨lb2,W,l⟩:=T.o _ w2 A;have HHE:=L l;have HP2:=L A;have HK12:=L u;have HSZ:=L (And.intro o.o.size h.size);clear hpl h A u l;go_wp2_with fail;refine(l7 _).mono ?_;rintro e w2x ⟨rfl,rfl⟩;go_wp2_with fail;refine(HHE.o).mono ?_;rintro e P ⟨rfl,m⟩;have t:Keeps F w P:=HK12.o.A5 m;have hp3:aG (Since F w P) P p q (K r.1 Z) []:=(HP2.o.B6 (bs (λ_=>False) m) (λ_ _=>id)).A6 (λk a0=>(a0.B9 HSZ.o.1 HSZ.o.2).E7 m.size) (aF HLT.o t.size);have HK3:=L t;have hcg:P.cell? ⟨g,off,I⟩=J (O .u8 ((c.toNat:Nat):Int)):=t.B5 HC.o HGF.o;have HBC:=L (HBG.o _ P hp3);clear m t hp3 W;go_wp2_with fail;refine(HBC.o).mono ?_;rintro e w4 ⟨-,hk4,he4,hdead4⟩;have HK4:=L hk4;have HD4:=L hdead4;clear hk4 hdead4;unfold bR at he4;subst he4;go_wp2_with fail;exact⟨rfl,E ⟨_,_,rfl⟩,HK3.o.B7 HK4.o,rfl,HD4.o⟩
    | ok q2=>
     rw[hbg]at a HBG;rw[a];have hq2:=aBc hbg;have HQ2:=L (hq2.1.trans hql.1);have hq2p:q2.place=x.place:=hq2.2.trans hqp;clear a R B C htl hd hr a0 v hlt hgF hgl Q hc hql hqo hgr hh hbg hq2;go_enter bj,bk;go_wp2_with fail;refine(HFD.o).mono ?_;rintro e w1 ⟨i,-,b,f⟩;obtain⟨rfl,j⟩:=b n;have y:=L (HDR.o _ w1 _ j);have o:=L i;clear b f j i n;go_wp2_with fail;refine(y.o).mono ?_;rintro e w2 ⟨hpl,h,he,A⟩;subst he;have u:=o.o.B7 h;obtain⟨lb2,W,l⟩:=T.o _ w2 A;have HHE:=L l;have HP2:=L A;have HK12:=L u;have HSZ:=L (And.intro o.o.size h.size);clear hpl h A u l;go_wp2_with fail;refine(l7 _).mono ?_;rintro e w2x ⟨rfl,rfl⟩;go_wp2_with fail;refine(HHE.o).mono ?_;rintro e P ⟨rfl,m⟩;have t:Keeps F w P:=HK12.o.A5 m;have hp3:aG (Since F w P) P p q (K r.1 Z) []:=(HP2.o.B6 (bs (λ_=>False) m) (λ_ _=>id)).A6 (λk a0=>(a0.B9 HSZ.o.1 HSZ.o.2).E7 m.size) (aF HLT.o t.size);have HK3:=L t;have hcg:P.cell? ⟨g,off,I⟩=J (O .u8 ((c.toNat:Nat):Int)):=t.B5 HC.o HGF.o;have HBC:=L (HBG.o _ P hp3);clear m t hp3 W;go_wp2_with fail;refine(HBC.o).mono ?_;rintro e w4 ⟨hpl4,hk4,he4,hpar4⟩;subst he4;have HK4:=L hk4;have HP4:=L hpar4;obtain⟨-,FL,FM,FP,lb4,mb4,pileV4,vals4,-,hb4,-,-,-⟩:=hpar4;obtain⟨-,d1,d2,d3,d4,d5,d6,d7,d8,d9,df⟩:=bX hb4;have HPC:=L (aAj (HP4.o));rw[hq2p]at d1 HPC;clear hpl4 hk4 hb4;go_wp2_with fail
     go_end0
     rw[hq2p];exact aE4 HLT.o HK3.o HK4.o HPC.o HQ2.o
   .rw[if_neg hh]at a;rw[a];obtain⟨hv,hvn⟩:∃hv,r.1.F0=hv:=⟨_,rfl⟩;rw[hvn]at T hh;have hne1:((hv:Int)==1)=Z:=by simp;omega
    clear a R B C htl hd hr a0 v hlt hgF hgl Q hc hql hqo hgr hh hvn;go_enter bj,bk;go_wp2_with fail;refine(HFD.o).mono ?_;rintro e w1 ⟨i,-,b,f⟩;obtain⟨rfl,j⟩:=b n;have y:=L (HDR.o _ w1 _ j);have o:=L i;clear b f j i n;go_wp2_with fail;refine(y.o).mono ?_;rintro e w2 ⟨hpl,h,he,A⟩;subst he;have u:=o.o.B7 h;obtain⟨lb2,W,l⟩:=T.o _ w2 A;have HHE:=L l;have HP2:=L A;have HK12:=L u;have HSZ:=L (And.intro o.o.size h.size);clear hpl h A u l;go_wp2_with fail;refine(l7 _).mono ?_;rintro e w2x ⟨rfl,rfl⟩;go_wp2_with fail;refine(HHE.o).mono ?_;rintro e P ⟨rfl,m⟩;have t:Keeps F w P:=HK12.o.A5 m;have hp3:aG (Since F w P) P p q (K r.1 Z) []:=(HP2.o.B6 (bs (λ_=>False) m) (λ_ _=>id)).A6 (λk a0=>(a0.B9 HSZ.o.1 HSZ.o.2).E7 m.size) (aF HLT.o t.size);have HK3:=L t;clear m t W;have l:=L hp3;obtain⟨-,FL,FM,FP,lb4,mb4,pileV4,vals4,-,hb4,-,-,-⟩:=hp3;obtain⟨-,d1,d2,d3,d4,d5,d6,d7,d8,d9,df⟩:=bX hb4;have HPC:=L (aAj (l.o));rw[hqp]at d1 HPC;clear hb4;go_wp2_with fail
    go_end0
    rw[hqp];exact tV HLT.o HK3.o HPC.o HQL.o
 .cases d with
  | error er=>
   obtain⟨no,at_⟩:=er;rw[a];clear a R B C htl hd hr a0 v hlt hgF hgl Q hc hpla;go_enter bj,bk;go_wp2_with fail;refine(HFD.o).mono ?_;rintro e w1 ⟨i,-,b,f⟩;obtain⟨rfl,s,j⟩:=f n;have y:=L (HDR.o _ w1 _ j);have o:=L i;clear b f j i n;go_wp2_with fail;refine(y.o).mono ?_;rintro e w2 ⟨-,h,he,z⟩;have HK2:=L h;have HD:=L z;clear h z;unfold bR at he;subst he;go_wp2_with fail;exact⟨rfl,E ⟨_,_,rfl⟩,o.o.B7 HK2.o,rfl,HD.o⟩
  | ok q=>
   simp only[mS]at a;rw[if_pos n]at a;rw[a];clear a R B C htl hd hr a0 v hlt hgF hgl Q hc hpla;go_enter bj,bk;go_wp2_with fail;refine(HFD.o).mono ?_;rintro e w1 ⟨i,-,b,f⟩;obtain⟨rfl,s,j⟩:=f n;have y:=L (HDR.o _ w1 _ j);have o:=L i;have l:=L (λw=>xA w r.2.2.1 r.2.2.2);clear b f j i n;go_wp2_with fail;refine(y.o).mono ?_;rintro e w2 ⟨hpl,h,he,a⟩;subst he;have HK2:=L h;have HD:=L a.H8;clear hpl h a;go_wp2_with fail;refine(l.o _).mono ?_;rintro e P ⟨he,m⟩;have a:=L m;clear m;unfold bR at he;subst he;go_wp2_with fail;exact⟨rfl,E ⟨_,_,rfl⟩,(o.o.B7 HK2.o).A5 a.o,rfl,HD.o.A0 (bs (λ_=>False) a.o) id⟩
theorem uG(x:Ps)(a b:List UInt8):x.D7 po (a++b)=(x.D7 po a).bind λy=>y.D7 po b:=by
 unfold dl;rw[dm];rfl
theorem aHp{x:Ps}{l:List UInt8}{k:Nat}(h:k<l.length):x.D7 po (l.take (k+1))=(x.D7 po (l.take k)).bind λy=>y.B0 po l[k]:=by
 unfold dl;rw[List.take_succ_eq_append_getElem h,dm];cases dp (λp c=>Ps.B0 po p c) x (l.take k)with
 | error e=>rfl
 | ok y=>
  show dp _ y [l[k]]=y.B0 po l[k]
  simp only[List.foldlM_cons,List.foldlM_nil];cases y.B0 po l[k]<;>rfl
theorem aHq{x:Ps}{l:List UInt8}{k:Nat}{e:Nat×Nat}(h:x.D7 po (l.take k)=aw e):x.D7 po l=aw e:=by
 rw[<-List.take_append_drop k l,uG,h];rfl
def BytesIn(F:Nat->Prop)(w:V)(v:bz)(l:List UInt8):Prop:=∃a cap,v=H a l.length cap/\l.length<=cap/\cap<=maxLen/\(l= []\/∃g off,a=J ⟨g,off,I⟩/\¬F g/\∀i x,l[i]?=J x->w.cell? ⟨g,off+i,I⟩=J (O .u8 ((x.toNat:Nat):Int)))
def aFP(F:Nat->Prop)(w:V)(p:Nat)(x:Ps)(l:List UInt8)(k:Nat)(wr:V):Prop:=Keeps F w wr/\∃y,x.D7 po (l.take k)=ai y/\aG (Since F w wr) wr p y (K y.lex Z) []/\eY y
theorem Keeps.Q5{F:Nat->Prop}{w w2:V}(h:Keeps F w.drew w2):Keeps F w w2:=⟨h.os,h.tape,h.output,h.size,h.block⟩
theorem aBd(F:Nat->Prop)(w:V)(p B1 B2:Nat)(x:Ps)(l:List UInt8)(v:bz)(B:aG F w p x (K x.lex Z) [])(d:eY x)(hv:BytesIn F w v l)(hl:l.length<=4294967296)
 (j:w.heap[B1]?=J (X #[v] 22 (0,0)))(r:w.heap[B2]?=J (X #[U (J ⟨p,0,I⟩)] 43 (0,0)))(f:¬F B1)(h:¬F B2):
 ae af 55 #[U (J ⟨B1,0,I⟩),U (J ⟨B2,0,I⟩)] w λe w'=>cH e/\mE F w p (x.D7 po l) e w':=by
 have HLT:=L B.lt;obtain⟨m,b⟩:∃m,x.D7 po l=m:=⟨_,rfl⟩;rw[b];have s:=L b;clear b;have C:=aj j;have HB:=L (λ(wr:V)(hk:Keeps F w wr)=>And.intro (aj (hk.C4 j f)) (aj (hk.C4 r h)));have c:=L (show aFP F w p x l 0 w from⟨ak _ _,x,rfl,B.A6 (λk B=>D B) (aF B.lt (bc _)),d⟩);obtain⟨a,cap,rfl,hcap,q,b⟩:=hv;have n:=L b
 clear B d j r f h b q;go_enter func55,ntmps55;go_wp2_with fail
 go_loopw [5] (λi wr=>∃k:Nat,k<=l.length/\i=O S k/\M (aFP F w p x l k wr)) (λi _=>l.length-(intOf i).toNat)
 case atStart=>exact⟨0,by omega,rfl,c⟩
 case round=>
  obtain⟨k,hk,rfl,f⟩:=hrel;obtain⟨d,y,hy,b,q⟩:=f.o;clear f c;have f:=L d;have HY:=L hy;have G:=L b;obtain⟨c1,c2⟩:=HB.o wr d
  by_cases t:k<l.length
  .obtain⟨g,off,rfl,r,c⟩:=n.o.resolve_left (λe=>by subst e;simp at t);have u:=c k l[k] (List.getElem?_eq_getElem t);have hgl:g<w.heap.size:=di w _ u;have P:¬Since F w wr g:=λB=>B.elim r (λB=>absurd hgl (dq.2 B.1))
   have Q:wr.cell? ⟨g,off+k,I⟩=J (O .u8 ((l[k].toNat:Nat):Int)):=d.B5 u r;have A:=aJq (Since F w wr) wr.drew p y g (off+k) l[k] (b.B6 ((ak (λ_=>False) wr).A9) (λ_ _=>id)) q Q P;have h:=aHp (x:=x) t;rw[hy]at h;have h:x.D7 po (l.take (k+1))=y.B0 po l[k]:=h;have R:=L h;have j:=λz(B:y.B0 po l[k]=ai z)=>q.B0 B
   have T:=L j;obtain⟨o,ho⟩:∃o,y.B0 po l[k]=o:=⟨_,rfl⟩;rw[ho]at A;have HO:=L ho;have W:=L A;clear d hy b q u r c P Q A h j ho C;go_wp2_with fail;have P:S.wrap ((k:Int)+1)=(k:Int)+1:=by rw[dw];omega
   have Q:(0:Int)<=(k:Int)+1:=by omega
   have hb2:(k:Int)+1<=(cap:Int):=by omega
   cases o with
   | error er=>
    obtain⟨no,u⟩:=er;obtain rfl:m=aw (no,u):=s.o.symm.trans (aHq (R.o.trans HO.o))
    go_still_tail 8,(by kernel_rfl)
    go_wp2_with fail;refine(W.o).mono ?_;rintro e w2 ⟨-,h,r,c⟩;have j:=L h.Q5;have A:=L c;clear h c;unfold bR at r;subst r;go_wp2_with fail;exact⟨rfl,E ⟨_,_,rfl⟩,f.o.B7 j.o,rfl,A.o⟩
   | ok z=>
    go_region_with (go_at_call 56;refine(W.o).mono ?_;rintro e w2 ⟨-,h,r,c⟩;have j:=L h.Q5;have u:=L c;clear h c;subst r)
    all_goals
     go_wp2_with fail
     go_roundw
     case rel=>exact⟨k+1,by omega,by go_num,L ⟨f.o.B7 j.o,z,R.o.trans HO.o,u.o.A6 (λk B=>B.B9 f.o.size j.o.size) (aF HLT.o (f.o.B7 j.o).size),T.o z HO.o⟩⟩
     case measure=>simp[intOf];omega
  .have h:k=l.length:=by omega
   subst h;have c:=HY.o;rw[List.take_length]at c;have j:=L c;clear d hy b q c C;go_wp2_with fail
   go_end0
   obtain rfl:m=ai y:=s.o.symm.trans j.o;exact⟨D rfl,f.o,rfl,G.o⟩
def jE(w:V)(Q:ar->V->Prop)(e:ar)(w':V):Prop:=
 ∃w1,(Q (Y (ac #[])) w1/\e=Y N/\w'=w1.setCell ⟨w.heap.size,0,I⟩ N)\/(∃no a,Q (bR no a) w1/\e=Y (cM no a)/\w'=w1.setCell ⟨w.heap.size,0,I⟩ (cM no a))
theorem aC4(w:V)(o q:Nat)(Q:ar->V->Prop)(c:ae af 55 #[U (J ⟨o,0,I⟩),U (J ⟨q,0,I⟩)] (w.alloc (X #[N] 26)) λe w'=>cH e/\Q e w')(p:∀e w',Q e w'->w'.heap[w.heap.size]?=J (X #[N] 26 (0,0))):
 ae af 52 #[cg (cj 55) #[] #[U (J ⟨o,0,I⟩),U (J ⟨q,0,I⟩)]] w (jE w Q):=by
 have r:=L c;have n:=L p;clear c p
 go_enter_defers func52,ntmps52
 go_wp2_with fail;refine(r.o).mono ?_;rintro e w1 ⟨rfl|⟨no,a,m⟩,h⟩
 .have d:=n.o _ _ h;have i:=aj d;have j:=ck d;have g:(w1.setCell ⟨w.heap.size,0,I⟩ N).cell? ⟨w.heap.size,0,I⟩=J N:=by rw[aA (aB d _)];rfl
  have k:=L h;clear h d;go_wp2_with fail;refine co (f:=77) (args:= #[U (J ⟨w.heap.size,0,I⟩)]) (by simp) (by simp[go_sem]) ?_;refine(uY ⟨w.heap.size,0,I⟩ _).mono ?_;rintro e s l ⟨rfl,rfl,rfl⟩;have b:jE w Q (Y N) (w1.setCell ⟨w.heap.size,0,I⟩ N):=⟨w1,D ⟨k.o,rfl,rfl⟩⟩;simp[cr,ct,au,cu,go_sem,g];exact b
 .have d:=n.o _ _ h;have i:=aj d;have j:=ck d;have g:(w1.setCell ⟨w.heap.size,0,I⟩ (ag 151 (ah #[O S no,O S a]))).cell? ⟨w.heap.size,0,I⟩=J (ag 151 (ah #[O S no,O S a])):=by rw[aA (aB d _)];rfl
  have k:=L h;have t:=L m;clear h d;unfold bR cM at m;subst m;go_wp2_with fail;refine co (f:=77) (args:= #[U (J ⟨w.heap.size,0,I⟩)]) (by simp) (by simp[go_sem]) ?_;refine(uZ ⟨w.heap.size,0,I⟩ N no a [] _ i j).mono ?_;rintro e s l ⟨rfl,rfl,rfl⟩;have b:jE w Q (Y (cM no a)) (w1.setCell ⟨w.heap.size,0,I⟩ (cM no a)):=⟨w1,E ⟨no,a,k.o,rfl,rfl⟩⟩;simp[cr,ct,au,cu,go_sem,g];exact b
theorem yO(w:V)(p:Nat)(Q:ar->V->Prop)(c:ae af 53 #[U (J ⟨p,0,I⟩)] (w.alloc (X #[N] 26)) λe w'=>cH e/\Q e w')(o:∀e w',Q e w'->w'.heap[w.heap.size]?=J (X #[N] 26 (0,0))):
 ae af 52 #[cg (cj 53) #[U (J ⟨p,0,I⟩)] #[]] w (jE w Q):=by
 have q:=L c;have n:=L o;clear c o
 go_enter_defers func52,ntmps52
 go_wp2_with fail;refine(q.o).mono ?_;rintro e w1 ⟨rfl|⟨no,a,m⟩,h⟩
 .have d:=n.o _ _ h;have i:=aj d;have j:=ck d;have g:(w1.setCell ⟨w.heap.size,0,I⟩ N).cell? ⟨w.heap.size,0,I⟩=J N:=by rw[aA (aB d _)];rfl
  have k:=L h;clear h d;go_wp2_with fail;refine co (f:=77) (args:= #[U (J ⟨w.heap.size,0,I⟩)]) (by simp) (by simp[go_sem]) ?_;refine(uY ⟨w.heap.size,0,I⟩ _).mono ?_;rintro e r l ⟨rfl,rfl,rfl⟩;have b:jE w Q (Y N) (w1.setCell ⟨w.heap.size,0,I⟩ N):=⟨w1,D ⟨k.o,rfl,rfl⟩⟩;simp[cr,ct,au,cu,go_sem,g];exact b
 .have d:=n.o _ _ h;have i:=aj d;have j:=ck d;have g:(w1.setCell ⟨w.heap.size,0,I⟩ (ag 151 (ah #[O S no,O S a]))).cell? ⟨w.heap.size,0,I⟩=J (ag 151 (ah #[O S no,O S a])):=by rw[aA (aB d _)];rfl
  have k:=L h;have s:=L m;clear h d;unfold bR cM at m;subst m;go_wp2_with fail;refine co (f:=77) (args:= #[U (J ⟨w.heap.size,0,I⟩)]) (by simp) (by simp[go_sem]) ?_;refine(uZ ⟨w.heap.size,0,I⟩ N no a [] _ i j).mono ?_;rintro e r l ⟨rfl,rfl,rfl⟩;have b:jE w Q (Y (cM no a)) (w1.setCell ⟨w.heap.size,0,I⟩ (cM no a)):=⟨w1,E ⟨no,a,k.o,rfl,rfl⟩⟩;simp[cr,ct,au,cu,go_sem,g];exact b
theorem aE5{G:Nat->Prop}{w:V}{p:Nat}{x:Ps}{s:LS}{toks:List Tok}(h:aG G w p x s toks):aG G (w.setCell ⟨p,8,I⟩ N) p x s toks:=by
 obtain⟨f,g,r,n,o,l,a,b,d,j,m,i,q⟩:=h;have c:Keeps (λk=>k=p) w (w.setCell ⟨p,8,I⟩ N):=(ak (λk=>k=p) w).A2 (p:=⟨p,8,I⟩) (D rfl) _;exact⟨λk h=>bh (f k h) c.size,g,r,n,o,l,a,b,d,aB j _,m.B6 c (λk h e=>d.self.2.1 (e▸h)),i.B6 c (λk h e=>d.self.2.2.1 (e▸h)),q.A0 c (λk h e=>d.self.2.2.2 (e▸h))⟩
def aJr(F:Nat->Prop)(w:V)(p:Nat)(o:Out)(e:ar)(w':V):Prop:=
 Keeps F w w'/\match o with
 | .error (no,a)=>e=Y (cM no a)
 | .ok y=>e=Y N/\aG (Since F w w') w' p y (K y.lex Z) []
theorem aC5(F:Nat->Prop)(w:V)(p:Nat)(x:Ps)(l:List UInt8)(v:bz)(r:aG F w p x (K x.lex Z) [])(hok:eY x)(hv:BytesIn F w v l)(hl:l.length<=4294967296):
 ae af 18 #[U (J ⟨p,0,I⟩),v] w λe w'=>aJr F w p (x.D7 po l) e w':=by
 have hv0:=hv;obtain⟨a,cap,hve,_⟩:=hv0;have s:=r.lt;have d:=r.M8;have hpl:=s p d;obtain⟨W,hW⟩:∃W,(w.alloc (X #[U (J ⟨p,0,I⟩)] 43)).alloc (X #[v] 22)=W:=⟨_,rfl⟩;have t:Keeps (λ_=>False) w W:=by rw[<-hW];exact((ak _ w).A4 _).A4 _
 have j:W.heap[w.heap.size]?=J (X #[U (J ⟨p,0,I⟩)] 43 (0,0)):=by rw[<-hW];exact(cv _ _ _ (by simp)).trans (az w _)
 have z:W.heap[w.heap.size+1]?=J (X #[v] 22 (0,0)):=by rw[<-hW];have:=az (w.alloc (X #[U (J ⟨p,0,I⟩)] 43)) (X #[v] 22);rwa[dt]at this
 have hsz:W.heap.size=w.heap.size+2:=by rw[<-hW];simp
 have P:=r.B6 t (λ_ _=>id);obtain⟨c8,c9,cf,c5,c1⟩:=P.F6;have hR0:=az W.drew (X #[N] 26);have f:Keeps (λ_=>False) W (W.drew.alloc (X #[N] 26)):=((ak _ W).A9).A4 _;have m:∀k,w.heap.size<=k->¬F k:=λk hk hf=>absurd (s k hf) (dq.2 hk)
 have n:=aBd F (W.drew.alloc (X #[N] 26)) p (w.heap.size+1) w.heap.size x l v (P.B6 f (λ_ _=>id)) hok
  (by obtain⟨a,cap,T,q,C,G⟩:=hv;exact⟨a,cap,T,q,C,G.imp id (λ⟨g,off,e1,e2,c⟩=>⟨g,off,e1,e2,λi x hi=>(t.B8 f).B5 (c i x hi) id⟩)⟩) hl (f.C4 z id) (f.C4 j id) (m _ (by omega)) (m _ (bc _))
 have Q:¬F W.heap.size:=m _ (by omega);have h:=aC4 W.drew (w.heap.size+1) w.heap.size _ n (λe w' R=>R.1.C4 hR0 Q);have A:Keeps F w (W.drew.alloc (X #[N] 26)):=((t.B8 f).A6 λ_ r=>r.elim);obtain⟨out,B⟩:∃out,x.D7 po l=out:=⟨_,rfl⟩;rw[B]at h⊢;have HSF:=L d;have hp8:p≠W.heap.size:=by omega
 have HWP:=L (show w.heap.size≠p by omega);cases out with
 | error er=>
  obtain⟨no,c⟩:=er
  have HC:=L (h.mono (R':=λe w2=>e=Y (cM no c)/\Keeps F w w2/\(∃u,w2.cell? ⟨p,8,I⟩=J u)/\(∀o,w2.frozen? ⟨p,o,I⟩=Z)/\w2.cell? ⟨w.heap.size,0,I⟩=J (U (J ⟨p,0,I⟩))) λe w2 R=>by
   obtain⟨w1,R⟩:=R
   have hq1:mE F (W.drew.alloc (X #[N] 26)) p (aw (no,c)) (bR no c) w1/\e=Y (cM no c)/\w2=w1.setCell ⟨W.heap.size,0,I⟩ (cM no c):=by
    rcases R with⟨T,_,_⟩|⟨no',at',T,q,C⟩
    .have:=T.2.1;unfold bR at this;cases this
    .have G:=T.2.1;unfold bR cM at G;injection G with G
     simp at G;obtain⟨e1,e2⟩:=G;obtain rfl:no'=no:=by omega
     obtain rfl:at'=c:=by omega
     exact⟨T,q,C⟩
   obtain⟨⟨hk,_,v0,v1,v2,v3,v4,v5,v6,v7,v8,v9,hb⟩,rfl,rfl⟩:=hq1;have C:=(aE (w:=w1) (b:=W.heap.size) (o:=0) (k:=p) (cM no c) hp8).trans hb;obtain⟨-,-,-,-,-,-,-,-,d8,-,df⟩:=bX C;have q:(w1.setCell ⟨W.heap.size,0,I⟩ (cM no c)).heap[w.heap.size]?=_:=(aE (w:=w1) (b:=W.heap.size) (o:=0) (k:=w.heap.size) (cM no c) (by omega)).trans (hk.C4 (f.C4 j id) (m _ (bc _)));exact⟨rfl,(A.B8 hk).A2 (p:=⟨W.heap.size,0,I⟩) (E (by rw[hsz];exact du _ 2)) _,⟨_,d8⟩,df,aj q⟩)
  have k0:=aj z;have k1:=aj j;subst hve;clear P hR0 f m n Q h A B r hok s d z j t hv;subst hW;go_enter func18,ntmps18;go_wp2_with fail
  go_region_with (go_at_call 52;refine(HC.o).mono ?_;rintro e w2 ⟨he,C,⟨u,hu⟩,hf2,q⟩;unfold cM at he;subst he)
  all_goals
   have HK2:=L C;have hcx:(w2.setCell ⟨p,8,I⟩ (ag 151 (ah #[O S no,O S c]))).cell? ⟨p,8,I⟩=J (ag 151 (ah #[O S no,O S c])):=cz _ _ _ (by rw[hu];rfl)
   have hbx3:(w2.setCell ⟨p,8,I⟩ (ag 151 (ah #[O S no,O S c]))).cell? ⟨w.heap.size,0,I⟩=J (U (J ⟨p,0,I⟩)):=by
    rw[dv (aE _ HWP.o)];exact q
   clear C;go_wp2_with fail;go_ret;exact⟨HK2.o.A2 (p:=⟨p,8,I⟩) (D HSF.o) _,rfl⟩
 | ok y=>
  have HC:=L (h.mono (R':=λe w2=>e=Y N/\Keeps F w w2/\aG (Since F w w2) w2 p y (K y.lex Z) []/\w2.cell? ⟨w.heap.size,0,I⟩=J (U (J ⟨p,0,I⟩))) λe w2 R=>by
   obtain⟨w1,R⟩:=R
   have hq1:mE F (W.drew.alloc (X #[N] 26)) p (ai y) (Y (ac #[])) w1/\e=Y N/\w2=w1.setCell ⟨W.heap.size,0,I⟩ N:=by
    rcases R with r|⟨no',at',T,-,-⟩
    .exact r
    .have G:=T.2.1;unfold bR at G;cases G
   obtain⟨⟨hk,_,G⟩,rfl,rfl⟩:=hq1;have hsX:(W.drew.alloc (X #[N] 26)).heap.size=W.heap.size+1:=by simp
   have T:Keeps (λk=>k=W.heap.size) w1 (w1.setCell ⟨W.heap.size,0,I⟩ N):=(ak (λk=>k=W.heap.size) w1).A2 (p:=⟨W.heap.size,0,I⟩) (D rfl) _;have c:=G.B6 T (λk r e=>r.elim (λr=>Q (e▸r)) (λr=>by have:=r.1;omega));have hkk:Keeps F w (w1.setCell ⟨W.heap.size,0,I⟩ N):=(A.B8 hk).A2 (p:=⟨W.heap.size,0,I⟩) (E (by rw[hsz];exact du _ 2)) _;have q:(w1.setCell ⟨W.heap.size,0,I⟩ N).heap[w.heap.size]?=_:=(aE (w:=w1) (b:=W.heap.size) (o:=0) (k:=w.heap.size) N (by omega)).trans (hk.C4 (f.C4 j id) (m _ (bc _)));exact⟨rfl,hkk,c.A6 (λk r=>r.elim D (λr=>E ⟨bp A.size r.1,bh r.2 T.size⟩)) (aF s hkk.size),aj q⟩)
  have k0:=aj z;have k1:=aj j;subst hve;clear P hR0 f m n Q h A B r hok s d z j t hv;subst hW;go_enter func18,ntmps18;go_wp2_with fail
  go_region_with (go_at_call 52;refine(HC.o).mono ?_;rintro e w2 ⟨rfl,C,c,q⟩;have d:=c.F6;have hu:=d.1)
  all_goals
   have HK2:=L C;have f:=L c;have h:=L (aE5 c);have hcx:(w2.setCell ⟨p,8,I⟩ N).cell? ⟨p,8,I⟩=J N:=cz _ _ _ (by rw[hu];rfl)
   have hbx3:(w2.setCell ⟨p,8,I⟩ N).cell? ⟨w.heap.size,0,I⟩=J (U (J ⟨p,0,I⟩)):=by
    rw[dv (aE _ HWP.o)];exact q
   clear C c d;go_wp2_with fail;go_ret;exact⟨HK2.o.A2 (p:=⟨p,8,I⟩) (D HSF.o) _,rfl,h.o.A6 (λk r=>r.E7 (by simp[ba])) (λk r=>bh (f.o.lt k (r.E7 (by simp[ba]))) (by simp[ba]))⟩
def aBe(F:Nat->Prop)(w:V)(p:Nat)(o:Out)(e:ar)(w':V):Prop:=
 Keeps F w w'/\match o with
 | .error (no,a)=>e=bR no a/\gX w' p
 | .ok y=>e=Y (ac #[])/\∃s,aG (Since F w w') w' p y s []
theorem aKk(F:Nat->Prop)(w:V)(p:Nat)(x:Ps)(h:aG F w p x (K x.lex Z) [])(i:x.lex.Fine):
 ∃g,w.cell? ⟨p,2,I⟩=J (U (J ⟨g,0,I⟩))/\ae af 78 #[U (J ⟨g,0,I⟩)] w λe w'=>Keeps F w w'/\
  (x.lex.C6.2.2.1=0->e=Y N/\∃s,aG (Since F w w') w' p x s x.lex.C6.2.1)/\
  (x.lex.C6.2.2.1≠0->e=Y (cM x.lex.C6.2.2.1 x.lex.C6.2.2.2)/\∃s,aG (Since F w w') w' p x s x.lex.C6.2.1):=by
 obtain⟨c,C,B,z,g,y,a,b,f,q,G,v,A⟩:=h;refine⟨g,by rw[aA q];rfl,(aE1 C w g x.lex [] G i.number i.numeral i.place i.start (tN i).2.2.2.2 (by simp)).mono ?_⟩;rintro e w' ⟨j,o,u⟩;have d:Keeps F w w':=j.A6 f.lex;have m:=v.B6 j (λk h e=>f.lm k e h);have l:=A.A0 j (λk h e=>f.lp k e h);have n:=f.N3 (w:=w) (w':=w') (c p f.self.1) v.2.1 A.lt;refine⟨d,λt=>?_,λt=>?_⟩
 .obtain⟨rfl,r⟩:=o t;exact⟨rfl,K _ bg,aF c d.size,_,B,z,g,y,a,b,n,j.C4 q f.self.2.1,r,m,l⟩
 .obtain⟨rfl,pl,st,r⟩:=u t;exact⟨rfl,.dead pl st _,aF c d.size,_,B,z,g,y,a,b,n,j.C4 q f.self.2.1,r,m,l⟩
theorem aE6(x:Lx):x.C6.2.1.length<=1:=by
 unfold Lx.C6;split
 .simp
 .split
  .simp
  .cases x.C0 with
   | none=>simp
   | some p=>simp
theorem aE7(F:Nat->Prop)(w:V)(p:Nat)(x:Ps)(T:aG F w p x (K x.lex Z) [])(n:eY x):
 ae af 53 #[U (J ⟨p,0,I⟩)] w λe w'=>cH e/\aBe F w p (x.C0 po) e w':=by
 have z:=T.lt;have HLT:=L z;obtain⟨lb,hc2,t⟩:=aKk F w p x T n.fine;have u:=wE (x:=x.lex);have v:=n.O9;have A:=aE6 x.lex;obtain⟨r,W⟩:∃r,x.lex.C6=r:=⟨_,rfl⟩;rw[W]at t u A v;obtain⟨d,hd⟩:∃d,dj po {x with lex:=r.1} r.2.1=d:=⟨_,rfl⟩;have a:x.C0 po=wH r d:=by rw[<-hd,<-W];rfl
 have B:cG {x with lex:=r.1} (bU x):=n.ps.P4 r.1;have C:=L (λ(G:Nat->Prop)(w1:V)(s:LS)(h1:aG G w1 p x s r.2.1)=>aAg G w1 p {x with lex:=r.1} s r.2.1 (bU x) h1 u B v (by omega));rw[hd]at C;have P:=L t
 by_cases l:r.2.2.1=0
 .have HG:=L (show ∀(e:ar)(w':V),((r.2.2.1=0->e=Y N/\∃s,aG (Since F w w') w' p x s r.2.1)/\(r.2.2.1≠0->e=Y (cM r.2.2.1 r.2.2.2)/\∃s,aG (Since F w w') w' p x s r.2.1))->e=Y N/\∃s,aG (Since F w w') w' p x s r.2.1 from λe w' T=>T.1 l);cases d with
  | error er=>
   obtain⟨no,at_⟩:=er;rw[a];clear a B u A v hd W T n z t l;go_enter bu,bw;go_wp2_with fail;refine(P.o).mono ?_;rintro e w1 ⟨b,c⟩;obtain⟨rfl,s,f⟩:=HG.o _ _ c;have m:=L (C.o _ w1 _ f);have i:=L b;clear c f b;go_wp2_with fail;refine(m.o).mono ?_;rintro e w2 ⟨-,g,o,h⟩;have j:=L g;have HD:=L h;clear g h;unfold bR at o;subst o;go_wp2_with fail;exact⟨rfl,E ⟨_,_,rfl⟩,i.o.B7 j.o,rfl,HD.o⟩
  | ok q=>
   simp only[wH]at a;rw[if_neg (λT=>T l)]at a
   have hwant:(q.want≠6/\((q.want:Int)!=6)=bg)\/(q.want=6/\((q.want:Int)!=6)=Z):=by
    by_cases y:q.want=6
    .exact E ⟨y,by simp;omega⟩
    .exact D ⟨y,by simp;omega⟩
   rcases hwant with⟨Q,e6⟩|⟨Q,e6⟩
   .rw[if_pos Q]at a;rw[a];have HFA:=L (λw=>gW w 95 q.place);clear a B u A v hd W T n z t l Q;go_enter bu,bw;go_wp2_with fail;refine(P.o).mono ?_;rintro e w1 ⟨b,c⟩;obtain⟨rfl,s,f⟩:=HG.o _ _ c;have m:=L (C.o _ w1 _ f);have i:=L b;clear c f b;go_wp2_with fail;refine(m.o).mono ?_;rintro e w2 ⟨R,g,o,y⟩;subst o;have j:=L g;obtain⟨c8,c9,cf,c5,c1⟩:=y.F6;clear R g;have HPL2:=L y.H8;clear y;go_wp2_with fail;refine(l7 _).mono ?_;rintro e w3 ⟨rfl,rfl⟩;go_wp2_with fail;refine(HFA.o _).mono ?_;rintro e w3 ⟨o,rfl⟩;unfold bR at o;subst o;go_wp2_with fail;exact⟨rfl,E ⟨_,_,rfl⟩,i.o.B7 j.o,rfl,HPL2.o⟩
   .rw[if_neg (λT=>T Q)]at a;rw[a];clear a B u A v hd W T n z t l Q;go_enter bu,bw;go_wp2_with fail;refine(P.o).mono ?_;rintro e w1 ⟨b,c⟩;obtain⟨rfl,s,f⟩:=HG.o _ _ c;have m:=L (C.o _ w1 _ f);have i:=L b;clear c f b;go_wp2_with fail;refine(m.o).mono ?_;rintro e w2 ⟨R,g,o,y⟩;subst o;have j:=L g;obtain⟨c8,c9,cf,c5,c1⟩:=y.F6;clear R g;have Q:=L y;clear y;go_wp2_with fail;refine(l7 _).mono ?_;rintro e w3 ⟨rfl,rfl⟩;go_wp2_with fail
    go_end0
    have y:=i.o.B7 j.o;exact⟨D rfl,y,rfl,s,Q.o.A6 (λk T=>T.B9 i.o.size j.o.size) (aF HLT.o y.size)⟩
 .have HG:=L (show ∀(e:ar)(w':V),((r.2.2.1=0->e=Y N/\∃s,aG (Since F w w') w' p x s r.2.1)/\(r.2.2.1≠0->e=Y (cM r.2.2.1 r.2.2.2)/\∃s,aG (Since F w w') w' p x s r.2.1))->e=Y (cM r.2.2.1 r.2.2.2)/\∃s,aG (Since F w w') w' p x s r.2.1 from λe w' T=>T.2 l);have y:=L (λw=>xA w r.2.2.1 r.2.2.2);cases d with
  | error er=>
   obtain⟨no,at_⟩:=er;rw[a];clear a B u A v hd W T n z t l;go_enter bu,bw;go_wp2_with fail;refine(P.o).mono ?_;rintro e w1 ⟨b,c⟩;obtain⟨rfl,s,f⟩:=HG.o _ _ c;have m:=L (C.o _ w1 _ f);have i:=L b;clear c f b;go_wp2_with fail;refine(m.o).mono ?_;rintro e w2 ⟨-,g,o,h⟩;have j:=L g;have HD:=L h;clear g h;unfold bR at o;subst o;go_wp2_with fail;exact⟨rfl,E ⟨_,_,rfl⟩,i.o.B7 j.o,rfl,HD.o⟩
  | ok q=>
   simp only[wH]at a;rw[if_pos l]at a;rw[a];clear a B u A v hd W T n z t l;go_enter bu,bw;go_wp2_with fail;refine(P.o).mono ?_;rintro e w1 ⟨b,c⟩;obtain⟨rfl,s,f⟩:=HG.o _ _ c;have m:=L (C.o _ w1 _ f);have i:=L b;clear c f b;go_wp2_with fail;refine(m.o).mono ?_;rintro e w2 ⟨R,g,o,a⟩;subst o;have j:=L g;have HD:=L a.H8;clear R g a;go_wp2_with fail;refine(y.o _).mono ?_;rintro e w3 ⟨o,a⟩;have b:=L a;clear a;unfold bR at o;subst o;go_wp2_with fail;exact⟨rfl,E ⟨_,_,rfl⟩,(i.o.B7 j.o).A5 b.o,rfl,HD.o.A0 (bs (λ_=>False) b.o) id⟩
def xI(F:Nat->Prop)(w:V)(o:Except (Nat×Nat) Tr)(e:ar)(w':V):Prop:=
 Keeps F w w'/\match o with
 | .error (no,a)=>e=Y (ac #[U I,cM no a])
 | .ok t=>∃T v,e=Y (ac #[U (J ⟨T,0,I⟩),N])/\w'.heap[T]?=J (X #[v] 176 (0,0))/\dP (Since F w w') w' v t/\w.heap.size<=T
def oneOf(o:Out):Except (Nat×Nat) Tr:=match o with
 | .error e=>aw e
 | .ok y=>ai (y.items.headD .null)
theorem yP(F:Nat->Prop)(w:V)(p:Nat)(x:Ps)(g:aG F w p x (K x.lex Z) [])(n:eY x):
 ae af 16 #[U (J ⟨p,0,I⟩)] w λe w'=>xI F w (oneOf (x.C0 po)) e w':=by
 have f:∀y,x.C0 po=ai y->∃t,y.items= [t]:=λy hy=>aDZ n hy
 have h:=g.lt;have c:=g.M8;have hpl:=h p c;obtain⟨c8,c9,-,-,-⟩:=g.F6;have q:Keeps (λ_=>False) w (w.alloc (X #[N] 26)):=(ak _ w).A4 _;have C:=az w (X #[N] 26);have r:¬F w.heap.size:=λhf=>absurd (h _ hf) (Nat.lt_irrefl _)
 have i:=aE7 F _ p x (g.B6 q (λ_ _=>id)) n;have d:=yO w p _ i (λe w' z=>z.1.C4 C r);have j:Keeps F w (w.alloc (X #[N] 26)):=q.A6 λ_ g=>g.elim
 have hp8:p≠w.heap.size:=by omega
 obtain⟨P,l⟩:∃P,x.C0 po=P:=⟨_,rfl⟩;rw[l]at d f⊢;have T:=L c;cases P with
 | error er=>
  obtain⟨no,a⟩:=er
  have HC:=L (d.mono (R':=λe w2=>e=Y (cM no a)/\Keeps F w w2/\(∃u,w2.cell? ⟨p,8,I⟩=J u)/\(∀o,w2.frozen? ⟨p,o,I⟩=Z)) λe w2 z=>by
   obtain⟨w1,z⟩:=z
   have Q:aBe F (w.alloc (X #[N] 26)) p (aw (no,a)) (bR no a) w1/\e=Y (cM no a)/\w2=w1.setCell ⟨w.heap.size,0,I⟩ (cM no a):=by
    rcases z with⟨R,_,_⟩|⟨W,at',R,m,A⟩
    .have:=R.2.1;unfold bR at this;cases this
    .have B:=R.2.1;unfold bR cM at B;injection B with B
     simp at B;obtain⟨e1,e2⟩:=B;obtain rfl:W=no:=by omega
     obtain rfl:at'=a:=by omega
     exact⟨R,m,A⟩
   obtain⟨⟨hk,_,A,v1,v2,v3,v4,v5,v6,v7,v8,v9,hb⟩,rfl,rfl⟩:=Q;have m:=(aE (w:=w1) (b:=w.heap.size) (o:=0) (k:=p) (cM no a) hp8).trans hb;obtain⟨-,-,-,-,-,-,-,-,d8,-,df⟩:=bX m;exact⟨rfl,(j.B8 hk).A2 (p:=⟨w.heap.size,0,I⟩) (E (bc _)) _,⟨_,d8⟩,df⟩)
  clear q C r i d j l g n h c f;go_enter func16,ntmps16;go_wp2_with fail;refine(HC.o).mono ?_;rintro e w2 ⟨he,m,⟨u,hu⟩,hf2⟩;unfold cM at he;subst he;have hcx:(w2.setCell ⟨p,8,I⟩ (ag 151 (ah #[O S no,O S a]))).cell? ⟨p,8,I⟩=J (ag 151 (ah #[O S no,O S a])):=cz _ _ _ (by rw[hu];rfl);have A:=L m;clear m;go_wp2_with fail;go_region;go_wp2_with fail;exact bm (v:=ac #[U I,ag 151 (ah #[O S no,O S a])]) (by simp[au,results16,go_sem]) rfl ⟨(A.o.A2 (p:=⟨p,8,I⟩) (D T.o) _).A9,rfl⟩
 | ok y=>
  obtain⟨t,ht⟩:=f y rfl
  have hoo:oneOf (ai y)=ai t:=by
   show ai (y.items.headD .null)=_
   rw[ht];rfl
  rw[hoo]
  have HC:=L (d.mono (R':=λe w2=>e=Y N/\Keeps F w w2/\∃s,aG (Since F w w2) w2 p y s []) λe w2 z=>by
   obtain⟨w1,z⟩:=z
   have Q:aBe F (w.alloc (X #[N] 26)) p (ai y) (Y (ac #[])) w1/\e=Y N/\w2=w1.setCell ⟨w.heap.size,0,I⟩ N:=by
    rcases z with g|⟨W,at',R,-,-⟩
    .exact g
    .have B:=R.2.1;unfold bR at B;cases B
   obtain⟨⟨hk,_,s,B⟩,rfl,rfl⟩:=Q;have R:Keeps (λk=>k=w.heap.size) w1 (w1.setCell ⟨w.heap.size,0,I⟩ N):=(ak (λk=>k=w.heap.size) w1).A2 (p:=⟨w.heap.size,0,I⟩) (D rfl) _;have a:=B.B6 R (λk g e=>g.elim (λg=>r (e▸g)) (λg=>by have:=g.1;simp at this;omega));have W:Keeps F w (w1.setCell ⟨w.heap.size,0,I⟩ N):=(j.B8 hk).A2 (p:=⟨w.heap.size,0,I⟩) (E (bc _)) _;exact⟨rfl,W,s,a.A6 (λk g=>g.elim D (λg=>E ⟨bp j.size g.1,bh g.2 R.size⟩)) (aF h W.size)⟩)
  have B:=L ht;clear q C r i d j l g n h c f hoo ht;go_enter func16,ntmps16;go_wp2_with fail;refine(HC.o).mono ?_;rintro e w2 ⟨rfl,m,s,h⟩;have a:Keeps (λk=>k=p) w2 ((w2.setCell ⟨p,8,I⟩ N).setCell ⟨p,9,I⟩ (av bg)):=((ak (λk=>k=p) w2).A2 (p:=⟨p,8,I⟩) (D rfl) _).A2 (p:=⟨p,9,I⟩) (D rfl) _;obtain⟨-,FL,R,FP,lb,r,i,C,j,hb,-,Q,-⟩:=h;have c:=aB (o:=8) hb N;have f:=aB (o:=9) c (av bg);have d:=Q.B6 a (λk g e=>j.self.2.2.1 (e▸g));rw[B.o]at d;have l:=L (aHU R _ r t d);obtain⟨-,-,-,-,-,-,-,-,d8,d9,df⟩:=bX hb;have W:(w2.setCell ⟨p,8,I⟩ N).cell? ⟨p,8,I⟩=J N:=by rw[aA c];rfl
  have h93:((w2.setCell ⟨p,8,I⟩ N).setCell ⟨p,9,I⟩ (av bg)).cell? ⟨p,3,I⟩=J (U (J ⟨r,0,I⟩)):=by rw[aA f];rfl
  have A:=L m;have n:=L a;have q:=L j.maker;clear m a j hb Q c f d;go_wp2_with fail;refine(l.o).mono ?_;rintro e d ⟨rfl,v,rfl,a⟩;have c:=L a;clear a;go_wp2_with fail;have a:Keeps F w (((w2.setCell ⟨p,8,I⟩ N).setCell ⟨p,9,I⟩ (av bg)).alloc (X #[v] 176)):=(A.o.B8 (n.o.A6 λk e=>e▸T.o)).A4 _;refine bm (v:=ac #[U (J ⟨((w2.setCell ⟨p,8,I⟩ N).setCell ⟨p,9,I⟩ (av bg)).heap.size,0,I⟩),N]) (by simp[au,results16,go_sem]) rfl ⟨a,_,v,rfl,az _ _,?_,?_⟩
  .exact(c.o.A0 (G:=λ_=>False) ((ak _ _).A4 _) (λ_ _=>id)).A6 (λk g=>(q.o k g).E7 (by simp[ba]))
  .simp[ba];exact A.o.size
theorem aE8(w:V)(d:Nat)(s:1<=d)(r:d<=512):ae af 47 #[O S d] w λe w'=>∃p,e=Y (ac #[U (J ⟨p,0,I⟩),N])/\Keeps (λ_=>False) w w'/\aG (Since (λ_=>False) w w') w' p (ao d) (K Lx.I0 Z) []:=by
 have u:¬(d:Int)<1:=by omega
 have x:¬(512:Int)<(d:Int):=by omega
 have o:=L (aAu w);obtain⟨n,b⟩:∃n,w.alloc (X #[O S 0,N,av Z,cg (cj 104) #[] #[],av Z,O S 0,H I 0 0,O S 0,U I,H I 0 0,O S 0,O .i32 0,O .i32 0,H I 0 0] 228)=n:=⟨_,rfl⟩;rw[b]at o;have c:=L b;clear b;go_enter func47,ntmps47;go_wp2_with fail;refine(o.o).mono ?_;rintro e w1 ⟨rfl,rfl⟩;go_wp2_with fail;refine(aAy _).mono ?_;rintro e w2 ⟨rfl,rfl⟩;go_wp2_with fail;have j:w1.heap.size=w.heap.size+1:=by rw[<-c.o];simp
 have m:Keeps (λ_=>False) w ((w1.alloc (X #[H I 0 0] 195)).alloc (X (dJ (ao d) w.heap.size w1.heap.size (H I 0 0)) 136)):=by
  rw[<-c.o];exact(((ak _ w).A4 _).A4 _).A4 _
 have g:((w1.alloc (X #[H I 0 0] 195)).alloc (X (dJ (ao d) w.heap.size w1.heap.size (H I 0 0)) 136)).heap[w.heap.size]?=J (X #[O S 0,N,av Z,cg (cj 104) #[] #[],av Z,O S 0,H I 0 0,O S 0,U I,H I 0 0,O S 0,O .i32 0,O .i32 0,H I 0 0] 228 (0,0)):=by
  refine(cv _ _ _ (by simp;omega)).trans ((cv _ _ _ (by omega)).trans ?_);rw[<-c.o];exact az w _
 have f:((w1.alloc (X #[H I 0 0] 195)).alloc (X (dJ (ao d) w.heap.size w1.heap.size (H I 0 0)) 136)).heap[w1.heap.size]?=J (X #[H I 0 0] 195 (0,0)):=
  (cv _ _ _ (by simp)).trans (az w1 _)
 have l:((w1.alloc (X #[H I 0 0] 195)).alloc (X (dJ (ao d) w.heap.size w1.heap.size (H I 0 0)) 136)).heap[w1.heap.size+1]?=J (X (dJ (ao d) w.heap.size w1.heap.size (H I 0 0)) 136 (0,0)):=by
  have:=az (w1.alloc (X #[H I 0 0] 195)) (X (dJ (ao d) w.heap.size w1.heap.size (H I 0 0)) 136)
  rwa[dt]at this
 refine bm (v:=ac #[U (J ⟨w1.heap.size+1,0,I⟩),N]) (by simp[au,results47,go_sem]) rfl ⟨w1.heap.size+1,rfl,m,?_⟩;have a:((w1.alloc (X #[H I 0 0] 195)).alloc (X (dJ (ao d) w.heap.size w1.heap.size (H I 0 0)) 136)).heap.size=w.heap.size+3:=by simp[j]
 refine⟨aF (λ_ h=>h.elim) m.size,λk=>k=w.heap.size,λk=>k=w1.heap.size,λ_=>False,w.heap.size,w1.heap.size,H I 0 0,[],⟨?_,?_,λ_ h=>h.elim,⟨?_,?_,?_,id⟩,?_,λ_ _ h=>h,λ_ _ h=>h⟩,l,?_,?_,?_⟩
 .rintro k rfl;exact E ⟨bc _,bx (by omega) a.symm⟩
 .rintro k rfl;exact E ⟨by omega,bx (by omega) a.symm⟩
 .exact E ⟨by omega,bx (by omega) a.symm⟩
 .omega
 .omega
 .rintro k rfl h;omega
 .exact⟨rfl,(by rintro k rfl;exact bx (by omega) a.symm),_,_,_,_,g,.E0 _ _ _ _,⟨λh=>(by rcases h with h|h<;>cases h),λh=>(by cases h)⟩⟩
 .exact⟨rfl,(by rintro k rfl;exact bx (by omega) a.symm),_,[],f,.E0 _ _ _ _,⟨rfl,λi v t q=>by simp at q⟩⟩
 .exact eH.E0 _
def aAk(o:Out):Out:=match o with
 | .error e=>aw e
 | .ok p=>p.C0 po
theorem aE9(l:List UInt8)(d:Nat):cw po l d=aAk ((ao d).D7 po l):=rfl
def jW(l:List UInt8)(d:Nat):Except (Nat×Nat) Tr:=oneOf (cw po l d)
theorem aC6(w:V)(l:List UInt8)(d:Nat)(v:bz)(B:1<=d)(s:d<=512)(hv:BytesIn (λk=>w.heap.size<=k) w v l)(C:l.length<=4294967296):
 ae af 12 #[v,O S d] w λe w'=>xI (λ_=>False) w (jW l d) e w':=by
 have HN:=L (aE8 w d B s)
 have Q:=L (λ(w1:V)(p:Nat)(j:Keeps (λ_=>False) w w1)(m:aG (Since (λ_=>False) w w1) w1 p (ao d) (K Lx.I0 Z) [])=>
  aC5 (Since (λ_=>False) w w1) w1 p (ao d) l v m (oQ d s) (by
   obtain⟨a,cap,b,c,f,h⟩:=hv;exact⟨a,cap,b,c,f,h.imp id (λ⟨g,off,n,q,r⟩=>⟨g,off,n,λF=>F.elim id (λF=>q F.1),λi x hi=>j.B5 (r i x hi) id⟩)⟩) C)
 obtain⟨o,u⟩:∃o,(ao d).D7 po l=o:=⟨_,rfl⟩;rw[u]at Q;have b:cw po l d=aAk o:=by rw[aE9,u]
 obtain⟨a,cap,R,_⟩:=hv;subst R;unfold jW;cases o with
 | error T=>
  obtain⟨no,c⟩:=T;rw[b]
  show ae af 12 _ w λe w'=>xI (λ_=>False) w (aw (no,c)) e w'
  clear b u C B s;go_enter func12,ntmps12;go_wp2_with fail;refine(HN.o).mono ?_;rintro e w1 ⟨p,rfl,j,m⟩;have r:=L (Q.o w1 p j m);have P:=L j;clear j m;go_wp2_with fail;refine(r.o).mono ?_;rintro e w2 ⟨f,q⟩;have n:=L f;clear f;unfold cM at q;have q:e=Y (ag 151 (ah #[O S no,O S c])):=q;subst q;go_wp2_with fail;exact bm (v:=ac #[U I,ag 151 (ah #[O S no,O S c])]) (by simp[au,dh,go_sem]) rfl ⟨P.o.B7 n.o,rfl⟩
 | ok y=>
  have z:=(oQ d s).D7 u;have b:cw po l d=y.C0 po:=b;rw[b];have A:=L (λ(G:Nat->Prop)(w2:V)(p:Nat)(m:aG G w2 p y (K y.lex Z) [])=>yP G w2 p y m z);obtain⟨W,h⟩:∃W,oneOf (y.C0 po)=W:=⟨_,rfl⟩;rw[h]at A⊢;clear b u C B s z h;go_enter func12,ntmps12;go_wp2_with fail;refine(HN.o).mono ?_;rintro e w1 ⟨p,rfl,j,m⟩;have r:=L (Q.o w1 p j m);have P:=L j;clear j m;go_wp2_with fail;refine(r.o).mono ?_;rintro e w2 ⟨f,rfl,b⟩;have u:=L (A.o _ w2 p b);have n:=L f;clear f b;go_wp2_with fail;refine(u.o).mono ?_;have j:=P.o.B7 n.o;rintro e w3 ⟨m,b⟩;have f:∀k,Since (Since (λ_=>False) w w1) w1 w2 k->Since (λ_=>False) w w2 k:=λk F=>F.B9 P.o.size n.o.size
  have z:Keeps (λ_=>False) w w3:=j.B7 (m.A6 f);have B:=L z;have s:=L (And.intro j.size m.size);have C:=L f;clear m z j f;cases W with
  | error T=>
   obtain⟨no,c⟩:=T;have q:e=Y (ac #[U I,ag 151 (ah #[O S no,O S c])]):=b;clear b;subst q;go_wp2_with fail;exact bm (v:=ac #[U I,ag 151 (ah #[O S no,O S c])]) (by simp[au,dh,go_sem]) rfl ⟨B.o,rfl⟩
  | ok t=>
   obtain⟨T,v,q,f,h,j⟩:=b;have m:=L f;have c:=L h;have z:=L j;clear f h j;subst q;go_wp2_with fail;refine bm (v:=ac #[U (J ⟨T,0,I⟩),N]) (by simp[au,dh,go_sem]) rfl ⟨B.o,T,v,rfl,m.o,c.o.A6 (λk F=>Since.B9 (w1:=w2) (F.elim (λF=>D (C.o k F)) E) s.o.1 s.o.2),bp s.o.1 z.o⟩
end Go.Proofs.YtakkmiomhackiaaGreatDoor
