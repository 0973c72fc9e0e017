/-
  The program, one part of its walk. Conditions: none.
-/
import Derived.Test.YtakkmiomhackiaaGreatDoorAj06
import Derived.Test.YtakkmiomhackiaaGreatDoorAj09
set_option linter.all false
set_option maxRecDepth 100000
set_option maxHeartbeats 16000000
open Go.Proofs.Tryz
open Array renaming extract_size->fh,getElem?_append_left->fk,getElem?_modify->fm
open Bool renaming false->X,true->E
open Except renaming error->bu
open Go renaming Calls->ac,Leaves->cj,Value->U,World->O,cell_of_one->bg,free_of_one->bw,lt_of_block->ar,maxLen->eh,results->bh,settle->co,wpOpsS->dx,wpS_region->dw
open Go.Exit renaming thenS->ew
open Go.Proofs.Tryz renaming func162->dq,func175->cw,func196->bx,func213->du,func89->dl,ntmps162->dt,ntmps175->cz,ntmps196->bz,ntmps213->dv,ntmps89->dm,prog->G,results145->fz
open Go.Sort renaming ahead->ep,grow->ek,mapBlock->eo,pdq_sorts->fd,putCells->ej,putRow->em
open List.Perm renaming of_eq->ge
open Option renaming none->af,some->J
open Or renaming inl->D,inr->ao
namespace Go.Proofs.YtakkmiomhackiaaGreatDoor
open Go.RowKit
open Addr.mk renaming injEq->gd
open Ending renaming returned->L
open FrameMode renaming panicking->eu
open IntKind renaming i64->N,u64->ae
open Lib renaming bitLen->fe
open Obj renaming cells->Z
open Proofs renaming intOf->dp,sortWorld->dj
open Keeps renaming A2->ag,A4->bj
open Sz renaming B9->fc
open Tr renaming A9->av,flag->dh,list->bs,null->bk,object->et
open RowKit renaming Below->Y
open Value renaming agg->Q,bool->K,iface->aj,int->I,nilIface->az,pointer->ah,slice->ai,tuple->di
open Value.slice renaming injEq->ga
variable {w w' w1:O}{b:List U}{V:U}{i k n:Nat}{F:Nat->Prop}{a:List Tr}{keys:List Oo}{s:ByteArray}
def tV(w:O)(n:Nat):ac G 213 #[Q #[I N 5,K X,I ae 0,"",n,()]] w λe w'=>e=L (K E)/\Y w w w':=by
 have a:(((n:Nat):Int)==0)=E\/(((n:Nat):Int)==0)=X:=by cases h:(((n:Nat):Int)==0)<;>simp
 have b:(0:Int)<=(n:Int):=by omega
 rcases a with a|a
 all_goals
  go_enter du,dv;go_wp2;go_ret;exact⟨rfl,(dk _ _).alloc (hU _) _⟩
def l4(p:Addr)(x:U)(no:Nat)(a:List PanicEntry)(w:O)(d:w.cell? p=J x)(g:w.frozen? p=X):
 CallsD G 211 #[ah (J p)] (eu ({v:=aj 29 (I N no),recovered:=X}::a)) w λe f w'=>
  e=L (di #[])/\f=eu ({v:=aj 29 (I N no),recovered:=E}::a)/\w'=w.setCell p (aj 29 (I N no)):=by
 have b:∀w:O,(Instr.typeAssert (aj 29 (I N no)) 20 29 X).run G w=.ok (I N no) w:=λ_=>by kernel_rfl
 refine callsD_of_wpS func211 rfl λh i c=>?_;apply wpS_seq;apply dw;simp[dx,go_sem,recoverD,c,ntmps211,ew,Array.replicate];apply wpS_seq;apply dw;simp[dx,go_sem,recoverD,c,ew];refine wpS_cond (t:=E) (by simp[Act.eval]) ?_;simp only[if_true];apply dw;simp[dx,go_sem,d,g,b,bodyPostS,bh,results211]
def aEK(w:O)(b:Nat)(V:U)(a:List U)(k:Nat)(T:TypeId)(v:U)(R:Nat)(w':O):Prop:=
 ∃g off cap,w'.heap[b]?=J (Z #[ai (J ⟨g,off,af⟩) (k+1) cap] 195 (0,0))/\Win 97 id w' (ai (J ⟨g,off,af⟩) (k+1) cap) (a.take k++ [aj T v])/\(V.ownBlock=J g\/w.heap.size<=g)/\Keeps (λq=>q=b\/V.ownBlock=J q\/q=R) w w'
def jX.I9{w2:O}{b:Nat}{c:List U}{T:TypeId}{v:U}{R:Nat}{n:U}(s:w.heap.size<=R)(i:w1.heap[R]?=J (Z #[n] 26 (0,0)))(j:∀k,V.ownBlock=J k->k<w.heap.size)(o:b<w.heap.size)(h:jX w1 b V c k T v w2)(u:U):
 w2.cell? R=J n/\w2.frozen? R=X/\aEK w1 b V c k T v R (w2.setCell R u)/\(w2.setCell R u).cell? R=J u:=by
 obtain⟨g,off,cap,q,l,r,m⟩:=h
 have f:¬(R=b\/V.ownBlock=J R):=by
  rintro(e|e)
  .omega
  .have:=j R e;omega
 have a:=m.B4 i f;have d:Keeps (λk=>k=R) w2 (w2.setCell R u):=(bj (λk=>k=R) w2).A3 (p:=R) (D rfl) _;refine⟨bg a,bw a,⟨g,off,cap,(aE u (by omega)).trans q,?_,r,(m.mono λk e=>e.imp id D).same (d.mono λk e=>ao (ao e))⟩,?_⟩
 .exact l.A0 d (λk e d=>l.ne a (by decide) (e.trans (congrArg J d)))
 .rw[aA (aB a u)];rfl
def jY(w:O)(b:Nat)(V:U)(c:List U)(k:Nat)(z:Sz)(w':O):Prop:=
 ∃(d:O)(R p:Nat)(a:U),Y w w d/\w.heap.size<=R/\d.heap[R]?=J (Z #[az] 26 (0,0))/\w.heap.size<=p/\d.heap[p]?=J (Z #[z.g,z.bytes,z.h,a] 186 (0,0))/\
  Win 97 id d a (c.drop k)/\(∀q,a.ownBlock=J q->w.heap.size<=q)/\aEK d b V c k 181 (ah p) R w'
def jY.U2{b:Nat}{c:List U}{z:Sz}(d:Y w w w1)(h:jY w1 b V c k z w'):jY w b V c k z w':=by
 obtain⟨f,R,p,a,j,g,o,i,m,r,l,n⟩:=h;exact⟨f,R,p,a,d.trans (j.mono d.size),bo d.size g,o,bo d.size i,m,r,λq e=>bo d.size (l q e),n⟩
def uY{bytes:Nat}{l:List Sz}(h:∀z∈l,z.B9=E)(a:l.length<=65536)(b:bytes<=1073741824):(fY bytes l).g<=4611686018427387904/\(fY bytes l).bytes<=4611686018427387904/\(fY bytes l).h<=4611686018427387904:=by
 have:=sC (bytes:=bytes) h;rw[lA];exact⟨by show(cT bytes l).g<=_;omega,by show(cT bytes l).bytes<=_;omega,by show(cT bytes l).h+1<=_;omega⟩
def aCP(w:O)(b n:Nat)(V:U)(a:List U)(h:w.heap[b]?=J (Z #[V] 195 (0,0)))(r:Win 97 id w V a)(s:a.length<n):
 ac G 196 #[ah b,Q #[I N 5,K X,I ae 0,"",n,()]] w λe w'=>(∃v,e=L v)/\Y w w w':=by
 have x:=A (λw=>tV w n);have z:=A (λw'(o:Y w.heap.size w w')=>aCO w' b n V a (keep h o) (r.A0 (ag (λ_=>False) o) (λ_ _=>id)) s);clear h r s
 go_enter_defers bx,bz
 go_wp2_with fail;refine(x.o _).mono ?_;rintro e w1 ⟨rfl,i⟩;obtain⟨g1,q,d,t⟩:=after2 i;obtain⟨B,C,T,F,S,P,R⟩:=bJ g1;have u:=A q;have g:=A d;clear i g1 q d;go_wp2_with fail;refine(dT _ 2).mono ?_;rintro e w2 ⟨rfl,rfl⟩;go_wp2_with fail;refine(z.o _ g.o).mono ?_;rintro e m ⟨rfl,rfl⟩;have j:=u;have k:=g;go_wp2_with fail;refine lg (f:=211) (args:= #[ah (J ⟨w.heap.size+1,0,af⟩)]) (by simp) (by simp[go_sem]) ?_;refine(l4 ⟨w.heap.size+1,0,af⟩ az 102 [] _ (bg j.o) (bw j.o)).mono ?_;rintro e H y ⟨rfl,rfl,rfl⟩;have l:(m.setCell ⟨w.heap.size+1,0,af⟩ (aj 29 (I N 102))).cell? ⟨w.heap.size+1,0,af⟩=J (aj 29 (I N 102)):=by rw[aA (aB j.o _)];rfl
 have c:Y w.heap.size w (m.setCell ⟨w.heap.size+1,0,af⟩ (aj 29 (I N 102))):=k.o.setCell (p:=⟨w.heap.size+1,0,af⟩) (lh _) _;simp[cj,co,bh,oe,go_sem,l];exact c
def eF.M1(h:eF F w b a):∀v∈b,v.oneCell'=E:=by
 intro v d;obtain⟨i,hi,rfl⟩:=List.mem_iff_getElem.1 d;have c:i<a.length:=by have:=h.1;omega
 obtain⟨T,x,e⟩:=(h.2 i _ _ (bf hi) (bf c)).O1;rw[e];rfl
def eF.M7(h:eF F w b a)(k:Nat):eF F w (b.drop k) (a.drop k):=by
 refine⟨by simp[h.1],λi v t c d=>?_⟩;rw[List.getElem?_drop]at c d;exact h.2 _ v t c d
def eF.B3(h:eF F w b a)(k:Nat):eF F w (b.take k) (a.take k):=by
 refine⟨by simp[h.1],λi v t c d=>?_⟩;rw[List.getElem?_take]at c d;split at c
 .rename_i e;rw[pz e]at d;exact h.2 _ v t c d
 .cases c
def aBy(w:O)(F:Nat->Prop)(b n:Nat)(V:U)(a:List U)(c:List Tr)(s:w.heap[b]?=J (Z #[V] 195 (0,0)))(o:Win 97 id w V a)(h:eF F w a c)(g:∀t∈c,t.A9.B9=E)(r:c.length<=65536)(k:n<=a.length)(i:(fY 0 ((c.drop (a.length-n)).map av)).B9=X):
 ac G 196 #[ah b,Q #[I N 5,K X,I ae 0,"",n,()]] w λe w'=>(∃v,e=L v)/\Y w w w':=by
 have W:=A (λw=>tV w n);have HN:=A k;have g0:=h.1;have HT:=A (λw'(y:Y w.heap.size w w')=>wK w' b n V a (keep s y) (o.A0 (ag (λ_=>False) y) (λ_ _=>id)) (by omega) h.M1 k);have HS:=A (λw'(y:Y w.heap.size w w') d(hi:Win 97 id w' d (a.drop (a.length-n)))=>mT F w' d (a.drop (a.length-n)) (c.drop (a.length-n)) 0 hi ((h.A0 (ag (λ_=>False) y) (λ_ _=>id)).M7 _) (λt m=>g t (ob m)) (by rw[ea];omega) (by decide));have j:=A (uY (bytes:=0) (l:=(c.drop (a.length-n)).map av) (by intro z i;obtain⟨t,h,rfl⟩:=List.mem_map.1 i;exact g t (ob h)) (by rw[kt,ea];omega) (by decide));have B:=A i;clear s o k h g r i
 go_enter_defers bx,bz
 go_wp2_with fail;refine(W.o _).mono ?_;rintro e w1 ⟨rfl,g⟩;obtain⟨g1,o,h,g3⟩:=after2 g;obtain⟨R,S,T,q3,q4,q5,qf⟩:=bJ g1;have G1:=A g1;have G2:=A o;have k:=A h;clear g g1 o h;go_wp2_with fail;refine(dT _ 2).mono ?_;rintro e w2 ⟨rfl,rfl⟩;go_wp2_with fail;refine(HT.o _ k.o).mono ?_;rintro e w3 ⟨d,rfl,g,o,h⟩;have r:=chain k.o h;obtain⟨H,P,s⟩:=g.A8;obtain⟨p0,p1,p2,p3,p4,p5,pf⟩:=bJ (keep G1.o h);have G3:=A (keep G2.o h);have u:=A r;have x:(a.drop (a.length-n)).length=n:=by rw[ea];have:=HN.o;omega
 rw[x]at s;have g4:=A (And.intro g (λq(e:d.ownBlock=J q)=>(⟨bo k.o.size (o q e).1,(o q e).2⟩:w.heap.size<=q/\q<w3.heap.size)));have C:=A (HS.o _ u.o d g);clear g o h r x R S T q3 q4 q5 qf;subst s;go_wp2_with fail;refine(C.o).mono ?_;rintro e R ⟨rfl,g⟩;have h:∀z:Sz,szV z=Q #[z.g,z.bytes,z.h]:=λ_=>rfl;obtain⟨z,i⟩:∃z:Sz,fY 0 ((c.drop (a.length-n)).map av)=z:=⟨_,rfl⟩;have r:=A i;rw[i,h];have o:=A (chain u.o g);have G4:=A (keep G3.o g);clear g i h;go_wp2_with fail;have S:=aL R (Z #[z.g,z.bytes,z.h,ai H n P] 186);have h:=o.o.alloc o.o.size (Z #[z.g,z.bytes,z.h,ai H n P] 186);refine(vX _ b n R.heap.size z.g z.bytes z.h _ _ S rfl rfl rfl (by have:=B.o;rw[r.o]at this;exact this) (by have:=j.o;rw[r.o]at this;exact this.1) (by have:=j.o;rw[r.o]at this;exact this.2.1) (by have:=j.o;rw[r.o]at this;exact this.2.2)).mono ?_;rintro e T ⟨rfl,g⟩;have i:=A (keep (keep G4.o ((dk _ _).alloc (hU _) _)) g);have x:=A (chain h g);clear S h g;go_wp2_with fail;refine lg (f:=211) (args:= #[ah (J ⟨w.heap.size+1,0,af⟩)]) (by simp) (by simp[go_sem]) ?_;refine(l4 ⟨w.heap.size+1,0,af⟩ az 3 [] _ (bg i.o) (bw i.o)).mono ?_;rintro e u' S ⟨rfl,rfl,rfl⟩;have h:(T.setCell ⟨w.heap.size+1,0,af⟩ (aj 29 (I N 3))).cell? ⟨w.heap.size+1,0,af⟩=J (aj 29 (I N 3)):=by rw[aA (aB i.o _)];rfl
 have g:Y w.heap.size w (T.setCell ⟨w.heap.size+1,0,af⟩ (aj 29 (I N 3))):=x.o.setCell (p:=⟨w.heap.size+1,0,af⟩) (lh _) _;simp[cj,co,bh,oe,go_sem,h];exact g
def aEL(w:O)(F:Nat->Prop)(b n:Nat)(V:U)(a:List U)(d:List Tr)(s:w.heap[b]?=J (Z #[V] 195 (0,0)))(i:Win 97 id w V a)(o:eF F w a d)(h:∀t∈d,t.A9.B9=E)(u:d.length<=65536)(r:n<=a.length)(j:(fY 0 ((d.drop (a.length-n)).map av)).B9=E):
 ac G 196 #[ah b,Q #[I N 5,K X,I ae 0,"",n,()]] w λe w'=>e=L az/\jY w b V a (a.length-n) (fY 0 ((d.drop (a.length-n)).map av)) w':=by
 have HU:=A (λw=>tV w n);have HN:=A r;have g3:=o.1;have HT:=A (λw'(l:Y w.heap.size w w')=>wK w' b n V a (keep s l) (i.A0 (ag (λ_=>False) l) (λ_ _=>id)) (by omega) o.M1 r);have HS:=A (λw'(l:Y w.heap.size w w') g(hi:Win 97 id w' g (a.drop (a.length-n)))=>mT F w' g (a.drop (a.length-n)) (d.drop (a.length-n)) 0 hi ((o.A0 (ag (λ_=>False) l) (λ_ _=>id)).M7 _) (λt m=>h t (ob m)) (by rw[ea];omega) (by decide));have H:=A j;have HV:=A (λk(e:V.ownBlock=J k)=>i.lt e);have P:=ar s;have HG:=A (λw' p z c S(l:Y w.heap.size w w') hp h0 h1 h2 j=>vY w' b n p (Sz.g z) (Sz.bytes z) (Sz.h z) c S V a hp h0 h1 h2 j (keep s l) (i.A0 (ag (λ_=>False) l) (λ_ _=>id)) (by omega) r);clear s i r o h u j
 go_enter_defers bx,bz
 go_wp2_with fail;refine(HU.o _).mono ?_;rintro e w1 ⟨rfl,h⟩;obtain⟨g1,r,i,g4⟩:=after2 h;obtain⟨B,C,q2,q3,q4,q5,qf⟩:=bJ g1;have G1:=A g1;have G2:=A r;have o:=A i;clear h g1 r i;go_wp2_with fail;refine(dT _ 2).mono ?_;rintro e w2 ⟨rfl,rfl⟩;go_wp2_with fail;refine(HT.o _ o.o).mono ?_;rintro e w3 ⟨g,rfl,h,r,i⟩;have s:=chain o.o i;obtain⟨R,T,u⟩:=h.A8;obtain⟨p0,p1,p2,p3,p4,p5,pf⟩:=bJ (keep G1.o i);have G3:=A (keep G2.o i);have v:=A s;have x:(a.drop (a.length-n)).length=n:=by rw[ea];have:=HN.o;omega
 rw[x]at u;have y:=A (And.intro h (λq(e:g.ownBlock=J q)=>(⟨bo o.o.size (r q e).1,(r q e).2⟩:w.heap.size<=q/\q<w3.heap.size)));have W:=A (HS.o _ v.o g h);clear h r i s x B C q2 q3 q4 q5 qf;subst u;go_wp2_with fail;refine(W.o).mono ?_;rintro e B ⟨rfl,h⟩;have i:∀z:Sz,szV z=Q #[z.g,z.bytes,z.h]:=λ_=>rfl;obtain⟨z,j⟩:∃z:Sz,fY 0 ((d.drop (a.length-n)).map av)=z:=⟨_,rfl⟩;have HZ:=A j;rw[j,i];have r:=A (chain v.o h);have G4:=A (keep G3.o h);have g0:=A (y.o.1.A0 (ag (λ_=>False) h) (λ_ _=>id));clear h j i;go_wp2_with fail;have hx:=aL B (Z #[z.g,z.bytes,z.h,ai R n T] 186);have j:=r.o.alloc r.o.size (Z #[z.g,z.bytes,z.h,ai R n T] 186);refine(HG.o _ B.heap.size z _ _ j hx rfl rfl rfl (by have:=H.o;rw[HZ.o]at this;exact this)).mono ?_;rintro e w5 ⟨rfl,s⟩;have C:=(dk B B).alloc (hU _) (Z #[z.g,z.bytes,z.h,ai R n T] 186);obtain⟨r0,rf,h,rc⟩:=s.I9 (lh _) (keep G4.o C) HV.o P az
 have i:jY w b V a (a.length-n) (fY 0 ((d.drop (a.length-n)).map av)) (w5.setCell ⟨w.heap.size+1,0,af⟩ az):=by
  rw[HZ.o];exact⟨_,_,_,_,j,lh _,keep G4.o C,r.o.size,hx,g0.o.A0 (ag (λ_=>False) C) (λ_ _=>id),λq e=>(y.o.2 q e).1,h⟩
 have x:=A i;clear s h hx j C i;go_wp2_with fail;refine lg (f:=211) (args:= #[ah (J ⟨w.heap.size+1,0,af⟩)]) (by simp) (by simp[go_sem]) ?_;refine(gF ⟨w.heap.size+1,0,af⟩ _).mono ?_;rintro e j i ⟨rfl,rfl,rfl⟩;have h:=x.o;rw[List.map_drop]at h;simp[cj,co,bh,oe,go_sem,rc];exact h
def jY.M0{l:Nat}{z:Sz}(P:F l)(d:∀k,F k->k<w.heap.size)(S:eK F 97 id w V b)(ht:eF (λk=>F k/\k≠l/\V.ownBlock≠J k) w b a)
 (hz:z=(bs (a.drop k)).A9)(C:jY w l V b k z w'):Keeps F w w'/\cN (Since F w w') w' l (a.take k++ [bs (a.drop k)]):=by
 obtain⟨w4,R,p,j,H,hR,hr,hp,n,hi,o,g,off,cap,h1,T,s,u⟩:=C;have f:∀q,V.ownBlock=J q->q<w.heap.size:=λq e=>d q (S.2 q e)
 have hk:Keeps F w w':=(ag F H).trans u (λq e=>by
  rcases e with e|e|e
  .exact D (e▸P)
  .exact D (S.2 q e)
  .exact ao (e▸hR))
 have g3:=d l P
 have W:¬(p=l\/V.ownBlock=J p\/p=R):=by
  rintro(e|e|e)
  .omega
  .have:=f p e;omega
  .rw[e,hr]at n;cases n
 have h:=u.B4 n W
 have g2:g≠p:=λe=>by
  obtain⟨c,m⟩:=T.D5 rfl;rw[e,h]at m;cases m
 have x:∀q,q<w4.heap.size->V.ownBlock≠J q->g≠q:=λq hq hn e=>by
  rcases s with s|s
  .exact hn (e▸s)
  .omega
 refine⟨hk,D P,aF d hk.size,_,_,h1,⟨T,?_⟩,?_⟩
 .intro q e;cases e;exact s.elim (λe=>D (S.2 _ e)) (λm=>ao ⟨bo H.size m,T.lt rfl⟩)
 .have m:∀q,(F q/\q≠l/\V.ownBlock≠J q)->Since F w w' q/\q≠l/\(ai (g,off) (k+1) cap).ownBlock≠J q:=λq C=>⟨D C.1,C.2.1,λe=>by
   cases e;exact x g (a7 (d g C.1) H.size) C.2.2 rfl⟩
  have y:=(ht.A0 (ag (λ_=>False) H) (λ_ _=>id)).A0 u (λq C=>by
   rintro(e|e|e)
   .exact C.2.1 e
   .exact C.2.2 e
   .have:=d q C.1;omega)
  refine eF.L7 ((y.B3 k).mono m) ?_;subst hz;refine .list p j (b.drop k) (a.drop k) ⟨ao ⟨hp,ar h⟩,by omega,λe=>g2 (by cases e;rfl)⟩ h ⟨hi.A0 u ?_,?_⟩ ((ht.M7 k).1) ?_
  .intro q e;rintro(r|r|r)
   .have:=o q e;omega
   .have:=f q r;have:=o q e;omega
   .exact hi.ne hr (by decide) (e.trans (congrArg J r))
  .intro q e;have B:=hi.lt e;have hq:=o q e;exact⟨ao ⟨hq,a7 B u.size⟩,by omega,λr=>x q B (λe3=>by have:=f q e3;omega) (by cases r;rfl)⟩
  .intro i v t B r;exact((y.M7 k).mono m).2 i v t B r
def aHl(w:O)(b n:Nat)(V:U)(h:w.heap[b]?=J (Z #[V] 195 (0,0)))(P:O->O->Prop)(f:M (∀w1,Y w w w1->ac G 196 #[ah b,Q #[I N 5,K X,I ae 0,"",n,()]] w1 λe w'=>(∃v,e=L v)/\P w1 w')):
 ac G 175 #[ah b,Q #[I N 5,K X,I ae 0,"",n,()]] w λe w'=>(∃v,e=L v)/\∃w1,Y w w w1/\P w1 w':=by
 have a:Y w w (w.alloc (Z #[I N 5,K X,I ae 0,"",n,()] 147)):=(dk _ _).alloc (hU _) _;obtain⟨i,j,o,k,m,l,-⟩:=bJ (aL w (Z #[I N 5,K X,I ae 0,"",n,()] 147));have c:=A a;clear a h;go_enter cw,cz;go_wp2
 go_region_with (go_at_call 196;refine(f.o _ c.o.drew).mono ?_;rintro e w2 ⟨⟨v,rfl⟩,d⟩)
 all_goals
  have g:=A d;clear d;go_wp2;go_ret;exact⟨⟨_,rfl⟩,_,c.o.drew,g.o⟩
def tW(w:O)(b n:Nat)(V:U)(h:w.heap[b]?=J (Z #[V] 195 (0,0)))(P:O->O->Prop)(c:M (∀w1,Y w w w1->ac G 196 #[ah b,Q #[I N 5,K X,I ae 0,"",n,()]] w1 λe w'=>(∃v,e=L v)/\P w1 w')):
 ac G 173 #[ah b,n] w λe w'=>(∃v,e=L v)/\∃w1,Y w w w1/\P w1 w':=by
 have d:=A (aHl w b n V h P c);clear c h;go_enter func173,ntmps173;go_wp2_with fail;refine(d.o).mono ?_;rintro e w2 ⟨⟨v,rfl⟩,a⟩;have f:=A a;clear a;go_wp2;go_ret;exact⟨⟨_,rfl⟩,f.o⟩
def aEM(F:Nat->Prop)(w:O)(f:Nat)(a:List Tr)(n:Nat)(h:cN F w f a)(u:∀t∈a,t.A9.B9=E)(B:a.length<=65536):
 ac G 173 #[ah f,n] w λe w'=>(∃v,e=L v)/\Keeps F w w'/\cN (Since F w w') w' f (eI a n):=by
 have H:=h;obtain⟨R,r,V,b,q,z,y⟩:=h;have s:=y.1;have g:∀w',Y w w w'->Keeps F w w'/\cN (Since F w w') w' f a:=λw' l=>⟨ag F l,(H.B8 (ag (λ_=>False) l) (λ_ _=>id)).mono (λk P=>D P) (aF r l.size)⟩;have o:∀w1,Y w w w1->Win 97 id w1 V b:=λw1 c=>z.1.A0 (ag (λ_=>False) c) (λ_ _=>id);by_cases j:a.length<n
 .have i:eI a n=a:=by unfold eI;rw[pz j]
  rw[i];refine(tW w f n V q (λw1 w'=>Y w1.heap.size w1 w') (A λw1 c=>aCP w1 f n V b (keep q c) (o w1 c) (by omega))).mono ?_;rintro e w' ⟨x,w1,c,p⟩;exact⟨x,g _ (chain c p)⟩
 .have m:(bs (a.drop (b.length-n))).A9=fY 0 ((a.drop (b.length-n)).map av):=gU _;by_cases d:(bs (a.drop (b.length-n))).A9.B9=E
  .have i:eI a n=a.take (b.length-n)++ [bs (a.drop (b.length-n))]:=by
    unfold eI fZ;rw[py j,<-s,pz d]
   rw[i];refine(tW w f n V q (λw1 w'=>jY w1 f V b (b.length-n) (fY 0 ((a.drop (b.length-n)).map av)) w') (A λw1 c=>(aEL w1 _ f n V b a (keep q c) (o w1 c) (y.A0 (ag (λ_=>False) c) (λ_ _=>id)) u B (by omega) (by rw[<-m];exact d)).mono (λe w' h=>⟨⟨_,h.1⟩,h.2⟩))).mono ?_;rintro e w' ⟨x,w1,c,C⟩;exact⟨x,(C.U2 c).M0 R r z y m.symm⟩
  .have i:eI a n=a:=by
    unfold eI fZ;rw[py j,<-s,py d]
   rw[i];refine(tW w f n V q (λw1 w'=>Y w1.heap.size w1 w') (A λw1 c=>aBy w1 _ f n V b a (keep q c) (o w1 c) (y.A0 (ag (λ_=>False) c) (λ_ _=>id)) u B (by omega) (by rw[<-m];simpa using d))).mono ?_;rintro e w' ⟨x,w1,c,p⟩;exact⟨x,g _ (chain c p)⟩
def aHm(w:O):ac G 213 #[Q #[I N 1,K X,I ae 0,"",I N 0,()]] w λe w'=>e=L (K E)/\Y w w w':=by
 go_enter du,dv;go_wp2;go_ret;exact⟨rfl,(dk _ _).alloc (hU _) _⟩
def aJl(w:O)(b:Nat)(V:U)(a:List U)(x:w.heap[b]?=J (Z #[V] 195 (0,0)))(c:Win 97 id w V a)(W:a.length<=1048576):
 ac G 214 #[ah b,aj 177 (Q #[])] w λe w'=>e=L (di #[])/\eW w b V a 177 (Q #[]) w':=by
 have hm:∀w:O,(method 565 177 (Q #[]) "affidavit/node.sized").run G w=.ok (343,Q #[]) w:=λ_=>by kernel_rfl
 have z:=A (xE w);have B:=A (λw=>kS w 1 0 1 (by decide));have C:=A c;have H:=A x;have l:=A (c.ne x (by decide));obtain⟨m,n,o⟩:=c.A8;clear x c;subst o;go_enter func214,ntmps214;go_wp2_with fail;refine(z.o).mono ?_;rintro e w1 ⟨rfl,c⟩;have q:=A c;clear c;go_wp2_with fail;refine(B.o _).mono ?_;rintro e w2 ⟨rfl,c⟩;have f:=chain q.o c;have h:=keep H.o f;have r:=bg h;have s:=A h;have y:=A f;have i:=ar h;have d:Win 97 id (w2.alloc (Z #[aj 177 (Q #[])] 97)) (ai m a.length n) a:=(C.o.A0 (ag (λ_=>False) f) (λ_ _=>id)).A0 (F:=λ_=>False) ((bj _ w2).A5 _) (λ_ _=>id);have P:=A d;clear c f h d;go_wp2_with (at_builtin;refine dE sA rfl _ _ rfl rfl P.o w2 1 (aj 177 (Q #[])) rfl ?_ rfl ?_ ?_ ?_)
 .exact fQ rfl
 .omega
 .unfold eh;omega
 intro g off cap w' c f h;have d:=(h.block b (by simp;omega) (λe=>l.o e.symm)).trans ((de w2 _ _ i).trans s.o);have t:=A (c.ne d (by decide));have u:=A (show(ai m a.length n).ownBlock=J g\/w.heap.size<=g from f.elim D (λx=>ao (bo y.o.size (bo (by simp) x.1))));have R:=A (((ag (λk=>k=b\/(ai m a.length n).ownBlock=J k) y.o).A5 (Z #[aj 177 (Q #[])] 97)).G0 h (λk e=>D (ao e)));have j:=A c;have S:=bg d;have T:=bw d;have v:=A d;clear d c f h r;go_wp2;go_end0;have c:Keeps (λk=>k=b) w' (w'.setCell b (ai (g,off) (a.length+1) cap)):=(bj (λk=>k=b) w').A3 (p:=b) (D rfl) _;exact⟨rfl,g,off,cap,aB v.o _,j.o.A0 c (λk e d=>t.o (e.trans (congrArg J d))),u.o,R.o.A3 (p:=b) (D (D rfl)) _⟩
def aLa(w:O)(b:Nat)(V:U)(a:List U)(d:w.heap[b]?=J (Z #[V] 195 (0,0)))(c:Win 97 id w V a)(m:a.length<=1048576):
 ac G 196 #[ah b,Q #[I N 1,K X,I ae 0,"",I N 0,()]] w λe w'=>e=L az/\eW w b V a 177 (Q #[]) w':=by
 have n:=A (λw=>aHm w);have i:=ar d;have o:=A (λw'(l:Y w.heap.size w w')=>aJl w' b V a (keep d l) (c.A0 (ag (λ_=>False) l) (λ_ _=>id)) m);have j:=A (λk(p:V.ownBlock=J k)=>c.lt p);clear d c
 go_enter_defers bx,bz
 go_wp2_with fail;refine(n.o _).mono ?_;rintro e w1 ⟨rfl,c⟩;obtain⟨g1,h,d,q⟩:=after2 c;obtain⟨t,u,v,x,y,z,B⟩:=bJ g1;have r:=A h;have g:=A d;clear c g1 h d;go_wp2_with fail;refine(dT _ 2).mono ?_;rintro e w2 ⟨rfl,rfl⟩;go_wp2_with fail;refine(o.o _ g.o).mono ?_;rintro e C ⟨rfl,d⟩;obtain⟨F,H,c,s⟩:=d.I9 g.o (lh _) r.o j.o i az;have h:=A c;clear d c;go_wp2_with fail;refine lg (f:=211) (args:= #[ah (J ⟨w.heap.size+1,0,af⟩)]) (by simp) (by simp[go_sem]) ?_;refine(gF ⟨w.heap.size+1,0,af⟩ _).mono ?_;rintro e P d ⟨rfl,rfl,rfl⟩;have c:=h.o;simp[cj,co,bh,oe,go_sem,s];exact c
def aHn(w:O)(b:Nat)(V:U)(a:List U)(h:w.heap[b]?=J (Z #[V] 195 (0,0)))(k:Win 97 id w V a)(v:a.length<=1048576)(i:a.length<65536):
 ac G 175 #[ah b,Q #[I N 1,K X,I ae 0,"",I N 0,()]] w λe w'=>e=L az/\eW w b V a 177 (Q #[]) w':=by
 have d:Y w w (w.alloc (Z #[I N 1,K X,I ae 0,"",I N 0,()] 147)):=(dk _ _).alloc (hU _) _;have x:=A (λw1(m:Y w w w1)=>aLa w1 b V a (keep h m) (k.A0 (ag (λ_=>False) m) (λ_ _=>id)) v);have S:=bg h;have t:=ar h;obtain⟨F,B,j⟩:=k.A8;
 have n:¬(65536:Int)<=(a.length:Int):=by omega
 obtain⟨z,C,T,H,R,P,-⟩:=bJ (aL w (Z #[I N 1,K X,I ae 0,"",I N 0,()] 147));have c:=A d;clear h k i d;subst j;go_enter cw,cz;go_wp2
 go_region_with (go_at_call 196;refine(x.o _ c.o.drew).mono ?_;rintro e w2 ⟨rfl,f⟩)
 all_goals
  obtain⟨g,off,cap,p,l,q,o⟩:=f;have u:=A p;have y:=A l;have r:=A q;have s:=A o;clear p l q o;go_wp2;go_ret;exact⟨rfl,g,off,cap,u.o,y.o,r.o.elim D (λh=>ao (bo (by simp) h)),(ag _ c.o.drew).same s.o⟩
def xJ(w:O)(b:Nat)(V:U)(a:List U)(h:w.heap[b]?=J (Z #[V] 195 (0,0)))(i:Win 97 id w V a)(j:65536<=a.length):
 ac G 175 #[ah b,Q #[I N 1,K X,I ae 0,"",I N 0,()]] w λe w'=>(∃v,e=L v)/\Y w w w':=by
 have c:Y w w (w.alloc (Z #[I N 1,K X,I ae 0,"",I N 0,()] 147)):=(dk _ _).alloc (hU _) _;have o:=bg h;have k:=ar h;obtain⟨n,m,d⟩:=i.A8;have g:(65536:Int)<=(a.length:Int):=by omega
 obtain⟨l,-,-,-,-,-,-⟩:=bJ (aL w (Z #[I N 1,K X,I ae 0,"",I N 0,()] 147));have f:=A c;clear h i c;subst d;go_enter cw,cz;go_wp2;go_ret;exact⟨⟨_,rfl⟩,f.o⟩
def aEN(F:Nat->Prop)(w:O)(i:Nat)(a:List Tr)(h:cN F w i a)(B:a.length<=1048576):
 ac G 152 #[ah i] w λe w'=>(∃v,e=L v)/\Keeps F w w'/\cN (Since F w w') w' i (bB a bk):=by
 have r:=h;obtain⟨s,f,V,c,o,n,p⟩:=h;have m:=p.1;by_cases b:65536<=a.length
 .have d:bB a bk=a:=by unfold bB;rw[pz b]
  rw[d];have u:=A (xJ w i V c o n.1 (by omega));have x:=A r;have q:=A f;clear r o n p m b d s f;go_enter func152,ntmps152;go_wp2_with fail;refine(u.o).mono ?_;rintro e w1 ⟨⟨v,rfl⟩,l⟩;have j:=A l;clear l;go_wp2;go_ret;exact⟨⟨_,rfl⟩,ag F j.o,(x.o.B8 (ag (λ_=>False) j.o) (λ_ _=>id)).mono (λk z=>D z) (aF q.o j.o.size)⟩
 .have d:bB a bk=a++ [bk]:=by unfold bB pA;rw[py b];simp[av,fc]
  rw[d];have u:=A (aHn w i V c o n.1 (by omega) (by omega));have y:=A (λw'(h:eW w i V c 177 (Q #[]) w')=>h.M0 (t:=bk) s f n p (λ_ _=>.null));clear r o n p m b d s f;go_enter func152,ntmps152;go_wp2_with fail;refine(u.o).mono ?_;rintro e w1 ⟨rfl,g⟩;have j:=A (y.o _ g);clear g;go_wp2;go_ret;exact⟨⟨_,rfl⟩,j.o.1,j.o.2⟩
def aHo(w:O)(c:Bool):ac G 213 #[Q #[I N 2,c,I ae 0,"",I N 0,()]] w λe w'=>e=L (K E)/\Y w w w':=by
 cases c
 all_goals
  go_enter du,dv;go_wp2;go_ret;exact⟨rfl,(dk _ _).alloc (hU _) _⟩
def aJm(w:O)(b:Nat)(V:U)(a:List U)(c:Bool)(y:w.heap[b]?=J (Z #[V] 195 (0,0)))(d:Win 97 id w V a)(hl:a.length<=1048576):
 ac G 214 #[ah b,aj 178 (K c)] w λe w'=>e=L (di #[])/\eW w b V a 178 (K c) w':=by
 have hm:∀w:O,(method 565 178 (K c) "affidavit/node.sized").run G w=.ok (345,K c) w:=λ_=>by kernel_rfl
 have B:=A (xF w c);have C:=A (λw=>kS w 1 0 1 (by decide));have P:=A d;have H:=A y;have m:=A (d.ne y (by decide));obtain⟨n,o,q⟩:=d.A8;clear y d;subst q;go_enter func214,ntmps214;go_wp2_with fail;refine(B.o).mono ?_;rintro e w1 ⟨rfl,d⟩;have r:=A d;clear d;go_wp2_with fail;refine(C.o _).mono ?_;rintro e w2 ⟨rfl,d⟩;have h:=chain r.o d;have i:=keep H.o h;have s:=bg i;have t:=A i;have z:=A h;have j:=ar i;have f:Win 97 id (w2.alloc (Z #[aj 178 (K c)] 97)) (ai n a.length o) a:=(P.o.A0 (ag (λ_=>False) h) (λ_ _=>id)).A0 (F:=λ_=>False) ((bj _ w2).A5 _) (λ_ _=>id);have R:=A f;clear d h i f;go_wp2_with (at_builtin;refine dE sA rfl _ _ rfl rfl R.o w2 1 (aj 178 (K c)) rfl ?_ rfl ?_ ?_ ?_)
 .exact fQ rfl
 .omega
 .unfold eh;omega
 intro g off cap w' d h i;have f:=(i.block b (by simp;omega) (λe=>m.o e.symm)).trans ((de w2 _ _ j).trans t.o);have u:=A (d.ne f (by decide));have v:=A (show(ai n a.length o).ownBlock=J g\/w.heap.size<=g from h.elim D (λy=>ao (bo z.o.size (bo (by simp) y.1))));have S:=A (((ag (λk=>k=b\/(ai n a.length o).ownBlock=J k) z.o).A5 (Z #[aj 178 (K c)] 97)).G0 i (λk e=>D (ao e)));have l:=A d;have T:=bg f;have W:=bw f;have x:=A f;clear f d h i s;go_wp2;go_end0;have d:Keeps (λk=>k=b) w' (w'.setCell b (ai (g,off) (a.length+1) cap)):=(bj (λk=>k=b) w').A3 (p:=b) (D rfl) _;exact⟨rfl,g,off,cap,aB x.o _,l.o.A0 d (λk e f=>u.o (e.trans (congrArg J f))),v.o,S.o.A3 (p:=b) (D (D rfl)) _⟩
def aLb(w:O)(b:Nat)(V:U)(a:List U)(c:Bool)(g:w.heap[b]?=J (Z #[V] 195 (0,0)))(d:Win 97 id w V a)(n:a.length<=1048576):
 ac G 196 #[ah b,Q #[I N 2,c,I ae 0,"",I N 0,()]] w λe w'=>e=L az/\eW w b V a 178 (K c) w':=by
 have o:=A (λw=>aHo w c);have j:=ar g;have p:=A (λw'(m:Y w.heap.size w w')=>aJm w' b V a c (keep g m) (d.A0 (ag (λ_=>False) m) (λ_ _=>id)) n);have l:=A (λk(q:V.ownBlock=J k)=>d.lt q);clear g d
 go_enter_defers bx,bz
 go_wp2_with fail;refine(o.o _).mono ?_;rintro e w1 ⟨rfl,d⟩;obtain⟨g1,i,g,r⟩:=after2 d;obtain⟨u,v,x,y,z,B,C⟩:=bJ g1;have s:=A i;have h:=A g;clear d g1 i g;go_wp2_with fail;refine(dT _ 2).mono ?_;rintro e w2 ⟨rfl,rfl⟩;go_wp2_with fail;refine(p.o _ h.o).mono ?_;rintro e F ⟨rfl,g⟩;obtain⟨H,P,d,t⟩:=g.I9 h.o (lh _) s.o l.o j az;have i:=A d;clear g d;go_wp2_with fail;refine lg (f:=211) (args:= #[ah (J ⟨w.heap.size+1,0,af⟩)]) (by simp) (by simp[go_sem]) ?_;refine(gF ⟨w.heap.size+1,0,af⟩ _).mono ?_;rintro e R g ⟨rfl,rfl,rfl⟩;have d:=i.o;simp[cj,co,bh,oe,go_sem,t];exact d
def aHp(w:O)(b:Nat)(V:U)(a:List U)(c:Bool)(h:w.heap[b]?=J (Z #[V] 195 (0,0)))(l:Win 97 id w V a)(x:a.length<=1048576)(j:a.length<65536):
 ac G 175 #[ah b,Q #[I N 2,c,I ae 0,"",I N 0,()]] w λe w'=>e=L az/\eW w b V a 178 (K c) w':=by
 have f:Y w w (w.alloc (Z #[I N 2,c,I ae 0,"",I N 0,()] 147)):=(dk _ _).alloc (hU _) _;have y:=A (λw1(n:Y w w w1)=>aLb w1 b V a c (keep h n) (l.A0 (ag (λ_=>False) n) (λ_ _=>id)) x);have T:=bg h;have u:=ar h;obtain⟨H,C,k⟩:=l.A8;
 have o:¬(65536:Int)<=(a.length:Int):=by omega
 obtain⟨B,F,W,P,S,R,-⟩:=bJ (aL w (Z #[I N 2,c,I ae 0,"",I N 0,()] 147));have d:=A f;clear h l j f;subst k;go_enter cw,cz;go_wp2
 go_region_with (go_at_call 196;refine(y.o _ d.o.drew).mono ?_;rintro e w2 ⟨rfl,i⟩)
 all_goals
  obtain⟨g,off,cap,q,m,r,p⟩:=i;have v:=A q;have z:=A m;have s:=A r;have t:=A p;clear q m r p;go_wp2;go_ret;exact⟨rfl,g,off,cap,v.o,z.o,s.o.elim D (λh=>ao (bo (by simp) h)),(ag _ d.o.drew).same t.o⟩
def xK(w:O)(b:Nat)(V:U)(a:List U)(c:Bool)(h:w.heap[b]?=J (Z #[V] 195 (0,0)))(j:Win 97 id w V a)(k:65536<=a.length):
 ac G 175 #[ah b,Q #[I N 2,c,I ae 0,"",I N 0,()]] w λe w'=>(∃v,e=L v)/\Y w w w':=by
 have d:Y w w (w.alloc (Z #[I N 2,c,I ae 0,"",I N 0,()] 147)):=(dk _ _).alloc (hU _) _;have p:=bg h;have l:=ar h;obtain⟨o,n,g⟩:=j.A8;have i:(65536:Int)<=(a.length:Int):=by omega
 obtain⟨m,-,-,-,-,-,-⟩:=bJ (aL w (Z #[I N 2,c,I ae 0,"",I N 0,()] 147));have f:=A d;clear h j d;subst g;go_enter cw,cz;go_wp2;go_ret;exact⟨⟨_,rfl⟩,f.o⟩
def aEO(F:Nat->Prop)(w:O)(j:Nat)(a:List Tr)(c:Bool)(h:cN F w j a)(C:a.length<=1048576):
 ac G 153 #[ah j,c] w λe w'=>(∃v,e=L v)/\Keeps F w w'/\cN (Since F w w') w' j (bB a (dh c)):=by
 have s:=h;obtain⟨u,g,V,d,p,o,q⟩:=h;have n:=q.1;by_cases b:65536<=a.length
 .have f:bB a (dh c)=a:=by unfold bB;rw[pz b]
  rw[f];have x:=A (xK w j V d c p o.1 (by omega));have y:=A s;have r:=A g;clear s p o q n b f u g;go_enter func153,ntmps153;go_wp2_with fail;refine(x.o).mono ?_;rintro e w1 ⟨⟨v,rfl⟩,m⟩;have l:=A m;clear m;go_wp2;go_ret;exact⟨⟨_,rfl⟩,ag F l.o,(y.o.B8 (ag (λ_=>False) l.o) (λ_ _=>id)).mono (λk B=>D B) (aF r.o l.o.size)⟩
 .have f:bB a (dh c)=a++ [dh c]:=by unfold bB pA;rw[py b];simp[av,fc]
  rw[f];have x:=A (aHp w j V d c p o.1 (by omega) (by omega));have z:=A (λw'(h:eW w j V d 178 (K c) w')=>h.M0 (t:=dh c) u g o q (λ_ _=>.flag _));clear s p o q n b f u g;go_enter func153,ntmps153;go_wp2_with fail;refine(x.o).mono ?_;rintro e w1 ⟨rfl,i⟩;have l:=A (z.o _ i);clear i;go_wp2;go_ret;exact⟨⟨_,rfl⟩,l.o.1,l.o.2⟩
def qM(d:Array zX):(gM d).size=d.size:=
 (fd (ltOf vV) rW d 0 d.size (fe d.size) E E (dr _) (hU _) (D rfl)).1.1
def aEP(d:Array zX):(gM d).toList.Perm d.toList:=by
 have h:=(fd (ltOf vV) rW d 0 d.size (fe d.size) E E (dr _) (hU _) (D rfl)).1;have a:=h.2.2;have c:d.extract 0 d.size=d:=fh;have e:(gM d).extract 0 d.size=gM d:=by rw[<-qM d];exact fh
 rw[c]at a;have b:((gM d).extract 0 d.size).toList.Perm d.toList:=a;rw[e]at b;exact b
def aJn(w:O)(g off cap:Nat)(a:List zX)(v:Win 9 encS w (ai (g,off) a.length cap) (a.map (·.1)))(P:a.length<=1048576):
 ac G 239 #[ai (g,off) a.length cap,.func (.func 240) #[] #[]] w λe w'=>e=L (di #[])/\Win 9 encS w' (ai (g,off) a.length cap) ((gM a.toArray).toList.map (·.1))/\Keeps (λk=>k=g) w w':=by
 rcases v with⟨n,_⟩|⟨R,s,t,d,n,f,z,B,C,hi⟩
 .cases n
 .simp only[ga,ll,gd]at n;obtain⟨⟨rfl,rfl,_⟩,_,rfl⟩:=n;rw[kt]at z
  have F:Sort.Holds encR w g off a.toArray:=by
   intro j h;have b:j<a.length:=(by simpa using h);have c:=hi j (a[j]).1 (by rw[ed,bf b];rfl);refine⟨?_,free_at f _⟩;rw[aA f,c];simp[encR,encS,b]
  have u:=aJc g off cap a.toArray w F (ar f) (by simp;omega);rw[List.size_toArray]at u;refine u.mono ?_;rintro e w' ⟨rfl,m,p,rfl⟩;have b:(gM a.toArray).size=a.length:=by rw[qM];simp
  have q:=ar f
  have h:(dj encR w g off m (gM a.toArray) p).heap[g]?=J (Z (ej encR off (gM a.toArray) d) 9 (0,0)):=by
   unfold dj ek em eo ep;show(w.heap.modify g _++p)[g]?=_;rw[fk (by simpa using q),fm,pz rfl,f];rfl
  refine⟨rfl,ao ⟨g,off,cap,_,?_,h,?_,?_,?_,?_⟩,?_⟩
  .simp[b]
  .simp[b];omega
  .simpa[ej]using B
  .exact C
  .intro i x c;rw[ed]at c;cases o:(gM a.toArray).toList[i]? with
   | none=>rw[o]at c;cases c
   | some y=>
    rw[o]at c;cases c;have H:i<a.length:=by have:=(bt.1 o).1;simpa[b]using this
    have r:(gM a.toArray)[i]! =y:=by
     have l:(gM a.toArray)[i]?=J y:=(by simpa using o);rw[getElem!_def,l]
    have l:off+i<d.size:=(by omega);unfold ej;rw[Array.getElem?_mapIdx,Array.getElem?_eq_getElem l,Option.map_some,pz ⟨by omega,by rw[b];omega⟩,show off+i-off=i by omega,r];rfl
  .refine⟨rfl,rfl,rfl,?_,λk c l=>?_⟩
   .unfold dj ek em eo ep;simp
   .unfold dj ek em eo ep;show(w.heap.modify g _++p)[k]?=_;rw[fk (by simpa using c),fm,py (λe=>l e.symm)]
def bK(keys:List (List UInt8)):Prop:=∀k∈keys,aV k=E/\k.length<=2097152
instance (keys:List (List UInt8)):Decidable (bK keys):=by unfold bK;infer_instance
def qA(keys:List (List UInt8))(h:bK keys):List zX:=keys.attach.map λk=>⟨k.1,h k.1 k.2⟩
def aAM(keys:List Oo)(h:bK keys):(qA keys h).map (·.1)=keys:=by
 unfold qA;rw[List.map_map];exact(List.attach_map_val (f:=id) (l:=keys)).trans (List.map_id _)
def mU(keys:List Oo)(h:bK keys):(qA keys h).length=keys.length:=by
 unfold qA;rw[kt,List.length_attach]
def dC(keys:List (List UInt8)):List (List UInt8):=if h:bK keys then(gM (qA keys h).toArray).toList.map (·.1)else keys
def oD(h:bK keys):dC keys=(gM (qA keys h).toArray).toList.map (·.1):=by unfold dC;rw[dif_pos h]
def fL(keys:List Oo):(dC keys).Perm keys:=by
 by_cases h:bK keys
 .rw[oD h];have:=(aEP (qA keys h).toArray).map (·.1);rw[show((qA keys h).toArray.toList).map (·.1)=keys from aAM keys h]at this;exact this
 .unfold dC;rw[dif_neg h]
def besides(keys:List (List UInt8))(l:List Tr):List Tr:=(dC keys).map λk=>l.getD (keys.idxOf k) bk
def po(a:List Tr)(keys:List (List UInt8)):List Tr:=
 if a.length<keys.length then a else fZ a keys.length (et (dC keys) (besides keys (a.drop (a.length-keys.length))))
def aEQ(a:keys.Nodup){i:Nat}{k:Oo}(h:keys[i]?=J k):keys.idxOf k=i:=by
 obtain⟨hi,rfl⟩:=bt.1 h;exact a.idxOf_getElem i hi
def aBz{l:List Tr}(a:keys.Nodup)(c:l.length=keys.length):(besides keys l).Perm l:=by
 have b:=(fL keys).map (λk=>l.getD (keys.idxOf k) bk);refine b.trans (ge ?_);apply List.ext_getElem
 .simp[c]
 .intro i b d;rw[List.getElem_map];rw[aEQ a (bf (by omega))];rw[List.getD_eq_getElem?_getD,bf d];rfl
def aCQ{bytes:Nat}{l a:List Sz}(h:l.Perm a):cT bytes l=cT bytes a:=by
 unfold cT;refine h.foldl_eq' (λx _ y _ z=>?_) _;simp only[Sz.mk.injEq];omega
def aBA{l a:List Oo}(h:l.Perm a):bD l=bD a:=by
 unfold bD;refine h.foldl_eq' (λx _ y _ z=>?_) _;omega
def mV{l:List Tr}(a:keys.Nodup)(b:l.length=keys.length):(et (dC keys) (besides keys l)).A9=fY (bD keys) (l.map av):=by
 rw[hZ,lA,lA,aBA (fL keys),aCQ ((aBz a b).map av)]
def sF(l:List Oo)(k:Oo):bD (l++ [k])=bD l+k.length:=by
 unfold bD;rw[List.foldl_append];rfl
def aBB{l:List Oo}{k:Oo}(h:l[i]?=J k):bD (l.take (i+1))=bD (l.take i)+k.length:=by
 rw[List.take_add_one,h];exact sF _ _
def over(l:List UInt8):Nat:=(l.takeWhile isD).length
def bR(l:List UInt8):Bool:=match l with
 | c::_=>isD c
 | []=>X
def iC(t:List UInt8):Nat:=match t with
 | d::_=>if d=43\/d=45 then 1 else 0
 | []=>0
def jA(n:Nat)(l:List UInt8):Nat×Bool:=match l with
 | c::t=>if c=101\/c=69 then(if bR (t.drop (iC t))then(n+1+iC t+over (t.drop (iC t)),E)else(n+1+iC t,X))else(n,E)
 | []=>(n,E)
def dP(n:Nat)(l:List UInt8):Nat×Bool:=match l with
 | c::t=>if c=46 then(if bR t then jA (n+1+over t) (t.drop (over t))else(n+1,X))else jA n (c::t)
 | []=>(n,E)
def dQ(n:Nat)(l:List UInt8):Nat×Bool:=match l with
 | c::t=>if isD c then(if c=48 then dP (n+1) t else dP (n+over (c::t)) ((c::t).drop (over (c::t))))else(n,X)
 | []=>(n,X)
def dB(l:List UInt8):Nat×Bool:=match l with
 | c::t=>if c=45 then dQ 1 t else dQ 0 (c::t)
 | []=>(0,X)
inductive Pc(α:Type)|cut|bad(no at_:Nat)|ok(a:α)
def gV(a:Bool)(k n v:Nat):Bool:=if a then(if k=0 then decide (v≠13)else if k=1 then decide (v<12)else X)else(decide (k=1)&&decide (n=13)&&decide (12<=v))
def cX(a:Bool):Nat->Nat->List UInt8->Pc Nat
 | 0,n,_=>.ok n
 | _+1,_,[]=>.cut
 | m+1,n,c::l=>match hexOf c with
  | none=>.bad (if a then 93 else 92) (3-m)
  | some v=>if gV a (3-m) n v then .bad 93 (3-m)else cX a m (16*n+v) l
def Pc.M6{c b:Type}(k:Nat)(f:c->Pc b):Pc c->Pc b
 | .cut=>.cut
 | .bad no a=>.bad no (k+a)
 | .ok a=>f a
def qN(n:Nat)(l:List UInt8):Pc (List UInt8×Nat):=match l with
 | []=>.cut
 | c::t=>if c=92 then(match t with
  | []=>.cut
  | d::u=>if d=117 then(cX E 4 0 u).M6 8 λm=>.ok (aT (65536+(n-55296)*1024+m-56320),12)else .bad 93 7)
  else .bad 93 6
def jG(l:List UInt8):Pc (List UInt8×Nat):=match l with
 | []=>.cut
 | c::t=>if c=117 then(cX X 4 0 t).M6 2 λn=>if n<55296\/56319<n then .ok (aT n,6)else qN n (t.drop 4)
  else match cO c with
   | none=>.bad 92 1
   | some b=>.ok ([b],2)
def cJ(f:Form):Nat->Nat->List UInt8->Pc Nat
 | 0,i,_=>.ok i
 | _+1,_,[]=>.cut
 | m+1,i,c::t=>if f.D4 i c then cJ f m (i+1) t else .bad 90 i
def eC(l:List UInt8):Pc Nat:=match l with
 | []=>.cut
 | c::t=>if(aC c).wide=0 then .bad 90 0 else cJ (aC c) ((aC c).wide-1) 1 t
def eX(l:List UInt8):Pc (List UInt8×Nat):=match l with
 | []=>.cut
 | c::t=>if c=92 then jG t else if c.toNat<32 then .bad 91 0 else(eC (c::t)).M6 0 λn=>.ok ((c::t).take n,n)
def cM(b:List UInt8)(i:Nat)(l:List UInt8):Pc (List UInt8×Nat):=match l with
 | []=>.cut
 | c::t=>if c=34 then .ok (b,i+1)else match eX (c::t)with
  | .cut=>.cut
  | .bad no a=>.bad no (i+a)
  | .ok x=>cM (b++x.1) (i+x.2) (t.drop (x.2-1))
termination_by l.length
decreasing_by simp_wf;omega
structure RFr where
 object:Bool
 a:List (List UInt8)
 c:List Tr
structure Rr where
 b:Nat
 e:List RFr
 g:Nat
 bytes:Nat
 done:Tr
def Rr.C5(r:Rr)(t:Tr):Rr:=match r.e.getLast? with
 | none=>{r with done:=t,b:=6}
 | some f=>{r with e:=r.e.dropLast++ [{f with c:=f.c++ [t]}],b:=5}
inductive Ra|on(n:Nat)(r:Rr)|cut|bad(no at_:Nat)
def Rr.D4(r:Rr)(a:Nat):Except Nat Rr:=
 if r.b≠0/\r.b≠1 then bu 120 else if a<=r.e.length then bu 121 else if 65536<=r.g then bu 3 else .ok {r with g:=r.g+1}
def Rr.E6(r:Rr)(a:Nat)(f:Rr->Ra):Ra:=match r.D4 a with
 | .error no=>.bad no 0
 | .ok r=>f r
def madeOf(f:RFr):Tr:=if f.object then et (dC f.a) (besides f.a f.c)else bs f.c
def Rr.L8(r:Rr):Rr:=match r.e.getLast? with
 | none=>r
 | some f=>Rr.C5 {r with e:=r.e.dropLast} (madeOf f)
def Rr.E4(r:Rr):Bool:=match r.e.getLast? with
 | some f=>f.object
 | none=>X
def Rr.F9(r:Rr):Bool:=match r.e.getLast? with
 | some f=>!f.object
 | none=>X
def Rr.C7(r:Rr)(a:Nat)(c:UInt8):Ra:=
 if c=91\/c=123 then r.E6 a λr=>.on 1 {r with e:=r.e++ [⟨c==123,[],[]⟩],b:=if c=123 then 2 else 1}
 else if c=58/\r.b=4 then .on 1 {r with b:=0}
 else if c=44/\r.b=5/\r.E4=E then .on 1 {r with b:=3}
 else if c=44/\r.b=5/\r.F9=E then .on 1 {r with b:=0}
 else if c=93/\r.F9=E/\(r.b=5\/r.b=1)\/c=125/\r.E4=E/\(r.b=5\/r.b=2)then .on 1 r.L8
 else .bad 120 0
def Rr.D8(r:Rr):List (List UInt8):=match r.e.getLast? with
 | some f=>f.a
 | none=> []
def Rr.N1(r:Rr)(s:List UInt8):Rr:=match r.e.getLast? with
 | some f=>{r with e:=r.e.dropLast++ [{f with a:=f.a++ [s]}],b:=4}
 | none=>r
def Rr.D9(r:Rr):Bool:=r.b=2||r.b=3
def Rr.J8(r:Rr)(l:List UInt8):Ra:=match cM [] 1 l with
 | .cut=>.cut
 | .bad no a=>.bad no a
 | .ok (s,n)=>
  if r.D9=E/\s∈r.D8 then .bad 101 0
  else if 2097152<r.bytes+s.length then .bad 3 0
  else if r.D9 then .on n (Rr.N1 {r with bytes:=r.bytes+s.length} s)else .on n (Rr.C5 {r with bytes:=r.bytes+s.length} (.text s))
def Rr.E7(r:Rr)(a:Nat)(l:List UInt8):Ra:=if r.D9 then r.J8 l else r.E6 a λr=>r.J8 l
def alike:List UInt8->List UInt8->Nat
 | x::a,y::b=>if x=y then alike a b+1 else 0
 | _,_=>0
def Rr.M8(r:Rr)(a:Nat)(w l:List UInt8):Ra:=r.E6 a λr=>
 if alike w l<w.length/\alike w l<l.length then .bad 120 (alike w l)else if alike w l<w.length then .cut else .on (alike w l) (r.C5 (jE w))
def Rr.L4(r:Rr)(a:Nat)(l:List UInt8):Ra:=r.E6 a λr=>
 if(dB l).2=X/\(dB l).1<l.length then .bad 120 (dB l).1
 else if(dB l).2=X then .cut
 else match bitsOf (l.take (dB l).1)with
  | none=>.bad 41 0
  | some b=>.on (dB l).1 (r.C5 (.num (dW b)))
def Rr.B5(r:Rr)(a:Nat)(c:UInt8)(t:List UInt8):Ra:=
 if aY c then r.C7 a c
 else if c=34 then r.E7 a t
 else if aH c≠ []then r.M8 a (aH c) (c::t)
 else if c=45\/isD c=E then r.L4 a (c::t)
 else .bad 120 0
def Rr.F5(b:Nat)(r:Rr)(i:Nat)(l:List UInt8):Except (Nat×Nat) Tr:=match l with
 | []=>if r.b=6 then .ok r.done else bu (95,i)
 | c::t=>if aI c then Rr.F5 b r (i+1) t else match r.B5 b c t with
  | .cut=>bu (95,i+(t.length+1))
  | .bad no a=>bu (no,i+a)
  | .on n d=>Rr.F5 b d (i+n) (t.drop (n-1))
termination_by l.length
decreasing_by all_goals(simp_wf;try omega)
def jR(l:List UInt8)(a:Nat):Except (Nat×Nat) Tr:=Rr.F5 a ⟨0,[],0,0,bk⟩ 0 l
def oX(w:O)(b:Nat)(a:U)(l:List UInt8)(c:U->Array U)(e:Ending)(w':O):Prop:=e=L (I N 0)/\∃g off cap,w'.heap[b]?=J (Z (c (ai (J ⟨g,off,af⟩) l.length cap)) 228 (0,0))/\
 Win 5 bZ w' (ai (J ⟨g,off,af⟩) l.length cap) l/\(a.ownBlock=J g\/w.heap.size<=g)/\Keeps (λk=>k=b\/a.ownBlock=J k) w w'
def aDJ(w:O)(b s:Nat)(v o q j r l k x m p n u t:U)(a:UInt8)(h:w.heap[b]?=J (Z #[v,o,q,j,r,l,k,s,x,m,p,n,u,t] 228 (0,0)))(c:s<=8)
 (f:aR s a=af)(g:bL s=X):
 ac G 139 #[ah b,I .u8 a.toNat] w λe w'=>e=L (I N 94)/\w'=w:=by
 obtain⟨H,c1,c2,S,P,T,W,C,z,B,F,R,y,cd,V⟩:=aN h;have d:=A (tG s c a);have i:=A (lM s c);rw[f]at d;rw[g]at i;clear h f g c;go_enter func139,ntmps139;go_wp2_with fail;refine(d.o _).mono ?_;rintro e w1 ⟨rfl,rfl⟩;go_wp2_with fail;refine(i.o _).mono ?_;rintro e w1 ⟨rfl,rfl⟩;go_wp2;go_ret;exact⟨rfl,rfl⟩
def rE(w:O)(b s j:Nat)(z B C P R S T V W vb vc vd a:U)(h:UInt8)(l:Oo)(r:w.heap[b]?=J (Z #[z,B,C,P,R,S,a,s,T,V,W,vb,vc,vd] 228 (0,0)))(i:s<=8)
 (n:aR s h=J j)(d:Win 5 bZ w a l)(hl:l.length<=1073741824):
 ac G 139 #[ah b,I .u8 h.toNat] w λe w'=>oX w b a (l++ [h]) (λv=> #[z,B,C,P,R,S,v,j,T,V,W,vb,vc,vd]) e w':=by
 obtain⟨c0,c1,c2,c3,c4,c5,c6,c7,c8,c9,ca,cb,cc,cd,cf⟩:=aN r;have HN:=A (tG s i h);rw[n]at HN;have m:=A (d.ne r (by decide));have f:=aB r (o:=7) (I N j);simp only[List.setIfInBounds_toArray,List.set_cons_zero,List.set_cons_succ]at f;have H:=A f;have h1:=ar r;obtain⟨ta,tc,t⟩:=d.A8;have c:Win 5 bZ ((w.setCell ⟨b,7,af⟩ (I N j)).alloc (Z #[bZ h] 5)) a l:=d.A0 (F:=λk=>k=b) (((bj (λk=>k=b) w).A3 (p:=⟨b,7,af⟩) (D rfl) _).A5 _) (λk e u=>m.o (e.trans (congrArg J u)));have HR:=A c;clear r f n i d c;subst t;go_enter func139,ntmps139;go_wp2_with fail;refine(HN.o _).mono ?_;rintro e w1 ⟨rfl,rfl⟩;go_wp2_with (at_builtin;refine dE nY rfl _ _ rfl rfl HR.o w1 1 h rfl ?_ rfl ?_ ?_ ?_)
 .exact fQ (aJe _ _ _).symm
 .omega
 .unfold eh;omega
 intro g off cap w' c f i;have d:=(i.block b (by simp;omega) (λe=>m.o e.symm)).trans ((de _ _ _ (ar H.o)).trans H.o);have x:=A (c.ne d (by decide));have n:(ai ta l.length tc).ownBlock=J g\/w1.heap.size<=g:=f.elim D (λr=>ao (bo (by first|exact hU _|simp[World.setCell]) r.1));have y:=A n;have HK:=A ((((bj (λk=>k=b\/(ai ta l.length tc).ownBlock=J k) w1).A3 (p:=⟨b,7,af⟩) (D (D rfl)) (I N j)).A5 (Z #[bZ h] 5)).G0 i (λk e=>D (ao e)));have q:=A c;obtain⟨-,-,-,-,-,-,d6,-,-,-,-,-,-,-,df⟩:=aN d;have HB:=A d;clear d c n f i c0 c1 c2 c3 c4 c5 c6 c7 c8 c9 ca cb cc cd cf;go_wp2;go_ret;refine⟨rfl,g,off,cap,?_,?_,y.o,HK.o.A3 (p:=⟨b,6,af⟩) (D (D rfl)) _⟩
 .rw[cn];exact aB HB.o _
 .rw[cn];exact q.o.A0 ((bj (λk=>k=b) w').A3 (p:=⟨b,6,af⟩) (D rfl) _) (λk e u=>x.o (e.trans (congrArg J u)))
def bE{p:Addr}{v:U}(h:Y w w w')(a:w.cell? p=J v):w'.cell? p=J v:=(h.cell (World.block_lt_of_cell? _ _ a)).trans a
def sT(h:Y n w.drew w'):Y n w w':=⟨h.os,h.tape,h.output,h.size,h.block⟩
def fA(h:Y w.drew w.drew w'):Y w w w':=⟨h.os,h.tape,h.output,h.size,h.block⟩
def qW(h:Y n w w1):Y n w (w1.drewN k):=⟨h.os,h.tape,h.output,h.size,h.block⟩
def m8(h:Y n w w1):Y n w w1.drew:=⟨h.os,h.tape,h.output,h.size,h.block⟩
def bA(h:i<s.size):s.data.toList.drop i=s[i]::s.data.toList.drop (i+1):=by
 have a:i<s.data.toList.length:=by simpa using h
 rw[List.drop_eq_getElem_cons a];rfl
def cY(h:¬i<s.size):s.data.toList.drop i= []:=List.drop_eq_nil_of_le (by simpa using h)
def aJo(c:UInt8):isD c=(decide (48<=c.toNat)&&decide (c.toNat<=57)):=rfl
def aER(h:bR (s.data.toList.drop k)=E):k<s.size/\over (s.data.toList.drop k)=over (s.data.toList.drop (k+1))+1:=by
 have a:k<s.size:=pj λe=>by rw[cY e]at h;cases h
 refine⟨a,?_⟩;rw[bA a]at h⊢;have h:isD s[k]=E:=h;unfold over;rw[oj,pz h,List.length_cons]
def aGE(h:bR (s.data.toList.drop k)=X):over (s.data.toList.drop k)=0:=by
 by_cases a:k<s.size
 .rw[bA a]at h⊢;have h:isD s[k]=X:=h;unfold over;rw[oj,py (by rw[h];decide)];rfl
 .rw[cY a];rfl
def qO(w:O)(s:ByteArray)(i:Nat):ac G 89 #[s,i] w λe w'=>e=L (K (bR (s.data.toList.drop i)))/\w'=w:=by
 by_cases h:i<s.size
 .have a:bR (s.data.toList.drop i)=isD s[i]:=by rw[bA h];rfl
  rw[a,aJo];have b:(i:Int)<(s.size:Int):=by omega
  by_cases a1:48<=s[i].toNat
  .have b1:(48:Int)<=((s[i].toNat:Nat):Int):=(by omega);by_cases a2:s[i].toNat<=57
   .have b2:((s[i].toNat:Nat):Int)<=57:=(by omega);rw[decide_eq_true a1,decide_eq_true a2];go_enter dl,dm;go_wp2;go_ret;exact⟨rfl,rfl⟩
   .have b2:¬((s[i].toNat:Nat):Int)<=57:=(by omega);rw[decide_eq_true a1,decide_eq_false a2];go_enter dl,dm;go_wp2;go_ret;exact⟨rfl,rfl⟩
  .have b1:¬(48:Int)<=((s[i].toNat:Nat):Int):=(by omega);rw[decide_eq_false a1];go_enter dl,dm;go_wp2;go_ret;exact⟨rfl,rfl⟩
 .have a:bR (s.data.toList.drop i)=X:=by rw[cY h];rfl
  rw[a];have b:¬(i:Int)<(s.size:Int):=by omega
  go_enter dl,dm;go_wp2;go_ret;exact⟨rfl,rfl⟩
def aHq(w:O)(s:ByteArray)(i:Nat)(hi:i<=s.size)(l:s.size<=2147483648):ac G 119 #[s,i] w λe w'=>e=L (I N ((i+over (s.data.toList.drop i):Nat):Int))/\w'=w:=by
 obtain⟨r,c⟩:∃r,i+over (s.data.toList.drop i)=r:=⟨_,rfl⟩;rw[c];have h:=A (λW k=>qO W s k);go_enter func119,ntmps119;go_wp2;go_loopw [1] (λv wr=>∃k:Nat,v=I N k/\k<=s.size/\k+over (s.data.toList.drop k)=r/\w=wr) (λv _=>s.size-(dp v).toNat)
 case atStart=>exact⟨i,rfl,hi,c,rfl⟩
 case round=>
  obtain⟨k,rfl,-,a,rfl⟩:=hrel;have d:=A a;clear a;go_wp2_with fail;refine(h.o _ _).mono ?_;rintro e w1 ⟨rfl,rfl⟩;cases b:bR (s.data.toList.drop k)with
  | true=>
   obtain⟨j,f⟩:=aER b;have g:=d.o;have m:N.wrap ((k:Int)+1)=(k:Int)+1:=(by rw[b9];omega);clear b;go_wp2_with fail;exact⟨⟨k+1,by go_num,by omega,by omega,trivial⟩,by simp[dp];omega⟩
  | false=>
   have f:=aGE b;have g:=d.o;obtain rfl:k=r:=(by omega);clear b;go_wp2;go_ret;exact⟨rfl,rfl⟩
def uZ(w:O)(s:ByteArray)(i:Nat):ac G 162 #[s,i] w λe w'=>e=L (K (bR (s.data.toList.drop i)))/\w'=w:=by
 by_cases h:i<s.size
 .have a:bR (s.data.toList.drop i)=isD s[i]:=by rw[bA h];rfl
  rw[a,aJo];have b:(i:Int)<(s.size:Int):=by omega
  by_cases a1:48<=s[i].toNat
  .have b1:(48:Int)<=((s[i].toNat:Nat):Int):=(by omega);by_cases a2:s[i].toNat<=57
   .have b2:((s[i].toNat:Nat):Int)<=57:=(by omega);rw[decide_eq_true a1,decide_eq_true a2];go_enter dq,dt;go_wp2;go_ret;exact⟨rfl,rfl⟩
   .have b2:¬((s[i].toNat:Nat):Int)<=57:=(by omega);rw[decide_eq_true a1,decide_eq_false a2];go_enter dq,dt;go_wp2;go_ret;exact⟨rfl,rfl⟩
  .have b1:¬(48:Int)<=((s[i].toNat:Nat):Int):=(by omega);rw[decide_eq_false a1];go_enter dq,dt;go_wp2;go_ret;exact⟨rfl,rfl⟩
 .have a:bR (s.data.toList.drop i)=X:=by rw[cY h];rfl
  rw[a];have b:¬(i:Int)<(s.size:Int):=by omega
  go_enter dq,dt;go_wp2;go_ret;exact⟨rfl,rfl⟩
def aES(w:O)(s:ByteArray)(i:Nat)(hi:i<=s.size)(l:s.size<=2147483648):ac G 161 #[s,i] w λe w'=>e=L (I N ((i+over (s.data.toList.drop i):Nat):Int))/\w'=w:=by
 obtain⟨r,c⟩:∃r,i+over (s.data.toList.drop i)=r:=⟨_,rfl⟩;rw[c];have h:=A (λW k=>uZ W s k);go_enter func161,ntmps161;go_wp2;go_loopw [1] (λv wr=>∃k:Nat,v=I N k/\k<=s.size/\k+over (s.data.toList.drop k)=r/\w=wr) (λv _=>s.size-(dp v).toNat)
 case atStart=>exact⟨i,rfl,hi,c,rfl⟩
 case round=>
  obtain⟨k,rfl,-,a,rfl⟩:=hrel;have d:=A a;clear a;go_wp2_with fail;refine(h.o _ _).mono ?_;rintro e w1 ⟨rfl,rfl⟩;cases b:bR (s.data.toList.drop k)with
  | true=>
   obtain⟨j,f⟩:=aER b;have g:=d.o;have m:N.wrap ((k:Int)+1)=(k:Int)+1:=(by rw[b9];omega);clear b;go_wp2_with fail;exact⟨⟨k+1,by go_num,by omega,by omega,trivial⟩,by simp[dp];omega⟩
  | false=>
   have f:=aGE b;have g:=d.o;obtain rfl:k=r:=(by omega);clear b;go_wp2;go_ret;exact⟨rfl,rfl⟩
def aKj(w:O)(b:Nat)(a:b<18446744073709551616):ac G 145 #[I ae b] w λe w'=>e=L (Q #[I N 3,K X,I ae (dW b:Nat),"",(),()])/\Y w w w':=by
 by_cases h:b=9223372036854775808
 .have e:dW b=0:=by unfold dW;rw[pz h]
  rw[e];have q:((b:Int)==9223372036854775808)=E:=by simp;omega
  clear e h;go_enter func145,ntmps145;go_wp2_with fail;exact bb (v:=Q #[I N 3,K X,I ae 0,"",(),()]) (by simp[bh,fz,go_sem]) rfl ⟨rfl,(dk _ _).alloc (hU _) _⟩
 .have e:dW b=b:=by unfold dW;rw[py h]
  rw[e];have q:((b:Int)==9223372036854775808)=X:=by simp;omega
  clear e h;go_enter func145,ntmps145;go_wp2_with fail;exact bb (v:=Q #[I N 3,K X,I ae b,"",(),()]) (by simp[bh,fz,go_sem]) rfl ⟨rfl,(dk _ _).alloc (hU _) _⟩
