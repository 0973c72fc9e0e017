/-
  The program, one part of its walk. Conditions: none.
-/
import Derived.Test.YtakkmiomhackiaaGreatDoorTd12
set_option linter.all false
set_option maxRecDepth 100000
set_option maxHeartbeats 16000000
open Go.Proofs.Tryz
open Bool renaming false->af,true->ak
open Go renaming Calls->ai,Leaves->bw,Value->U,World->X,cell_of_one->av,free_of_one->bm,heap_alloc_new->bg,leaves_cons->bu,lt_of_block->bc,results->bh,settle->bx,wpOpsS->dh,wpS_region->cz
open Go.Ending renaming returned->ag
open Go.Exit renaming thenS->dl
open Go.FrameMode renaming panicking->dj
open Go.IntKind renaming i64->J,u64->E
open Go.Obj renaming cells->Y
open Go.Proofs.Tryz renaming func175->ck,func196->bp,func213->cu,ntmps175->co,ntmps196->bs,ntmps213->cv,prog->G,results196->bz
open Go.Proofs.YtakkmiomhackiaaGreatDoor.Keeps renaming A1->K,A3->bk
open Go.Proofs.YtakkmiomhackiaaGreatDoor.Sz renaming C3->dt
open Go.Proofs.YtakkmiomhackiaaGreatDoor.Tr renaming A7->aw,flag->ct,list->cj,null->cr
open Go.RowKit renaming Below->Z
open Go.RowKit.Below renaming heap_alloc->dq,refl->az
open Go.Value renaming agg->H,bool->W,iface->aj,int->I,nilIface->ar,pointer->ae,slice->V,string->ac,tuple->cw
open List renaming getElem?_eq_getElem->dm,length_drop->cg,mem_of_mem_drop->di
open Nat renaming le_refl->ba,le_succ->bj,le_trans->au,lt_of_lt_of_le->dp
open Option renaming none->N,some->O
open Or renaming inl->ah,inr->ao
namespace Go.Proofs.YtakkmiomhackiaaGreatDoor
open Go.RowKit
theorem sI(w:X)(n:Nat):ai G 213 #[H #[I J 5,W af,I E 0,ac ⟨#[]⟩,I J n,V N 0 0]] w λe w'=>e=ag (W ak)/\Z w.heap.size w w':=by
 have a:(((n:Nat):Int)==0)=ak\/(((n:Nat):Int)==0)=af:=by cases h:(((n:Nat):Int)==0)<;>simp
 have b:(0:Int)<=(n:Int):=by omega
 rcases a with a|a
 all_goals
  go_enter cu,cv;go_wp2;go_ret;exact⟨rfl,(az _ _).alloc (ba _) _⟩
theorem lT(p:Addr)(x:U)(no:Nat)(a:List PanicEntry)(w:X)(d:w.cell? p=O x)(g:w.frozen? p=af):
 CallsD G 211 #[ae (O p)] (dj ({v:=aj 29 (I J no),recovered:=af}::a)) w λe f w'=>
  e=ag (cw #[])/\f=dj ({v:=aj 29 (I J no),recovered:=ak}::a)/\w'=w.setCell p (aj 29 (I J no)):=by
 have b:∀w:X,(Instr.typeAssert (aj 29 (I J no)) 20 29 af).run G w=.ok (I J no) w:=λ_=>by kernel_rfl
 refine callsD_of_wpS func211 rfl λh i c=>?_
 apply wpS_seq;apply cz;simp[dh,go_sem,recoverD,c,ntmps211,dl,Array.replicate];apply wpS_seq;apply cz;simp[dh,go_sem,recoverD,c,dl];refine wpS_cond (t:=ak) (by simp[Act.eval]) ?_;simp only[if_true];apply cz;simp[dh,go_sem,d,g,b,bodyPostS,bh,results211]
def aDu(w:X)(b:Nat)(c:U)(a:List U)(k:Nat)(T:TypeId)(v:U)(R:Nat)(w':X):Prop:=
 ∃g off cap,w'.heap[b]?=O (Y #[V (O ⟨g,off,N⟩) (k+1) cap] 195 (0,0))/\Win 97 id w' (V (O ⟨g,off,N⟩) (k+1) cap) (a.take k++ [aj T v])/\(c.ownBlock=O g\/w.heap.size<=g)/\Keeps (λq=>q=b\/c.ownBlock=O q\/q=R) w w'
theorem jL.I7{w w1 w2:X}{b:Nat}{t:U}{c:List U}{k:Nat}{T:TypeId}{v:U}{R:Nat}{n:U}(s:w.heap.size<=R)(i:w1.heap[R]?=O (Y #[n] 26 (0,0)))(j:∀k,t.ownBlock=O k->k<w.heap.size)(o:b<w.heap.size)(h:jL w1 b t c k T v w2)(u:U):
 w2.cell? ⟨R,0,N⟩=O n/\w2.frozen? ⟨R,0,N⟩=af/\aDu w1 b t c k T v R (w2.setCell ⟨R,0,N⟩ u)/\(w2.setCell ⟨R,0,N⟩ u).cell? ⟨R,0,N⟩=O u:=by
 obtain⟨g,off,cap,q,l,r,m⟩:=h
 have f:¬(R=b\/t.ownBlock=O R):=by
  rintro(e|e)
  .omega
  .have:=j R e;omega
 have a:=m.C4 i f;have d:Keeps (λk=>k=R) w2 (w2.setCell ⟨R,0,N⟩ u):=(bk (λk=>k=R) w2).A2 (p:=⟨R,0,N⟩) (ah rfl) _;refine⟨av a,bm a,⟨g,off,cap,(aE u (by omega)).trans q,?_,r,(m.A6 λk e=>e.imp id ah).B8 (d.A6 λk e=>ao (ao e))⟩,?_⟩
 .exact l.A0 d (λk e d=>l.ne a (by decide) (e.trans (congrArg O d)))
 .rw[aA (aB a u)];rfl
def jM(w:X)(b:Nat)(e:U)(c:List U)(k:Nat)(z:Sz)(w':X):Prop:=
 ∃(d:X)(R p:Nat)(a:U),Z w.heap.size w d/\w.heap.size<=R/\d.heap[R]?=O (Y #[ar] 26 (0,0))/\w.heap.size<=p/\d.heap[p]?=O (Y #[I J z.nodes,I J z.bytes,I J z.depth,a] 186 (0,0))/\
  Win 97 id d a (c.drop k)/\(∀q,a.ownBlock=O q->w.heap.size<=q)/\aDu d b e c k 181 (ae (O ⟨p,0,N⟩)) R w'
theorem jM.R6{w w1 w':X}{b:Nat}{s:U}{c:List U}{k:Nat}{z:Sz}(d:Z w.heap.size w w1)(h:jM w1 b s c k z w'):jM w b s c k z w':=by
 obtain⟨f,R,p,a,j,g,o,i,m,r,l,n⟩:=h;exact⟨f,R,p,a,d.trans (j.mono d.size),au d.size g,o,au d.size i,m,r,λq e=>au d.size (l q e),n⟩
theorem tD{bytes:Nat}{l:List Sz}(h:∀z∈l,z.C3=ak)(a:l.length<=65536)(b:bytes<=1073741824):(fX bytes l).nodes<=4611686018427387904/\(fX bytes l).bytes<=4611686018427387904/\(fX bytes l).depth<=4611686018427387904:=by
 have:=qV (bytes:=bytes) h;rw[kT];exact⟨by show(cP bytes l).nodes<=_;omega,by show(cP bytes l).bytes<=_;omega,by show(cP bytes l).depth+1<=_;omega⟩
theorem aBH(w:X)(b n:Nat)(S:U)(a:List U)(h:w.heap[b]?=O (Y #[S] 195 (0,0)))(r:Win 97 id w S a)(s:a.length<n):
 ai G 196 #[ae (O ⟨b,0,N⟩),H #[I J 5,W af,I E 0,ac ⟨#[]⟩,I J n,V N 0 0]] w λe w'=>(∃v,e=ag v)/\Z w.heap.size w w':=by
 have x:=L (λw=>sI w n);have z:=L (λw'(o:Z w.heap.size w w')=>aBG w' b n S a (keep h o) (r.A0 (K (λ_=>False) o) (λ_ _=>id)) s);clear h r s
 go_enter_defers bp,bs
 go_wp2_with fail;refine(x.o _).mono ?_;rintro e w1 ⟨rfl,i⟩;obtain⟨g1,q,d,t⟩:=after2 i;obtain⟨A,B,R,C,Q,F,P⟩:=bN g1;have u:=L q;have g:=L d;clear i g1 q d;go_wp2_with fail;refine(dQ _ 2).mono ?_;rintro e w2 ⟨rfl,rfl⟩;go_wp2_with fail;refine(z.o _ g.o).mono ?_;rintro e m ⟨rfl,rfl⟩;have j:=u;have k:=g;go_wp2_with fail;refine bu (f:=211) (args:= #[ae (O ⟨w.heap.size+1,0,N⟩)]) (by simp) (by simp[go_sem]) ?_;refine(lT ⟨w.heap.size+1,0,N⟩ ar 102 [] _ (av j.o) (bm j.o)).mono ?_;rintro e D y ⟨rfl,rfl,rfl⟩;have l:(m.setCell ⟨w.heap.size+1,0,N⟩ (aj 29 (I J 102))).cell? ⟨w.heap.size+1,0,N⟩=O (aj 29 (I J 102)):=by rw[aA (aB j.o _)];rfl
 have c:Z w.heap.size w (m.setCell ⟨w.heap.size+1,0,N⟩ (aj 29 (I J 102))):=k.o.setCell (p:=⟨w.heap.size+1,0,N⟩) (bj _) _;simp[bw,bx,bh,bz,go_sem,l];exact c
theorem dZ.L0{F:Nat->Prop}{w:X}{a:List U}{items:List Tr}(h:dZ F w a items):∀v∈a,v.oneCell'=ak:=by
 intro v c;obtain⟨i,hi,rfl⟩:=List.mem_iff_getElem.1 c;have b:i<items.length:=by have:=h.1;omega
 obtain⟨T,x,e⟩:=(h.2 i _ _ (dm hi) (dm b)).L5;rw[e];rfl
theorem dZ.L3{F:Nat->Prop}{w:X}{a:List U}{items:List Tr}(h:dZ F w a items)(k:Nat):dZ F w (a.drop k) (items.drop k):=by
 refine⟨by simp[h.1],λi v t b c=>?_⟩;rw[List.getElem?_drop]at b c;exact h.2 _ v t b c
theorem dZ.B0{F:Nat->Prop}{w:X}{a:List U}{items:List Tr}(h:dZ F w a items)(k:Nat):dZ F w (a.take k) (items.take k):=by
 refine⟨by simp[h.1],λi v t b c=>?_⟩;rw[List.getElem?_take]at b c;split at b
 .rename_i d;rw[if_pos d]at c;exact h.2 _ v t b c
 .cases b
theorem aAz(w:X)(F:Nat->Prop)(b n:Nat)(R:U)(a:List U)(items:List Tr)(r:w.heap[b]?=O (Y #[R] 195 (0,0)))(k:Win 97 id w R a)(g:dZ F w a items)(d:∀t∈items,t.A7.C3=ak)(o:items.length<=65536)(j:n<=a.length)(h:(fX 0 ((items.drop (a.length-n)).map aw)).C3=af):
 ai G 196 #[ae (O ⟨b,0,N⟩),H #[I J 5,W af,I E 0,ac ⟨#[]⟩,I J n,V N 0 0]] w λe w'=>(∃v,e=ag v)/\Z w.heap.size w w':=by
 have S:=L (λw=>sI w n);have T:=L j;have hvl:=g.1;have HT:=L (λw'(x:Z w.heap.size w w')=>uK w' b n R a (keep r x) (k.A0 (K (λ_=>False) x) (λ_ _=>id)) (by omega) g.L0 j);have HS:=L (λw'(x:Z w.heap.size w w') c(hi:Win 97 id w' c (a.drop (a.length-n)))=>mL F w' c (a.drop (a.length-n)) (items.drop (a.length-n)) 0 hi ((g.A0 (K (λ_=>False) x) (λ_ _=>id)).L3 _) (λt m=>d t (di m)) (by rw[cg];omega) (by decide));have i:=L (tD (bytes:=0) (l:=(items.drop (a.length-n)).map aw) (by intro z h;obtain⟨t,g,rfl⟩:=List.mem_map.1 h;exact d t (di g)) (by rw[List.length_map,cg];omega) (by decide));have y:=L h;clear r k j g d o h
 go_enter_defers bp,bs
 go_wp2_with fail;refine(S.o _).mono ?_;rintro e w1 ⟨rfl,d⟩;obtain⟨g1,k,g,hsz⟩:=after2 d;obtain⟨D,P,Q,q3,q4,q5,qf⟩:=bN g1;have G1:=L g1;have G2:=L k;have j:=L g;clear d g1 k g;go_wp2_with fail;refine(dQ _ 2).mono ?_;rintro e w2 ⟨rfl,rfl⟩;go_wp2_with fail;refine(HT.o _ j.o).mono ?_;rintro e w3 ⟨c,rfl,d,k,g⟩;have o:=chain j.o g;obtain⟨B,C,r⟩:=d.A8;obtain⟨p0,p1,p2,p3,p4,p5,pf⟩:=bN (keep G1.o g);have G3:=L (keep G2.o g);have s:=L o;have u:(a.drop (a.length-n)).length=n:=by rw[cg];have:=T.o;omega
 rw[u]at r;have HIT:=L (And.intro d (λq(e:c.ownBlock=O q)=>(⟨au j.o.size (k q e).1,(k q e).2⟩:w.heap.size<=q/\q<w3.heap.size)));have A:=L (HS.o _ s.o c d);clear d k g o u D P Q q3 q4 q5 qf;subst r;go_wp2_with fail;refine(A.o).mono ?_;rintro e D ⟨rfl,d⟩;have g:∀z:Sz,szV z=H #[I J z.nodes,I J z.bytes,I J z.depth]:=λ_=>rfl
 obtain⟨z,h⟩:∃z:Sz,fX 0 ((items.drop (a.length-n)).map aw)=z:=⟨_,rfl⟩;have o:=L h;rw[h,g];have k:=L (chain s.o d);have G4:=L (keep G3.o d);clear d h g;go_wp2_with fail;have P:=bg D (Y #[I J z.nodes,I J z.bytes,I J z.depth,V B n C] 186);have g:=k.o.alloc k.o.size (Y #[I J z.nodes,I J z.bytes,I J z.depth,V B n C] 186);refine(tZ _ b n D.heap.size z.nodes z.bytes z.depth _ _ P rfl rfl rfl (by have:=y.o;rw[o.o]at this;exact this) (by have:=i.o;rw[o.o]at this;exact this.1) (by have:=i.o;rw[o.o]at this;exact this.2.1) (by have:=i.o;rw[o.o]at this;exact this.2.2)).mono ?_;rintro e Q ⟨rfl,d⟩;have h:=L (keep (keep G4.o ((az _ _).alloc (ba _) _)) d);have u:=L (chain g d);clear P g d;go_wp2_with fail;refine bu (f:=211) (args:= #[ae (O ⟨w.heap.size+1,0,N⟩)]) (by simp) (by simp[go_sem]) ?_;refine(lT ⟨w.heap.size+1,0,N⟩ ar 3 [] _ (av h.o) (bm h.o)).mono ?_;rintro e u' P ⟨rfl,rfl,rfl⟩;have g:(Q.setCell ⟨w.heap.size+1,0,N⟩ (aj 29 (I J 3))).cell? ⟨w.heap.size+1,0,N⟩=O (aj 29 (I J 3)):=by rw[aA (aB h.o _)];rfl
 have d:Z w.heap.size w (Q.setCell ⟨w.heap.size+1,0,N⟩ (aj 29 (I J 3))):=u.o.setCell (p:=⟨w.heap.size+1,0,N⟩) (bj _) _;simp[bw,bx,bh,bz,go_sem,g];exact d
theorem aDv(w:X)(F:Nat->Prop)(b n:Nat)(B:U)(a:List U)(items:List Tr)(r:w.heap[b]?=O (Y #[B] 195 (0,0)))(h:Win 97 id w B a)(l:dZ F w a items)(g:∀t∈items,t.A7.C3=ak)(s:items.length<=65536)(o:n<=a.length)(i:(fX 0 ((items.drop (a.length-n)).map aw)).C3=ak):
 ai G 196 #[ae (O ⟨b,0,N⟩),H #[I J 5,W af,I E 0,ac ⟨#[]⟩,I J n,V N 0 0]] w λe w'=>e=ag ar/\jM w b B a (a.length-n) (fX 0 ((items.drop (a.length-n)).map aw)) w':=by
 have HU:=L (λw=>sI w n);have HN:=L o;have hvl:=l.1;have HT:=L (λw'(j:Z w.heap.size w w')=>uK w' b n B a (keep r j) (h.A0 (K (λ_=>False) j) (λ_ _=>id)) (by omega) l.L0 o);have HS:=L (λw'(j:Z w.heap.size w w') d(hi:Win 97 id w' d (a.drop (a.length-n)))=>mL F w' d (a.drop (a.length-n)) (items.drop (a.length-n)) 0 hi ((l.A0 (K (λ_=>False) j) (λ_ _=>id)).L3 _) (λt m=>g t (di m)) (by rw[cg];omega) (by decide));have C:=L i;have HV:=L (λk(e:B.ownBlock=O k)=>h.lt e);have D:=bc r;have HG:=L (λw' p z c S(j:Z w.heap.size w w') hp h0 h1 h2 i=>uA w' b n p (Sz.nodes z) (Sz.bytes z) (Sz.depth z) c S B a hp h0 h1 h2 i (keep r j) (h.A0 (K (λ_=>False) j) (λ_ _=>id)) (by omega) o);clear r h o l g s i
 go_enter_defers bp,bs
 go_wp2_with fail;refine(HU.o _).mono ?_;rintro e w1 ⟨rfl,g⟩;obtain⟨g1,o,h,hsz⟩:=after2 g;obtain⟨y,A,T,q3,q4,q5,qf⟩:=bN g1;have G1:=L g1;have G2:=L o;have l:=L h;clear g g1 o h;go_wp2_with fail;refine(dQ _ 2).mono ?_;rintro e w2 ⟨rfl,rfl⟩;go_wp2_with fail;refine(HT.o _ l.o).mono ?_;rintro e w3 ⟨d,rfl,g,o,h⟩;have r:=chain l.o h;obtain⟨P,Q,s⟩:=g.A8;obtain⟨p0,p1,p2,p3,p4,p5,pf⟩:=bN (keep G1.o h);have G3:=L (keep G2.o h);have u:=L r;have v:(a.drop (a.length-n)).length=n:=by rw[cg];have:=HN.o;omega
 rw[v]at s;have x:=L (And.intro g (λq(e:d.ownBlock=O q)=>(⟨au l.o.size (o q e).1,(o q e).2⟩:w.heap.size<=q/\q<w3.heap.size)));have R:=L (HS.o _ u.o d g);clear g o h r v y A T q3 q4 q5 qf;subst s;go_wp2_with fail;refine(R.o).mono ?_;rintro e y ⟨rfl,g⟩;have h:∀z:Sz,szV z=H #[I J z.nodes,I J z.bytes,I J z.depth]:=λ_=>rfl
 obtain⟨z,i⟩:∃z:Sz,fX 0 ((items.drop (a.length-n)).map aw)=z:=⟨_,rfl⟩;have HZ:=L i;rw[i,h];have o:=L (chain u.o g);have G4:=L (keep G3.o g);have T:=L (x.o.1.A0 (K (λ_=>False) g) (λ_ _=>id));clear g i h;go_wp2_with fail;have hx:=bg y (Y #[I J z.nodes,I J z.bytes,I J z.depth,V P n Q] 186);have i:=o.o.alloc o.o.size (Y #[I J z.nodes,I J z.bytes,I J z.depth,V P n Q] 186);refine(HG.o _ y.heap.size z _ _ i hx rfl rfl rfl (by have:=C.o;rw[HZ.o]at this;exact this)).mono ?_;rintro e w5 ⟨rfl,r⟩;have A:=(az y.heap.size y).alloc (ba _) (Y #[I J z.nodes,I J z.bytes,I J z.depth,V P n Q] 186);obtain⟨r0,rf,g,rc⟩:=r.I7 (bj _) (keep G4.o A) HV.o D ar
 have h:jM w b B a (a.length-n) (fX 0 ((items.drop (a.length-n)).map aw)) (w5.setCell ⟨w.heap.size+1,0,N⟩ ar):=by
  rw[HZ.o];exact⟨_,_,_,_,i,bj _,keep G4.o A,o.o.size,hx,T.o.A0 (K (λ_=>False) A) (λ_ _=>id),λq e=>(x.o.2 q e).1,g⟩
 have v:=L h;clear r g hx i A h;go_wp2_with fail;refine bu (f:=211) (args:= #[ae (O ⟨w.heap.size+1,0,N⟩)]) (by simp) (by simp[go_sem]) ?_;refine(gD ⟨w.heap.size+1,0,N⟩ _).mono ?_;rintro e i h ⟨rfl,rfl,rfl⟩;have g:=v.o;rw[List.map_drop]at g;simp[bw,bx,bh,bz,go_sem,rc];exact g
theorem jM.K9{F:Nat->Prop}{w w':X}{j:Nat}{C:U}{a:List U}{items:List Tr}{k:Nat}{z:Sz}(D:F j)(b:∀k,F k->k<w.heap.size)(P:fC F 97 id w C a)(ht:dZ (λk=>F k/\k≠j/\C.ownBlock≠O k) w a items)
 (hz:z=(cj (items.drop k)).A7)(A:jM w j C a k z w'):Keeps F w w'/\cI (Since F w w') w' j (items.take k++ [cj (items.drop k)]):=by
 obtain⟨w4,R,p,h,B,hR,hr,hp,m,hi,n,g,off,cap,h1,Q,r,s⟩:=A;have d:∀q,C.ownBlock=O q->q<w.heap.size:=λq e=>b q (P.2 q e)
 have hk:Keeps F w w':=(K F B).B9 s (λq e=>by
  rcases e with e|e|e
  .exact ah (e▸D)
  .exact ah (P.2 q e)
  .exact ao (e▸hR))
 have hmb:=b j D
 have S:¬(p=j\/C.ownBlock=O p\/p=R):=by
  rintro(e|e|e)
  .omega
  .have:=d p e;omega
  .rw[e,hr]at m;cases m
 have f:=s.C4 m S
 have T:g≠p:=λe=>by
  obtain⟨c,l⟩:=Q.E4 rfl;rw[e,f]at l;cases l
 have u:∀q,q<w4.heap.size->C.ownBlock≠O q->g≠q:=λq hq hn e=>by
  rcases r with r|r
  .exact hn (e▸r)
  .omega
 refine⟨hk,ah D,aF b hk.size,_,_,h1,⟨Q,?_⟩,?_⟩
 .intro q e;cases e;exact r.elim (λe=>ah (P.2 _ e)) (λl=>ao ⟨au B.size l,Q.lt rfl⟩)
 .have l:∀q,(F q/\q≠j/\C.ownBlock≠O q)->Since F w w' q/\q≠j/\(V (O ⟨g,off,N⟩) (k+1) cap).ownBlock≠O q:=λq A=>⟨ah A.1,A.2.1,λe=>by
   cases e;exact u g (dp (b g A.1) B.size) A.2.2 rfl⟩
  have x:=(ht.A0 (K (λ_=>False) B) (λ_ _=>id)).A0 s (λq A=>by
   rintro(e|e|e)
   .exact A.2.1 e
   .exact A.2.2 e
   .have:=b q A.1;omega)
  refine dZ.M6 ((x.B0 k).A6 l) ?_;subst hz;refine .list p h (a.drop k) (items.drop k) ⟨ao ⟨hp,bc f⟩,by omega,λe=>T (by cases e;rfl)⟩ f ⟨hi.A0 s ?_,?_⟩ ((ht.L3 k).1) ?_
  .intro q e;rintro(o|o|o)
   .have:=n q e;omega
   .have:=d q o;have:=n q e;omega
   .exact hi.ne hr (by decide) (e.trans (congrArg O o))
  .intro q e;have y:=hi.lt e;have hq:=n q e;exact⟨ao ⟨hq,dp y s.size⟩,by omega,λo=>u q y (λe3=>by have:=d q e3;omega) (by cases o;rfl)⟩
  .intro i v t y o;exact((x.L3 k).A6 l).2 i v t y o
theorem aF7(w:X)(b n:Nat)(p:U)(h:w.heap[b]?=O (Y #[p] 195 (0,0)))(P:X->X->Prop)(f:M (∀w1,Z w.heap.size w w1->ai G 196 #[ae (O ⟨b,0,N⟩),H #[I J 5,W af,I E 0,ac ⟨#[]⟩,I J n,V N 0 0]] w1 λe w'=>(∃v,e=ag v)/\P w1 w')):
 ai G 175 #[ae (O ⟨b,0,N⟩),H #[I J 5,W af,I E 0,ac ⟨#[]⟩,I J n,V N 0 0]] w λe w'=>(∃v,e=ag v)/\∃w1,Z w.heap.size w w1/\P w1 w':=by
 have a:Z w.heap.size w (w.alloc (Y #[I J 5,W af,I E 0,ac ⟨#[]⟩,I J n,V N 0 0] 147)):=(az _ _).alloc (ba _) _;obtain⟨i,j,o,k,m,l,-⟩:=bN (bg w (Y #[I J 5,W af,I E 0,ac ⟨#[]⟩,I J n,V N 0 0] 147));have c:=L a;clear a h;go_enter ck,co;go_wp2_with fail
 go_region_with (go_at_call 196;refine(f.o _ c.o.drew).mono ?_;rintro e w2 ⟨⟨v,rfl⟩,d⟩)
 all_goals
  have g:=L d;clear d;go_wp2_with fail;go_ret;exact⟨⟨_,rfl⟩,_,c.o.drew,g.o⟩
theorem sJ(w:X)(b n:Nat)(g:U)(h:w.heap[b]?=O (Y #[g] 195 (0,0)))(P:X->X->Prop)(c:M (∀w1,Z w.heap.size w w1->ai G 196 #[ae (O ⟨b,0,N⟩),H #[I J 5,W af,I E 0,ac ⟨#[]⟩,I J n,V N 0 0]] w1 λe w'=>(∃v,e=ag v)/\P w1 w')):
 ai G 173 #[ae (O ⟨b,0,N⟩),I J n] w λe w'=>(∃v,e=ag v)/\∃w1,Z w.heap.size w w1/\P w1 w':=by
 have d:=L (aF7 w b n g h P c);clear c h;go_enter func173,ntmps173;go_wp2_with fail;refine(d.o).mono ?_;rintro e w2 ⟨⟨v,rfl⟩,a⟩;have f:=L a;clear a;go_wp2_with fail;go_ret;exact⟨⟨_,rfl⟩,f.o⟩
theorem aDw(F:Nat->Prop)(w:X)(d:Nat)(items:List Tr)(n:Nat)(h:cI F w d items)(s:∀t∈items,t.A7.C3=ak)(z:items.length<=65536):
 ai G 173 #[ae (O ⟨d,0,N⟩),I J n] w λe w'=>(∃v,e=ag v)/\Keeps F w w'/\cI (Since F w w') w' d (eD items n):=by
 have B:=h;obtain⟨D,q,P,a,p,y,x⟩:=h;have r:=x.1;have f:∀w',Z w.heap.size w w'->Keeps F w w'/\cI (Since F w w') w' d items:=λw' j=>⟨K F j,(B.B6 (K (λ_=>False) j) (λ_ _=>id)).A6 (λk C=>ah C) (aF q j.size)⟩
 have m:∀w1,Z w.heap.size w w1->Win 97 id w1 P a:=λw1 b=>y.1.A0 (K (λ_=>False) b) (λ_ _=>id)
 by_cases i:items.length<n
 .have g:eD items n=items:=by unfold eD;rw[if_pos i]
  rw[g];refine(sJ w d n P p (λw1 w'=>Z w1.heap.size w1 w') (L λw1 b=>aBH w1 d n P a (keep p b) (m w1 b) (by omega))).mono ?_;rintro e w' ⟨u,w1,b,o⟩;exact⟨u,f _ (chain b o)⟩
 .have l:(cj (items.drop (a.length-n))).A7=fX 0 ((items.drop (a.length-n)).map aw):=jG _
  by_cases c:(cj (items.drop (a.length-n))).A7.C3=ak
  .have g:eD items n=items.take (a.length-n)++ [cj (items.drop (a.length-n))]:=by
    unfold eD fY;rw[if_neg i,<-r,if_pos c]
   rw[g];refine(sJ w d n P p (λw1 w'=>jM w1 d P a (a.length-n) (fX 0 ((items.drop (a.length-n)).map aw)) w') (L λw1 b=>(aDv w1 _ d n P a items (keep p b) (m w1 b) (x.A0 (K (λ_=>False) b) (λ_ _=>id)) s z (by omega) (by rw[<-l];exact c)).mono (λe w' h=>⟨⟨_,h.1⟩,h.2⟩))).mono ?_;rintro e w' ⟨u,w1,b,A⟩;exact⟨u,(A.R6 b).K9 D q y x l.symm⟩
  .have g:eD items n=items:=by
    unfold eD fY;rw[if_neg i,<-r,if_neg c]
   rw[g];refine(sJ w d n P p (λw1 w'=>Z w1.heap.size w1 w') (L λw1 b=>aAz w1 _ d n P a items (keep p b) (m w1 b) (x.A0 (K (λ_=>False) b) (λ_ _=>id)) s z (by omega) (by rw[<-l];simpa using c))).mono ?_;rintro e w' ⟨u,w1,b,o⟩;exact⟨u,f _ (chain b o)⟩
theorem aF8(w:X):ai G 213 #[H #[I J 1,W af,I E 0,ac ⟨#[]⟩,I J 0,V N 0 0]] w λe w'=>e=ag (W ak)/\Z w.heap.size w w':=by
 go_enter cu,cv;go_wp2;go_ret;exact⟨rfl,(az _ _).alloc (ba _) _⟩
theorem aH0(w:X)(b:Nat)(z:U)(a:List U)(x:w.heap[b]?=O (Y #[z] 195 (0,0)))(c:Win 97 id w z a)(S:a.length<=1048576):
 ai G 214 #[ae (O ⟨b,0,N⟩),aj 177 (H #[])] w λe w'=>e=ag (cw #[])/\eS w b z a 177 (H #[]) w':=by
 have T:∀w:X,(method 565 177 (H #[]) "affidavit/node.sized").run G w=.ok (343,H #[]) w:=λ_=>by kernel_rfl
 have A:=L (vE w);have B:=L (λw=>kI w 1 0 1 (by decide));have C:=L c;have a0:=L x;have l:=L (c.ne x (by decide));obtain⟨m,n,o⟩:=c.A8;clear x c;subst o;go_enter func214,ntmps214;go_wp2_with fail;refine(A.o).mono ?_;rintro e w1 ⟨rfl,c⟩;have q:=L c;clear c;go_wp2_with fail;refine(B.o _).mono ?_;rintro e w2 ⟨rfl,c⟩;have f:=chain q.o c;have h:=keep a0.o f;have r:=av h;have s:=L h;have y:=L f;have i:=bc h;have d:Win 97 id (w2.alloc (Y #[aj 177 (H #[])] 97)) (V m a.length n) a:=(C.o.A0 (K (λ_=>False) f) (λ_ _=>id)).A0 (F:=λ_=>False) ((bk _ w2).A4 _) (λ_ _=>id);have D:=L d;clear c f h d
 go_wp2_with (at_builtin;refine cW qQ rfl _ _ rfl rfl D.o ⟨w2.heap.size,0,N⟩ 1 (aj 177 (H #[])) rfl ?_ rfl ?_ ?_ ?_)
 .exact fN rfl
 .omega
 .unfold maxLen;omega
 intro g off cap w' c f h;have d:=(h.block b (by simp;omega) (λe=>l.o e.symm)).trans ((dq w2 _ _ i).trans s.o);have t:=L (c.ne d (by decide));have u:=L (show(V m a.length n).ownBlock=O g\/w.heap.size<=g from f.elim ah (λx=>ao (au y.o.size (au (by simp) x.1))));have P:=L (((K (λk=>k=b\/(V m a.length n).ownBlock=O k) y.o).A4 (Y #[aj 177 (H #[])] 97)).F9 h (λk e=>ah (ao e)));have j:=L c;have Q:=av d;have R:=bm d;have v:=L d;clear d c f h r;go_wp2_with fail
 go_end0
 have c:Keeps (λk=>k=b) w' (w'.setCell ⟨b,0,N⟩ (V (O ⟨g,off,N⟩) (a.length+1) cap)):=(bk (λk=>k=b) w').A2 (p:=⟨b,0,N⟩) (ah rfl) _;exact⟨rfl,g,off,cap,aB v.o _,j.o.A0 c (λk e d=>t.o (e.trans (congrArg O d))),u.o,P.o.A2 (p:=⟨b,0,N⟩) (ah (ah rfl)) _⟩
theorem aJO(w:X)(b:Nat)(l:U)(a:List U)(d:w.heap[b]?=O (Y #[l] 195 (0,0)))(c:Win 97 id w l a)(n:a.length<=1048576):
 ai G 196 #[ae (O ⟨b,0,N⟩),H #[I J 1,W af,I E 0,ac ⟨#[]⟩,I J 0,V N 0 0]] w λe w'=>e=ag ar/\eS w b l a 177 (H #[]) w':=by
 have o:=L (λw=>aF8 w);have i:=bc d;have p:=L (λw'(m:Z w.heap.size w w')=>aH0 w' b l a (keep d m) (c.A0 (K (λ_=>False) m) (λ_ _=>id)) n);have j:=L (λk(q:l.ownBlock=O k)=>c.lt q);clear d c
 go_enter_defers bp,bs
 go_wp2_with fail;refine(o.o _).mono ?_;rintro e w1 ⟨rfl,c⟩;obtain⟨g1,h,d,r⟩:=after2 c;obtain⟨u,v,x,y,z,A,B⟩:=bN g1;have s:=L h;have g:=L d;clear c g1 h d;go_wp2_with fail;refine(dQ _ 2).mono ?_;rintro e w2 ⟨rfl,rfl⟩;go_wp2_with fail;refine(p.o _ g.o).mono ?_;rintro e C ⟨rfl,d⟩;obtain⟨D,F,c,t⟩:=d.I7 g.o (bj _) s.o j.o i ar;have h:=L c;clear d c;go_wp2_with fail;refine bu (f:=211) (args:= #[ae (O ⟨w.heap.size+1,0,N⟩)]) (by simp) (by simp[go_sem]) ?_;refine(gD ⟨w.heap.size+1,0,N⟩ _).mono ?_;rintro e P d ⟨rfl,rfl,rfl⟩;have c:=h.o;simp[bw,bx,bh,bz,go_sem,t];exact c
theorem aF9(w:X)(b:Nat)(S:U)(a:List U)(h:w.heap[b]?=O (Y #[S] 195 (0,0)))(k:Win 97 id w S a)(v:a.length<=1048576)(i:a.length<65536):
 ai G 175 #[ae (O ⟨b,0,N⟩),H #[I J 1,W af,I E 0,ac ⟨#[]⟩,I J 0,V N 0 0]] w λe w'=>e=ag ar/\eS w b S a 177 (H #[]) w':=by
 have d:Z w.heap.size w (w.alloc (Y #[I J 1,W af,I E 0,ac ⟨#[]⟩,I J 0,V N 0 0] 147)):=(az _ _).alloc (ba _) _;have x:=L (λw1(m:Z w.heap.size w w1)=>aJO w1 b S a (keep h m) (k.A0 (K (λ_=>False) m) (λ_ _=>id)) v);have Q:=av h;have t:=bc h;obtain⟨C,A,j⟩:=k.A8;
 have n:¬(65536:Int)<=(a.length:Int):=by omega
 obtain⟨z,B,R,D,P,F,-⟩:=bN (bg w (Y #[I J 1,W af,I E 0,ac ⟨#[]⟩,I J 0,V N 0 0] 147));have c:=L d;clear h k i d;subst j;go_enter ck,co;go_wp2_with fail
 go_region_with (go_at_call 196;refine(x.o _ c.o.drew).mono ?_;rintro e w2 ⟨rfl,f⟩)
 all_goals
  obtain⟨g,off,cap,p,l,q,o⟩:=f;have u:=L p;have y:=L l;have r:=L q;have s:=L o;clear p l q o;go_wp2_with fail;go_ret;exact⟨rfl,g,off,cap,u.o,y.o,r.o.elim ah (λh=>ao (au (by simp) h)),(K _ c.o.drew).B8 s.o⟩
theorem vI(w:X)(b:Nat)(p:U)(a:List U)(h:w.heap[b]?=O (Y #[p] 195 (0,0)))(i:Win 97 id w p a)(j:65536<=a.length):
 ai G 175 #[ae (O ⟨b,0,N⟩),H #[I J 1,W af,I E 0,ac ⟨#[]⟩,I J 0,V N 0 0]] w λe w'=>(∃v,e=ag v)/\Z w.heap.size w w':=by
 have c:Z w.heap.size w (w.alloc (Y #[I J 1,W af,I E 0,ac ⟨#[]⟩,I J 0,V N 0 0] 147)):=(az _ _).alloc (ba _) _;have o:=av h;have k:=bc h;obtain⟨n,m,d⟩:=i.A8;have g:(65536:Int)<=(a.length:Int):=by omega
 obtain⟨l,-,-,-,-,-,-⟩:=bN (bg w (Y #[I J 1,W af,I E 0,ac ⟨#[]⟩,I J 0,V N 0 0] 147));have f:=L c;clear h i c;subst d;go_enter ck,co;go_wp2_with fail;go_ret;exact⟨⟨_,rfl⟩,f.o⟩
theorem aDx(F:Nat->Prop)(w:X)(g:Nat)(items:List Tr)(h:cI F w g items)(z:items.length<=1048576):
 ai G 152 #[ae (O ⟨g,0,N⟩)] w λe w'=>(∃v,e=ag v)/\Keeps F w w'/\cI (Since F w w') w' g (aY items cr):=by
 have q:=h;obtain⟨r,d,A,b,n,m,o⟩:=h;have l:=o.1
 by_cases a:65536<=items.length
 .have c:aY items cr=items:=by unfold aY;rw[if_pos a]
  rw[c];have s:=L (vI w g A b n m.1 (by omega));have u:=L q;have p:=L d;clear q n m o l a c r d;go_enter func152,ntmps152;go_wp2_with fail;refine(s.o).mono ?_;rintro e w1 ⟨⟨v,rfl⟩,j⟩;have i:=L j;clear j;go_wp2_with fail;go_ret;exact⟨⟨_,rfl⟩,K F i.o,(u.o.B6 (K (λ_=>False) i.o) (λ_ _=>id)).A6 (λk y=>ah y) (aF p.o i.o.size)⟩
 .have c:aY items cr=items++ [cr]:=by unfold aY oL;rw[if_neg a];simp[aw,dt]
  rw[c];have s:=L (aF9 w g A b n m.1 (by omega) (by omega));have x:=L (λw'(h:eS w g A b 177 (H #[]) w')=>h.K9 (t:=cr) r d m o (λ_ _=>.null));clear q n m o l a c r d;go_enter func152,ntmps152;go_wp2_with fail;refine(s.o).mono ?_;rintro e w1 ⟨rfl,f⟩;have i:=L (x.o _ f);clear f;go_wp2_with fail;go_ret;exact⟨⟨_,rfl⟩,i.o.1,i.o.2⟩
theorem aGa(w:X)(c:Bool):ai G 213 #[H #[I J 2,W c,I E 0,ac ⟨#[]⟩,I J 0,V N 0 0]] w λe w'=>e=ag (W ak)/\Z w.heap.size w w':=by
 cases c
 all_goals
  go_enter cu,cv;go_wp2;go_ret;exact⟨rfl,(az _ _).alloc (ba _) _⟩
theorem aH1(w:X)(b:Nat)(A:U)(a:List U)(c:Bool)(y:w.heap[b]?=O (Y #[A] 195 (0,0)))(d:Win 97 id w A a)(T:a.length<=1048576):
 ai G 214 #[ae (O ⟨b,0,N⟩),aj 178 (W c)] w λe w'=>e=ag (cw #[])/\eS w b A a 178 (W c) w':=by
 have hm:∀w:X,(method 565 178 (W c) "affidavit/node.sized").run G w=.ok (345,W c) w:=λ_=>by kernel_rfl
 have B:=L (vF w c);have C:=L (λw=>kI w 1 0 1 (by decide));have D:=L d;have a0:=L y;have m:=L (d.ne y (by decide));obtain⟨n,o,q⟩:=d.A8;clear y d;subst q;go_enter func214,ntmps214;go_wp2_with fail;refine(B.o).mono ?_;rintro e w1 ⟨rfl,d⟩;have r:=L d;clear d;go_wp2_with fail;refine(C.o _).mono ?_;rintro e w2 ⟨rfl,d⟩;have h:=chain r.o d;have i:=keep a0.o h;have s:=av i;have t:=L i;have z:=L h;have j:=bc i;have f:Win 97 id (w2.alloc (Y #[aj 178 (W c)] 97)) (V n a.length o) a:=(D.o.A0 (K (λ_=>False) h) (λ_ _=>id)).A0 (F:=λ_=>False) ((bk _ w2).A4 _) (λ_ _=>id);have P:=L f;clear d h i f
 go_wp2_with (at_builtin;refine cW qQ rfl _ _ rfl rfl P.o ⟨w2.heap.size,0,N⟩ 1 (aj 178 (W c)) rfl ?_ rfl ?_ ?_ ?_)
 .exact fN rfl
 .omega
 .unfold maxLen;omega
 intro g off cap w' d h i;have f:=(i.block b (by simp;omega) (λe=>m.o e.symm)).trans ((dq w2 _ _ j).trans t.o);have u:=L (d.ne f (by decide));have v:=L (show(V n a.length o).ownBlock=O g\/w.heap.size<=g from h.elim ah (λy=>ao (au z.o.size (au (by simp) y.1))));have Q:=L (((K (λk=>k=b\/(V n a.length o).ownBlock=O k) z.o).A4 (Y #[aj 178 (W c)] 97)).F9 i (λk e=>ah (ao e)));have l:=L d;have R:=av f;have S:=bm f;have x:=L f;clear f d h i s;go_wp2_with fail
 go_end0
 have d:Keeps (λk=>k=b) w' (w'.setCell ⟨b,0,N⟩ (V (O ⟨g,off,N⟩) (a.length+1) cap)):=(bk (λk=>k=b) w').A2 (p:=⟨b,0,N⟩) (ah rfl) _;exact⟨rfl,g,off,cap,aB x.o _,l.o.A0 d (λk e f=>u.o (e.trans (congrArg O f))),v.o,Q.o.A2 (p:=⟨b,0,N⟩) (ah (ah rfl)) _⟩
theorem aJP(w:X)(b:Nat)(m:U)(a:List U)(c:Bool)(g:w.heap[b]?=O (Y #[m] 195 (0,0)))(d:Win 97 id w m a)(o:a.length<=1048576):
 ai G 196 #[ae (O ⟨b,0,N⟩),H #[I J 2,W c,I E 0,ac ⟨#[]⟩,I J 0,V N 0 0]] w λe w'=>e=ag ar/\eS w b m a 178 (W c) w':=by
 have p:=L (λw=>aGa w c);have j:=bc g;have q:=L (λw'(n:Z w.heap.size w w')=>aH1 w' b m a c (keep g n) (d.A0 (K (λ_=>False) n) (λ_ _=>id)) o);have l:=L (λk(r:m.ownBlock=O k)=>d.lt r);clear g d
 go_enter_defers bp,bs
 go_wp2_with fail;refine(p.o _).mono ?_;rintro e w1 ⟨rfl,d⟩;obtain⟨g1,i,g,s⟩:=after2 d;obtain⟨v,x,y,z,A,B,C⟩:=bN g1;have t:=L i;have h:=L g;clear d g1 i g;go_wp2_with fail;refine(dQ _ 2).mono ?_;rintro e w2 ⟨rfl,rfl⟩;go_wp2_with fail;refine(q.o _ h.o).mono ?_;rintro e D ⟨rfl,g⟩;obtain⟨F,P,d,u⟩:=g.I7 h.o (bj _) t.o l.o j ar;have i:=L d;clear g d;go_wp2_with fail;refine bu (f:=211) (args:= #[ae (O ⟨w.heap.size+1,0,N⟩)]) (by simp) (by simp[go_sem]) ?_;refine(gD ⟨w.heap.size+1,0,N⟩ _).mono ?_;rintro e Q g ⟨rfl,rfl,rfl⟩;have d:=i.o;simp[bw,bx,bh,bz,go_sem,u];exact d
theorem aGb(w:X)(b:Nat)(T:U)(a:List U)(c:Bool)(h:w.heap[b]?=O (Y #[T] 195 (0,0)))(l:Win 97 id w T a)(x:a.length<=1048576)(j:a.length<65536):
 ai G 175 #[ae (O ⟨b,0,N⟩),H #[I J 2,W c,I E 0,ac ⟨#[]⟩,I J 0,V N 0 0]] w λe w'=>e=ag ar/\eS w b T a 178 (W c) w':=by
 have f:Z w.heap.size w (w.alloc (Y #[I J 2,W c,I E 0,ac ⟨#[]⟩,I J 0,V N 0 0] 147)):=(az _ _).alloc (ba _) _;have y:=L (λw1(n:Z w.heap.size w w1)=>aJP w1 b T a c (keep h n) (l.A0 (K (λ_=>False) n) (λ_ _=>id)) x);have R:=av h;have u:=bc h;obtain⟨D,B,k⟩:=l.A8;
 have o:¬(65536:Int)<=(a.length:Int):=by omega
 obtain⟨A,C,S,F,Q,P,-⟩:=bN (bg w (Y #[I J 2,W c,I E 0,ac ⟨#[]⟩,I J 0,V N 0 0] 147));have d:=L f;clear h l j f;subst k;go_enter ck,co;go_wp2_with fail
 go_region_with (go_at_call 196;refine(y.o _ d.o.drew).mono ?_;rintro e w2 ⟨rfl,i⟩)
 all_goals
  obtain⟨g,off,cap,q,m,r,p⟩:=i;have v:=L q;have z:=L m;have s:=L r;have t:=L p;clear q m r p;go_wp2_with fail;go_ret;exact⟨rfl,g,off,cap,v.o,z.o,s.o.elim ah (λh=>ao (au (by simp) h)),(K _ d.o.drew).B8 t.o⟩
theorem vJ(w:X)(b:Nat)(q:U)(a:List U)(c:Bool)(h:w.heap[b]?=O (Y #[q] 195 (0,0)))(j:Win 97 id w q a)(k:65536<=a.length):
 ai G 175 #[ae (O ⟨b,0,N⟩),H #[I J 2,W c,I E 0,ac ⟨#[]⟩,I J 0,V N 0 0]] w λe w'=>(∃v,e=ag v)/\Z w.heap.size w w':=by
 have d:Z w.heap.size w (w.alloc (Y #[I J 2,W c,I E 0,ac ⟨#[]⟩,I J 0,V N 0 0] 147)):=(az _ _).alloc (ba _) _;have p:=av h;have l:=bc h;obtain⟨o,n,g⟩:=j.A8;have i:(65536:Int)<=(a.length:Int):=by omega
 obtain⟨m,-,-,-,-,-,-⟩:=bN (bg w (Y #[I J 2,W c,I E 0,ac ⟨#[]⟩,I J 0,V N 0 0] 147));have f:=L d;clear h j d;subst g;go_enter ck,co;go_wp2_with fail;go_ret;exact⟨⟨_,rfl⟩,f.o⟩
theorem aDy(F:Nat->Prop)(w:X)(i:Nat)(items:List Tr)(c:Bool)(h:cI F w i items)(A:items.length<=1048576):
 ai G 153 #[ae (O ⟨i,0,N⟩),W c] w λe w'=>(∃v,e=ag v)/\Keeps F w w'/\cI (Since F w w') w' i (aY items (ct c)):=by
 have r:=h;obtain⟨s,f,B,b,o,n,p⟩:=h;have m:=p.1
 by_cases a:65536<=items.length
 .have d:aY items (ct c)=items:=by unfold aY;rw[if_pos a]
  rw[d];have u:=L (vJ w i B b c o n.1 (by omega));have x:=L r;have q:=L f;clear r o n p m a d s f;go_enter func153,ntmps153;go_wp2_with fail;refine(u.o).mono ?_;rintro e w1 ⟨⟨v,rfl⟩,l⟩;have j:=L l;clear l;go_wp2_with fail;go_ret;exact⟨⟨_,rfl⟩,K F j.o,(x.o.B6 (K (λ_=>False) j.o) (λ_ _=>id)).A6 (λk z=>ah z) (aF q.o j.o.size)⟩
 .have d:aY items (ct c)=items++ [ct c]:=by unfold aY oL;rw[if_neg a];simp[aw,dt]
  rw[d];have u:=L (aGb w i B b c o n.1 (by omega) (by omega));have y:=L (λw'(h:eS w i B b 178 (W c) w')=>h.K9 (t:=ct c) s f n p (λ_ _=>.flag _));clear r o n p m a d s f;go_enter func153,ntmps153;go_wp2_with fail;refine(u.o).mono ?_;rintro e w1 ⟨rfl,g⟩;have j:=L (y.o _ g);clear g;go_wp2_with fail;go_ret;exact⟨⟨_,rfl⟩,j.o.1,j.o.2⟩
end Go.Proofs.YtakkmiomhackiaaGreatDoor
