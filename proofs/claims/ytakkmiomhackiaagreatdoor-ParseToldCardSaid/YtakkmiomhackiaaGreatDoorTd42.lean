/-
  The program, one part of its walk. Conditions: none.
-/
import Derived.Test.YtakkmiomhackiaaGreatDoorTd25
import Derived.Test.YtakkmiomhackiaaGreatDoorTd41
set_option linter.all false
set_option maxRecDepth 100000
set_option maxHeartbeats 16000000
open Go.Proofs.Tryz
open Bool renaming false->az
open Go renaming Addr->ah,Calls->ae,Value->G,World->V,bodyPost_ret->co,maxLen->bh
open Go.Ending renaming returned->af
open Go.IntKind renaming i64->Z,u64->H,wrap_i64->cr
open Go.Lib renaming trimLeftB->D,trimRightB->bp
open Go.Obj renaming cells->au
open Go.Proofs.Tryz renaming prog->Q
open Go.Proofs.YtakkmiomhackiaaGreatDoor.Keeps renaming A1->ak,A3->R
open Go.Proofs.YtakkmiomhackiaaGreatDoor.aR renaming A0->aj,A8->bc
open Go.RowKit renaming Below->E
open Go.RowKit.Below renaming refl->ao
open Go.Value renaming bool->K,int->U,slice->I,string->S
open Go.World renaming drewN->bx
open List renaming cons_merge_cons->cj,eq_nil_of_length_eq_zero->ar,flatten_cons->ba,length->ck,length_append->bj,length_drop->aw,length_take->av,map_drop->bu,map_take->bs,mem_cons_of_mem->ag,mem_cons_self->ai,merge->ac,merge_right->cg,nil_merge->bz
open Nat renaming eq_zero_or_pos->bm,le_refl->bg,le_trans->bk,succ_mul->bw
open Option renaming none->O,some->J
namespace Go.Proofs.YtakkmiomhackiaaGreatDoor
open Go.RowKit
abbrev dU:=Mem×List G
def lD(x:dU):List G:=encS x.1.1::x.2
def vZ(x y:dU):Bool:=lY x.1 y.1
def dM(l:List dU):List dU:=
 if l.length<2 then l else ac (dM (l.take (l.length/2))) (dM (l.drop (l.length/2))) vZ
termination_by l.length
decreasing_by all_goals(simp_wf;omega)
theorem iQ{l:List dU}(h:l.length<2):dM l=l:=by rw[dM,if_pos h]
theorem nQ{l:List dU}(h:¬l.length<2):dM l=ac (dM (l.take (l.length/2))) (dM (l.drop (l.length/2))) vZ:=by rw[dM,if_neg h]
theorem aDR(N:Nat):∀l:List dU,l.length<=N->(dM l).map (·.1)=hZ (l.map (·.1)):=by
 induction N with
 | zero=>intro l h;rw[iQ (by omega),gG (by simp;omega)]
 | succ N b=>
  intro l h
  by_cases a:l.length<2
  .rw[iQ a,gG (by simpa using a)]
  .rw[nQ a,nP (by simpa using a),show((dM (l.take (l.length/2))).merge (dM (l.drop (l.length/2))) vZ).map (·.1)=_ from List.map_merge (f:=λx:dU=>x.1) (r:=vZ) (s:=lY) (λ_ _ _ _=>rfl),b _ (by rw[av];omega),b _ (by rw[aw];omega)];simp[bs,bu]
theorem nR(N:Nat):∀l:List dU,l.length<=N->(dM l).Perm l:=by
 induction N with
 | zero=>intro l h;rw[iQ (by omega)]
 | succ N a=>
  intro l h
  by_cases b:l.length<2
  .rw[iQ b]
  .rw[nQ b];refine(List.merge_perm_append ..).trans (((a _ (by rw[av];omega)).append (a _ (by rw[aw];omega))).trans ?_);rw[List.take_append_drop]
theorem rF:kQ 334 336 7 104:=⟨underlying334,by decide,by
 have h:(Q.info? 336).map (λi=>(i.zero,i.size,i.bytes))=J (J (.agg #[S ⟨#[]⟩,U Z 0,K az,U H 0,S ⟨#[]⟩,I O 0 0,I O 0 0]),7,104):=by kernel_rfl
 obtain⟨i,c,a,d,b⟩:=info_parts h;exact⟨i,_,c,a,d,b,rfl⟩⟩
def aAL(x:dU):Prop:=(∃(d:Int)(e:Bool)(c:Nat)(s:ByteArray)(a:Option ah)(n m:Nat)(b:Option ah)(p q:Nat),x.2=eV d e c s (I a n m) (I b p q))/\aT x.1.1=true/\x.1.1.length<=1073741824
def iR(l:List dU):Prop:=∀x∈l,aAL x
def bL(w:V)(v:G)(l:List dU):Prop:=aR 7 336 w v l.length (l.map lD).flatten
theorem pK{l:List dU}(h:iR l):∀c∈l.map lD,c.length=7:=by
 intro c d;obtain⟨x,f,rfl⟩:=List.mem_map.1 d;obtain⟨⟨i,j,g,s,a,n,m,b,p,q,e⟩,_⟩:=h x f;unfold lD;rw[e];rfl
theorem zK{s:Nat}:∀{a:List (List G)}(k:Nat),(∀c∈a,c.length=s)->a.flatten.take (k*s)=(a.take k).flatten
 | [],_,_=>by simp
 | c::a,0,_=>by simp
 | c::a,k+1,h=>by
  rw[ba,List.take_succ_cons,ba,bw,<-zK k (λx b=>h x (ag _ b)),List.take_append,h c (ai ..)];rw[List.take_of_length_le (by rw[h c (ai ..)];omega),show k*s+s-s=k*s by omega]
theorem zL{s:Nat}:∀{a:List (List G)}(k:Nat),(∀c∈a,c.length=s)->a.flatten.drop (k*s)=(a.drop k).flatten
 | [],_,_=>by simp
 | c::a,0,_=>by simp
 | c::a,k+1,h=>by
  rw[ba,List.drop_succ_cons,bw,<-zL k (λx b=>h x (ag _ b)),List.drop_append,h c (ai ..)];rw[List.drop_of_length_le (by rw[h c (ai ..)];omega),show k*s+s-s=k*s by omega];rfl
theorem bL.B0{w:V}{g off n cap:Nat}{l:List dU}(h:bL w (I (J ⟨g,off,O⟩) n cap) l)(b:iR l)(c:n=l.length){k:Nat}(a:k<=n):bL w (I (J ⟨g,off,O⟩) k cap) (l.take k):=by
 subst c;have:=aR.B0 h a;rw[zK k (pK b),<-bs]at this;unfold bL
 rwa[av,Nat.min_eq_left a]
theorem bL.L3{w:V}{g off n cap:Nat}{l:List dU}(h:bL w (I (J ⟨g,off,O⟩) n cap) l)(a:iR l)(c:n=l.length){k:Nat}(b:k<=n):bL w (I (J ⟨g,off+k*7,O⟩) (n-k) (cap-k)) (l.drop k):=by
 subst c;have:=aR.L6 h b;rw[zL k (pK a),<-bu]at this;unfold bL
 rwa[aw]
theorem bL.A0{F:Nat->Prop}{w w':V}{v:G}{l:List dU}(h:bL w v l)(a:Keeps F w w')(b:∀k,v.ownBlock=J k->¬F k):bL w' v l:=aj h a b
theorem bL.A5{w w':V}{v:G}{l:List dU}(h:bL w v l)(a:E w.heap.size w w'):bL w' v l:=h.A0 (ak (λ_=>False) a) λ_ _=>id
def pM(w:V)(b:G)(l:List dU)(a:G)(w':V):Prop:=E w.heap.size w w'/\bL w' a (dM l)/\∀k,a.ownBlock=J k->b.ownBlock=J k\/w.heap.size<=k
theorem pN(l:List dU):(dM l).length=l.length:=(nR _ l (bg _)).length_eq
theorem sO{l:List dU}(h:iR l):iR (dM l):=λx a=>h x ((nR _ l (bg _)).mem_iff.1 a)
theorem nS(l:List dU)(w:V)(j:G)(d:l.length<2)(b:bL w j l):ae Q 192 #[j] w λe w'=>∃a c,e=af (I a l.length c)/\pM w j l (I a l.length c) w':=by
 obtain⟨a,c,rfl⟩:=bc b;have f:=L (show pM w (I a l.length c) l (I a l.length c) w from⟨ao _ _,by rw[iQ d];exact b,λk e=>.inl e⟩);have h:(l.length:Int)<2:=by omega
 clear b d;obtain⟨i,g⟩:∃i,l.length=i:=⟨_,rfl⟩;rw[g]at h f⊢;clear g;go_enter func192,ntmps192;go_wp2_with fail;go_ret;exact⟨a,c,rfl,f.o⟩
def aGt:G->Nat
 | .slice _ n _=>n
 | _=>0
def lJ(c:V)(d:List dU)(e:Nat)(a b o:G)(wr:V):Prop:=∃X Y f:List dU,bL c a X/\bL c b Y/\bL wr o f/\iR X/\iR Y/\f++ac X Y vZ=d/\X.length+Y.length+f.length=e/\E c.heap.size c wr/\∀k,o.ownBlock=J k->c.heap.size<=k
theorem bL.S2{w:V}{g off n cap:Nat}{x:dU}{X:List dU}{i:Int}{m:Bool}{l:Nat}{s:ByteArray}{a b:Option ah}{t o p q:Nat}(h:bL w (I (J ⟨g,off,O⟩) n cap) (x::X))(z:x.2=eV i m l s (I a t o) (I b p q)):∀W,E w.heap.size w W->
 W.cell? ⟨g,off,O⟩=J (encS x.1.1)/\W.cell? ⟨g,off+1,O⟩=J (U Z i)/\W.cell? ⟨g,off+2,O⟩=J (K m)/\W.cell? ⟨g,off+3,O⟩=J (U H l)/\W.cell? ⟨g,off+4,O⟩=J (S s)/\W.cell? ⟨g,off+5,O⟩=J (I a t o)/\W.cell? ⟨g,off+6,O⟩=J (I b p q):=by
 intro W v;have e:=h.A5 v
 have A:n=(x::X).length:=by
  rcases e.2 with⟨d,_⟩|⟨B,f,k,y,d,_⟩
  .cases d
  .cases d;rfl
 subst A
 have c:∀(j:Nat)(u:G),(lD x)[j]?=J u->W.cell? ⟨g,off+j,O⟩=J u:=λj u r=>aR.B5 e (j:=j) (u:=u) (by
  rw[List.map_cons,ba,List.getElem?_append_left (List.getElem?_eq_some_iff.1 r).1];exact r)
 unfold lD at c;rw[z]at c;exact⟨c 0 _ rfl,c 1 _ rfl,c 2 _ rfl,c 3 _ rfl,c 4 _ rfl,c 5 _ rfl,c 6 _ rfl⟩
theorem bL.T4{w:V}{g off cap:Nat}{x:dU}{X:List dU}(h:bL w (I (J ⟨g,off,O⟩) (X.length+1) cap) (x::X))(n:iR (x::X)):X.length+1<=cap/\bL w (I (J ⟨g,off+7,O⟩) X.length (cap-1)) X/\(cap=1->bL w (I (J ⟨g,off,O⟩) X.length (cap-1)) X):=by
 have f:X.length+1<=cap:=by
  rcases h.2 with⟨a,_⟩|⟨m,b,c,d,a,_,f,_⟩
  .cases a
  .cases a;exact f
 have i:=h.L3 n rfl (k:=1) (by omega);rw[Nat.one_mul,show X.length+1-1=X.length by omega]at i;refine⟨f,i,λe=>?_⟩;subst e;obtain rfl:X= []:=ar (by omega);rcases h.2 with⟨a,_⟩|⟨m,b,c,d,a,l,_,p,_,_⟩
 .cases a
 .cases a;exact⟨rfl,.inr ⟨g,off,0,d,rfl,l,bg _,by omega,by unfold bh;omega,λj u o=>by simp at o⟩⟩
theorem bL.S3{w:V}{j:Option ah}{a f:Nat}{X:List dU}(h:bL w (I j a f) X)(i:iR X)(g:X.length=a){x:dU}{c:List dU}(e:X=x::c):∃b d,j=J ⟨b,d,O⟩/\a=c.length+1/\a<=f/\aAL x/\bL w (I (J ⟨b,d,O⟩) a f) X/\bL w (I (J ⟨b,d+7,O⟩) (a-1) (f-1)) c/\(f=1->bL w (I (J ⟨b,d,O⟩) (a-1) (f-1)) c):=by
 subst e;have g:a=c.length+1:=g.symm;subst g;obtain⟨b,d,k,e⟩:=aR.P9 (n:=c.length) h;cases e;obtain⟨m,l,o⟩:=bL.T4 h i;exact⟨b,d,rfl,rfl,m,i x (ai ..),h,l,o⟩
theorem lZ(w:V)(a b c d e f g:G):∀(j:Nat)(u:G),[a,b,c,d,e,f,g][j]?=J u->(w.alloc (au #[a,b,c,d,e,f,g] 336)).cell? ((⟨w.heap.size,0,O⟩:ah).add j)=J u:=λj u h=>by
 rw[Addr.add_lit,Nat.zero_add];exact(aA (heap_alloc_new w _)).trans (by simpa using h)
theorem lJ.I8{c wr f w':V}{w X Y z:List dU}{x:dU}{y g off cap no:Nat}{a b o:G}(h:z.length=no)(s:bL c a X)(u:bL c b Y)(i:iR X)(j:iR Y)(r:(z++ [x])++ac X Y vZ=w)(v:X.length+Y.length+(z.length+1)=y)(m:E c.heap.size c wr)(q:∀k,o.ownBlock=J k->c.heap.size<=k)
 (n:Keeps (λ_=>False) wr f)(d:aR 7 336 w' (I (J ⟨g,off,O⟩) (no+1) cap) (no+1) ((z.map lD).flatten++lD x))(l:o.ownBlock=J g\/f.heap.size<=g)(t:Keeps (λk=>o.ownBlock=J k) f w'):
 lJ c w y a b (I (J ⟨g,off,O⟩) (no+1) cap) w':=by
 subst h;refine⟨X,Y,z++ [x],s,u,?_,i,j,r,by simp;omega,?_,λk e=>?_⟩
 .unfold bL;rw[bj,List.length_singleton,List.map_append,List.map_singleton,dS];exact d
 .have p:E c.heap.size c f:=m.trans ((n.B3 m.size λ_=>False.elim));exact p.trans (t.B3 p.size q)
 .obtain rfl:g=k:=by simpa[Value.ownBlock]using e
  exact l.elim (q g) λe=>bk (bk m.size n.size) e
theorem yB(l:List dU)(w:V)(a3:G)(h2:¬l.length<2)(hl:l.length<=65536)(hm:iR l)(hs:bL w a3 l)
 (ih:∀(l':List dU)(W:V)(V':G),l'.length<l.length->iR l'->bL W V' l'->ae Q 192 #[V'] W λe w'=>∃a c,e=af (I a l'.length c)/\pM W V' l' (I a l'.length c) w'):
 ae Q 192 #[a3] w λe w'=>∃a c,e=af (I a l.length c)/\pM w a3 l (I a l.length c) w':=by
 obtain⟨a0,t⟩:∃a0,l.length=a0:=⟨_,rfl⟩
 obtain⟨g,off,cap,rfl⟩:∃g off cap,a3=I (J ⟨g,off,O⟩) a0 cap:=by
  rcases hs with⟨_,⟨_,hn⟩|⟨g,off,cap,cur,rfl,_⟩⟩
  .omega
  .rw[t];exact⟨g,off,cap,rfl⟩
 have hcap:a0<=cap:=by
  rcases hs with⟨_,⟨hv,_⟩|⟨g',off',cap',cur,hv,_,hc,_⟩⟩
  .cases hv
  .cases hv;omega
 obtain⟨a2,hH⟩:∃a2,a0/2=a2:=⟨_,rfl⟩;have hHL:1<=a2/\a2<a0:=by omega
 obtain⟨A,hA⟩:∃A,l.take a2=A:=⟨_,rfl⟩;obtain⟨B,hB⟩:∃B,l.drop a2=B:=⟨_,rfl⟩;have hAl:A.length=a2:=by rw[<-hA,av];omega
 have hBl:B.length=a0-a2:=by rw[<-hB,aw];omega
 have hmA:iR A:=λx hx=>hm x (List.mem_of_mem_take (by rw[hA];exact hx))
 have hmB:iR B:=λx hx=>hm x (List.mem_of_mem_drop (by rw[hB];exact hx))
 have N:dM l=ac (dM A) (dM B) vZ:=by rw[nQ h2,t,hH,hA,hB]
 have HA:=L (λ(W:V)(hW:E w.heap.size w W)=>show ae Q 192 #[I (J ⟨g,off,O⟩) a2 cap] W λe w'=>∃a c,e=af (I a a2 c)/\pM W (I (J ⟨g,off,O⟩) a2 cap) A (I a a2 c) w' from by
  have:=ih A W (I (J ⟨g,off,O⟩) a2 cap) (by omega) hmA (by rw[<-hA];exact(hs.A5 hW).B0 hm t.symm (by omega))
  rwa[hAl]at this)
 have HB:=L (λ(W:V)(hW:E w.heap.size w W)=>show ae Q 192 #[I (J ⟨g,off+a2*7,O⟩) (a0-a2) (cap-a2)] W λe w'=>∃a c,e=af (I a (a0-a2) c)/\pM W (I (J ⟨g,off+a2*7,O⟩) (a0-a2) (cap-a2)) B (I a (a0-a2) c) w' from by
  have:=ih B W (I (J ⟨g,off+a2*7,O⟩) (a0-a2) (cap-a2)) (by omega) hmB (by rw[<-hB];exact(hs.A5 hW).L3 hm t.symm (by omega))
  rwa[hBl]at this)
 have i1:¬(a0:Int)<2:=by omega
 have i2:Int.tdiv (a0:Int) 2=(a2:Int):=by rw[<-hH];rfl
 have i3:Z.wrap (a2:Int)=(a2:Int):=by rw[cr];omega
 have i4:(0:Int)<=(a2:Int):=by omega
 have i5:(a2:Int)<=(a0:Int):=by omega
 have i7:(a2:Int)<=(cap:Int):=by omega
 have i9:¬cap=a2:=by omega
 have HX:=L (And.intro hs (And.intro N (And.intro t (And.intro (sO hmA) (And.intro (sO hmB) (And.intro hAl hBl))))));rw[t];have HH:=L (And.intro hHL hH);clear hs N t hmA hmB hAl hBl hA hB hHL hH ih h2 hm;go_enter func192,ntmps192;go_wp2_with fail;have HD:=L (mH (ao w.heap.size w))
 go_region_held3 (λ_=>True) (trivial) (first
  | (go_at_call 192;(with_reducible refine(HA.o _ HD.o).mono ?_);rintro e wa ⟨aa,ca,rfl,hsa⟩;have hba:E w.heap.size w wa:=mG hsa.1)
  | (go_at_call 192;(with_reducible refine(HB.o _ hba).mono ?_);rintro e wb ⟨ab,cb,rfl,hsb⟩))
 have HI0:=L (show lJ wb (ac (dM A) (dM B) vZ) a0 (I aa a2 ca) (I ab (a0-a2) cb) (I O 0 0) wb from by
  obtain⟨-,-,-,hmA,hmB,hAl,hBl⟩:=HX.o;refine⟨dM A,dM B,[],hsa.2.1.A5 hsb.1,hsb.2.1,.E0 _ _ _,hmA,hmB,(by simp),(by simp[pN];have:=HH.o;omega),ao _ _,λk e=>(by cases e)⟩)
 have HBW:=L (show E w.heap.size w wb from chain hba hsb.1);clear hsa hsb hba HA HB HD i1 i2 i3 i4 i5 i7 i9 hcap;go_wp2_with fail
 go_loopw [3,4,5] (λa b o wr=>M (lJ wb (ac (dM A) (dM B) vZ) a0 a b o wr)) (λa b _ _=>aGt a+aGt b)
 case atStart=>exact HI0
 case round=>
  obtain⟨X,Y,a1,hX,hY,hO,r,p,hM,t,hB,hF⟩:=hrel.o;obtain⟨xa,xc,rfl⟩:=bc hX;obtain⟨ya,yc,rfl⟩:=bc hY;obtain⟨oa,oc,rfl⟩:=bc hO;obtain⟨nx,hnx⟩:∃nx,X.length=nx:=⟨_,rfl⟩;obtain⟨ny,hny⟩:∃ny,Y.length=ny:=⟨_,rfl⟩;obtain⟨no,j⟩:∃no,a1.length=no:=⟨_,rfl⟩;rw[hnx]at hX⊢;rw[hny]at hY⊢;rw[j]at hO⊢
  have hO:aR 7 336 wr (I oa no oc) no (a1.map lD).flatten:=by
   unfold bL at hO
   rwa[j]at hO
  have hF:∀k,(I oa no oc).ownBlock=J k->wb.heap.size<=k:=by rw[<-j];exact hF
  have HO:=L (And.intro hO (And.intro hM (And.intro t (And.intro hB (And.intro hF (And.intro j (And.intro r p)))))));have HN:=L (And.intro hnx hny);have HBM:=L (show(no+1)*104<=140737488355328/\no+1<=bh from⟨by have:=HX.o.2.2.1;omega,by unfold bh;have:=HX.o.2.2.1;omega⟩);have HPX:=L (show ∀x X',X=x::X'->∃xg xo,xa=J ⟨xg,xo,O⟩/\nx=X'.length+1/\nx<=xc/\aAL x/\bL wb (I (J ⟨xg,xo,O⟩) nx xc) X/\bL wb (I (J ⟨xg,xo+7,O⟩) (nx-1) (xc-1)) X'/\(xc=1->bL wb (I (J ⟨xg,xo,O⟩) (nx-1) (xc-1)) X')from λx X' e=>bL.S3 hX r hnx e);have HPY:=L (show ∀x X',Y=x::X'->∃xg xo,ya=J ⟨xg,xo,O⟩/\ny=X'.length+1/\ny<=yc/\aAL x/\bL wb (I (J ⟨xg,xo,O⟩) ny yc) Y/\bL wb (I (J ⟨xg,xo+7,O⟩) (ny-1) (yc-1)) X'/\(yc=1->bL wb (I (J ⟨xg,xo,O⟩) (ny-1) (yc-1)) X')from λx X' e=>bL.S3 hY p hny e);have HXY:=L (And.intro hX hY);clear hX hY hO hM t hB hF j hnx hny r p;rcases bm nx with hx0|hx0
  .rcases bm ny with hy0|hy0
   .subst hx0;subst hy0;go_wp2_with fail;go_ret;obtain⟨hO,hM,t,hB,hF,j,_⟩:=HO.o;obtain rfl:=ar HN.o.1;obtain rfl:=ar HN.o.2;simp at hM t;have hOL:no=a0:=by omega
    subst hOL;obtain⟨-,N,-,_⟩:=HX.o;have hO2:bL wr (I oa no oc) a1:=by unfold bL;rw[j];exact hO
    exact⟨oa,oc,rfl,chain HBW.o hB,by rw[N,<-hM];exact hO2,λk e=>.inr (bk HBW.o.size (hF k e))⟩
   .subst hx0
    obtain⟨y,y',ye⟩:∃y y',Y=y::y':=by
     cases Y with
     | nil=>have:=HN.o.2;simp at this;omega
     | cons y y'=>exact⟨y,y',rfl⟩
    obtain⟨yg,yo,rfl,y1,yl,⟨⟨yso,v,ybi,P,yva,yvn,yvm,F,T,ykm,y2⟩,yr,yn⟩,ys,yt,yt1⟩:=HPY.o y y' ye;subst ye;obtain⟨yk,yhk⟩:∃k:ByteArray,encS y.1.1=S k:=⟨_,rfl⟩;have HYD:=L (bL.S2 ys y2);rw[yhk]at HYD;have HYM:=L (show lD y= [S yk,U Z yso,K v,U H ybi,S P,I yva yvn yvm,I F T ykm] by unfold lD;rw[y2,yhk];rfl);have HYT:=L (And.intro yt (And.intro yt1 y1));
    have yi2:(1:Int)<=(ny:Int):=by omega
    have yi3:(ny:Int)<=(yc:Int):=by omega
    clear y1 y2 yr yn ys yt yt1 yhk;have ney:((ny:Int)==0)=az:=by simp;omega
    go_wp2_with fail
    go_quiet (fail)
    generalize hW6:bx wr _=m;have f:E wr.heap.size wr m:=by rw[<-hW6];exact eR (ao _ _)
    clear hW6;have d:=chain HO.o.2.2.2.1 f;obtain⟨d0,d1,d2,d3,d4,d5,d6⟩:=HYD.o m d;have HW:=L ((aj HO.o.1 (ak (λ_=>False) f) λ_ _=>id).A0 ((R (λ_=>False) m).A4 (au #[S yk,U Z yso,K v,U H ybi,S P,I yva yvn yvm,I F T ykm] 336)) λ_ _=>id);have HNW:=L (lZ m (S yk) (U Z yso) (K v) (U H ybi) (S P) (I yva yvn yvm) (I F T ykm));have HB6:=L (And.intro f d);clear f d
    go_wp2_with (at_builtin;refine dD rF rfl _ _ rfl rfl HW.o ⟨m.heap.size,0,O⟩ 1 1 [S yk,U Z yso,K v,U H ybi,S P,I yva yvn yvm,I F T ykm] (by rfl) rfl HNW.o ?_ (by decide) HBM.o.1 HBM.o.2 ?_)
    .intro u hu;simp at hu;rcases hu with rfl|rfl|rfl|rfl|rfl|rfl|rfl<;>rfl
    intro g' off' cap' w' i s n;have HF:=L (And.intro i (And.intro s n));clear i s n d0 d1 d2 d3 d4 d5 d6;have q:(yc=1/\¬yc≠1)\/(¬yc=1/\¬1=yc):=by omega
    rcases q with⟨h1,_⟩|⟨h1,-⟩
    all_goals
     go_wp2_with fail;refine⟨L ?_,by simp[aGt];omega⟩;obtain⟨-,hM,t,-,hF,j,r,p⟩:=HO.o;have hn:=HN.o;refine lJ.I8 (x:=y) (wr:=m) j HXY.o.1 (by first|exact HYT.o.1|exact HYT.o.2.1 h1|(subst h1;exact HYT.o.2.1 rfl)) r (λz hz=>p z (ag _ hz)) (by obtain rfl:=ar hn.1;rw[<-hM,bz,bz];simp) (by simp at t⊢;omega) HB6.o.2 hF ((R (λ_=>False) m).A4 _) (by rw[HYM.o];exact HF.o.1) (HF.o.2.1.imp id λh=>by have:=h.1;simp at this⊢;omega) HF.o.2.2
  .obtain⟨x,x',xe⟩:∃x x',X=x::x':=by
    cases X with
    | nil=>have:=HN.o.1;simp at this;omega
    | cons x x'=>exact⟨x,x',rfl⟩
   obtain⟨xg,xo,rfl,x1,xl,⟨⟨xso,xfl,xbi,xtx,xva,xvn,xvm,xka,xkn,xkm,x2⟩,xr,xn⟩,xs,xt,xt1⟩:=HPX.o x x' xe;subst xe;obtain⟨xk,xhk⟩:∃k:ByteArray,encS x.1.1=S k:=⟨_,rfl⟩;have HXD:=L (bL.S2 xs x2);rw[xhk]at HXD;have HXM:=L (show lD x= [S xk,U Z xso,K xfl,U H xbi,S xtx,I xva xvn xvm,I xka xkn xkm] by unfold lD;rw[x2,xhk];rfl);have HXT:=L (And.intro xt (And.intro xt1 x1));have HXR:=L (And.intro xr (And.intro xn xhk))
   have xi2:(1:Int)<=(nx:Int):=by omega
   have xi3:(nx:Int)<=(xc:Int):=by omega
   clear x1 x2 xr xn xs xt xt1 xhk;rcases bm ny with hy0|hy0
   .subst hy0;go_wp2_with fail
    go_quiet (fail)
    generalize hW6:bx wr _=m;have f:E wr.heap.size wr m:=by rw[<-hW6];exact eR (ao _ _)
    clear hW6;have d:=chain HO.o.2.2.2.1 f;obtain⟨d0,d1,d2,d3,d4,d5,d6⟩:=HXD.o m d;have HW:=L ((aj HO.o.1 (ak (λ_=>False) f) λ_ _=>id).A0 ((R (λ_=>False) m).A4 (au #[S xk,U Z xso,K xfl,U H xbi,S xtx,I xva xvn xvm,I xka xkn xkm] 336)) λ_ _=>id);have HNW:=L (lZ m (S xk) (U Z xso) (K xfl) (U H xbi) (S xtx) (I xva xvn xvm) (I xka xkn xkm));have HB6:=L (And.intro f d);clear f d
    go_wp2_with (at_builtin;refine dD rF rfl _ _ rfl rfl HW.o ⟨m.heap.size,0,O⟩ 1 1 [S xk,U Z xso,K xfl,U H xbi,S xtx,I xva xvn xvm,I xka xkn xkm] (by rfl) rfl HNW.o ?_ (by decide) HBM.o.1 HBM.o.2 ?_)
    .intro u hu;simp at hu;rcases hu with rfl|rfl|rfl|rfl|rfl|rfl|rfl<;>rfl
    intro g' off' cap' w' i s n;have HF:=L (And.intro i (And.intro s n));clear i s n d0 d1 d2 d3 d4 d5 d6;have q:(xc=1/\¬xc≠1)\/(¬xc=1/\¬1=xc):=by omega
    rcases q with⟨h1,_⟩|⟨h1,-⟩
    all_goals
     go_wp2_with fail;refine⟨L ?_,by simp[aGt];omega⟩;obtain⟨-,hM,t,-,hF,j,r,p⟩:=HO.o;have hn:=HN.o;refine lJ.I8 (x:=x) (wr:=m) j (by first|exact HXT.o.1|exact HXT.o.2.1 h1|(subst h1;exact HXT.o.2.1 rfl)) HXY.o.2 (λz hz=>r z (ag _ hz)) p (by obtain rfl:=ar hn.2;rw[<-hM,cg,cg];simp) (by simp at t⊢;omega) HB6.o.2 hF ((R (λ_=>False) m).A4 _) (by rw[HXM.o];exact HF.o.1) (HF.o.2.1.imp id λh=>by have:=h.1;simp at this⊢;omega) HF.o.2.2
   .obtain⟨y,y',ye⟩:∃y y',Y=y::y':=by
     cases Y with
     | nil=>have:=HN.o.2;simp at this;omega
     | cons y y'=>exact⟨y,y',rfl⟩
    obtain⟨yg,yo,rfl,y1,yl,⟨⟨yso,v,ybi,P,yva,yvn,yvm,F,T,ykm,y2⟩,yr,yn⟩,ys,yt,yt1⟩:=HPY.o y y' ye;subst ye;obtain⟨yk,yhk⟩:∃k:ByteArray,encS y.1.1=S k:=⟨_,rfl⟩;have HYD:=L (bL.S2 ys y2);rw[yhk]at HYD;have HYM:=L (show lD y= [S yk,U Z yso,K v,U H ybi,S P,I yva yvn yvm,I F T ykm] by unfold lD;rw[y2,yhk];rfl);have HYT:=L (And.intro yt (And.intro yt1 y1));have HYR:=L (And.intro yr (And.intro yn yhk))
    have yi2:(1:Int)<=(ny:Int):=by omega
    have yi3:(ny:Int)<=(yc:Int):=by omega
    clear y1 y2 yr yn ys yt yt1 yhk
    have hcmp:∀W,ae Q 207 #[S xk,S yk] W λe w'=>e=af (U Z (eA x.1.1 y.1.1))/\E W.heap.size W w':=λW=>by
     obtain⟨x1,x2,x3⟩:=HXR.o;obtain⟨y1,y2,y3⟩:=HYR.o;have ex:xk.data.toList=x.1.1:=by unfold encS at x3;injection x3 with x3;rw[<-x3]
     have ey:yk.data.toList=y.1.1:=by unfold encS at y3;injection y3 with y3;rw[<-y3]
     have:=aAJ W xk yk (by rw[<-ex]at x2;simpa using x2) (by rw[<-ey]at y2;simpa using y2) (by rw[ex];exact x1) (by rw[ey];exact y1)
     rwa[ex,ey]at this
    have HC:=L hcmp;obtain⟨C,hC⟩:∃C,eA x.1.1 y.1.1=C:=⟨_,rfl⟩;rw[hC]at HC;have HCC:=L (show vZ x y=decide (C<=0)from by unfold vZ lY;rw[hC]);obtain⟨d0,_⟩:=HXD.o wr HO.o.2.2.2.1;obtain⟨c0,_⟩:=HYD.o wr HO.o.2.2.2.1;clear hcmp hC;have hsx:∀W:V,W=W:=λ_=>rfl
    have ney:((ny:Int)==0)=az:=by simp;omega
    by_cases hle:C<=0
    all_goals
     go_wp2_with fail
     go_region_held3 (λw'=>w'.cell? ⟨xg,xo,O⟩=J (S xk)/\w'.cell? ⟨yg,yo,O⟩=J (S yk)) (first|with_reducible exact hS|go_keep) ((go_at_call 207;(with_reducible refine(HC.o _).mono ?_);rintro e m ⟨rfl,f⟩;have f:=dN f;have hS:=And.intro (bB f d0) (bB f c0)))
     clear d0 c0 hS
    .skip;have d:=chain HO.o.2.2.2.1 f;obtain⟨-,d1,d2,d3,d4,d5,d6⟩:=HXD.o m d;have HW:=L ((aj HO.o.1 (ak (λ_=>False) f) λ_ _=>id).A0 ((R (λ_=>False) m).A4 (au #[S xk,U Z xso,K xfl,U H xbi,S xtx,I xva xvn xvm,I xka xkn xkm] 336)) λ_ _=>id);have HNW:=L (lZ m (S xk) (U Z xso) (K xfl) (U H xbi) (S xtx) (I xva xvn xvm) (I xka xkn xkm));have HB6:=L (And.intro f d);clear f d
     go_wp2_with (at_builtin;refine dD rF rfl _ _ rfl rfl HW.o ⟨m.heap.size,0,O⟩ 1 1 [S xk,U Z xso,K xfl,U H xbi,S xtx,I xva xvn xvm,I xka xkn xkm] (by rfl) rfl HNW.o ?_ (by decide) HBM.o.1 HBM.o.2 ?_)
     .intro u hu;simp at hu;rcases hu with rfl|rfl|rfl|rfl|rfl|rfl|rfl<;>rfl
     intro g' off' cap' w' i s n;have HF:=L (And.intro i (And.intro s n));clear i s n d1 d2 d3 d4 d5 d6;have q:(xc=1/\¬xc≠1)\/(¬xc=1/\¬1=xc):=by omega
     rcases q with⟨h1,_⟩|⟨h1,-⟩
     all_goals
      go_wp2_with fail;refine⟨L ?_,by simp[aGt];omega⟩;obtain⟨-,hM,t,-,hF,j,r,p⟩:=HO.o;refine lJ.I8 (x:=x) (wr:=m) j (by first|exact HXT.o.1|exact HXT.o.2.1 h1|(subst h1;exact HXT.o.2.1 rfl)) HXY.o.2 (λz hz=>r z (ag _ hz)) p (by rw[<-hM,cj,if_pos (by rw[HCC.o];exact decide_eq_true hle)];simp) (by simp at t⊢;omega) HB6.o.2 hF ((R (λ_=>False) m).A4 _) (by rw[HXM.o];exact HF.o.1) (HF.o.2.1.imp id λh=>by have:=h.1;simp at this⊢;omega) HF.o.2.2
    .skip;have d:=chain HO.o.2.2.2.1 f;obtain⟨-,d1,d2,d3,d4,d5,d6⟩:=HYD.o m d;have HW:=L ((aj HO.o.1 (ak (λ_=>False) f) λ_ _=>id).A0 ((R (λ_=>False) m).A4 (au #[S yk,U Z yso,K v,U H ybi,S P,I yva yvn yvm,I F T ykm] 336)) λ_ _=>id);have HNW:=L (lZ m (S yk) (U Z yso) (K v) (U H ybi) (S P) (I yva yvn yvm) (I F T ykm));have HB6:=L (And.intro f d);clear f d
     go_wp2_with (at_builtin;refine dD rF rfl _ _ rfl rfl HW.o ⟨m.heap.size,0,O⟩ 1 1 [S yk,U Z yso,K v,U H ybi,S P,I yva yvn yvm,I F T ykm] (by rfl) rfl HNW.o ?_ (by decide) HBM.o.1 HBM.o.2 ?_)
     .intro u hu;simp at hu;rcases hu with rfl|rfl|rfl|rfl|rfl|rfl|rfl<;>rfl
     intro g' off' cap' w' i s n;have HF:=L (And.intro i (And.intro s n));clear i s n d1 d2 d3 d4 d5 d6;have q:(yc=1/\¬yc≠1)\/(¬yc=1/\¬1=yc):=by omega
     rcases q with⟨h1,_⟩|⟨h1,-⟩
     all_goals
      go_wp2_with fail;refine⟨L ?_,by simp[aGt];omega⟩;obtain⟨-,hM,t,-,hF,j,r,p⟩:=HO.o;refine lJ.I8 (x:=y) (wr:=m) j HXY.o.1 (by first|exact HYT.o.1|exact HYT.o.2.1 h1|(subst h1;exact HYT.o.2.1 rfl)) r (λz hz=>p z (ag _ hz)) (by rw[<-hM,cj,if_neg (by rw[HCC.o];simpa using hle)];simp) (by simp at t⊢;omega) HB6.o.2 hF ((R (λ_=>False) m).A4 _) (by rw[HYM.o];exact HF.o.1) (HF.o.2.1.imp id λh=>by have:=h.1;simp at this⊢;omega) HF.o.2.2
theorem aGU(neg:Bool){a:List UInt8}(e:Int)(h:∀c∈a,isD c=true):gA (bZ neg a e)/\(bZ neg a e).digits.length<=a.length/\((bZ neg a e).exp=0\/(e<=(bZ neg a e).exp/\(bZ neg a e).exp<=e+a.length)):=by
 have o:D a 48<+:D a 48:=List.prefix_refl _;have f:(D a 48).Sublist a:=List.dropWhile_sublist _
 have d:bp (D a 48) 48<+:D a 48:=by
  have:=List.dropWhile_suffix (l:=(D a 48).reverse) (λx:UInt8=>x==48);unfold bp;rw[<-List.reverse_suffix,List.reverse_reverse];exact this
 have m:∀c t,D a 48=c::t->c≠48:=by
  intro c t g;have:=List.head?_dropWhile_not (λx:UInt8=>x==48) a;unfold D at g;rw[g]at this
  simpa using this
 have n:=f.length_le;have k:=d.length_le;unfold bZ;generalize bp (D a 48) 48=p at*;generalize D a 48=T at*
 by_cases i:p= []
 .rw[if_pos i];exact⟨⟨λc b=>by simp at b,λc t b=>by simp at b⟩,Nat.zero_le _,.inl rfl⟩
 .rw[if_neg i];refine⟨⟨λc b=>h c (f.subset (d.subset b)),λc t b=>?_⟩,by simp only;omega,.inr ⟨by simp only;omega,by simp only;omega⟩⟩;simp only at b;obtain⟨r,j⟩:=d;rw[b]at j;exact m c _ j.symm
theorem aKa.U2{l W:List UInt8}{P:Option (List UInt8)}{f:Option pU}(h:aKa l W P f):(∀c∈W++P.getD [],isD c=true)/\(W++P.getD []).length<=l.length/\(P.getD []).length<=l.length:=by
 have d:=congrArg ck h.is;rw[bj,bj]at d;refine⟨λc e=>?_,?_,?_⟩
 .rcases List.mem_append.1 e with b|b
  .exact h.dig c b
  .cases a:P with
   | none=>rw[a]at b;simp at b
   | some F=>rw[a]at b;exact(h.pt F a).2 c b
 .cases a:P with
  | none=>simp;omega
  | some F=>rw[a]at d;simp[pL]at d⊢;omega
 .cases a:P with
  | none=>simp
  | some F=>rw[a]at d;simp[pL]at d⊢;omega
theorem aI1(s:ByteArray)(w:V)(neg:Bool)(W:List UInt8)(P:Option (List UInt8))(b:Option pU)(q:aCu s.data.toList neg W P b)(t:s.size<=2147483648):
 ae Q 91 #[S s] w λr w'=>r=af (wP (bitsOf s.data.toList))/\E w.heap.size w w':=by
 rw[aIY q];have c:=L (λf:V=>aGT s f neg W P b q t);obtain⟨u,k,g⟩:=q;obtain⟨l,y,T⟩:=g.U2
 have B:u.length<=s.size:=by
  have:=congrArg ck k;rw[show s.data.toList.length=s.size by simp]at this;cases neg<;>simp at this<;>omega
 have F: -351843720888329<=oV b/\oV b<=351843720888329:=by
  cases a:b with
  | none=>exact⟨by decide,by decide⟩
  | some x=>
   have:=aIZ x.X (g.ex x a).2.2.2;unfold oV;simp only;split<;>omega
 obtain⟨d,e,h⟩:=aGU neg (oV b-(P.getD []).length) l;have a:jU neg W P b=bZ neg (W++P.getD []) (oV b-(P.getD []).length):=rfl;rw[<-a]at d e h;obtain⟨⟨m,n,o⟩,p⟩:∃z,jU neg W P b=z:=⟨_,rfl⟩;rw[p]at c d e h⊢;simp only at e h;obtain⟨C,i⟩:∃C:ByteArray,(⟨n.toArray⟩:ByteArray)=C:=⟨_,rfl⟩;have j:n=C.data.toList:=by rw[<-i]
 unfold fT at c;simp only[i]at c;subst j;rw[show C.data.toList.length=C.size by simp]at e;have N:=L (λf:V=>aD8 m C o f d (by omega) (by omega) (by omega));clear p k g l y d i a;generalize cD ⟨m,C.data.toList,o⟩=A at*;go_enter func91,ntmps91;go_wp2_with fail;refine(c.o _).mono ?_;rintro r w1 ⟨rfl,a⟩;go_wp2_with fail;refine(N.o _).mono ?_;rintro r w2 ⟨rfl,d⟩;have g:=chain a d;cases A with
 | none=>
  unfold wP;go_wp2_with fail;exact co (v:=.tuple #[U H 0,K az]) (by simp[results,results91,go_sem]) rfl ⟨rfl,g⟩
 | some x=>
  unfold wP;go_wp2_with fail;exact co (v:=.tuple #[U H (x:Nat),K true]) (by simp[results,results91,go_sem]) rfl ⟨rfl,g⟩
end Go.Proofs.YtakkmiomhackiaaGreatDoor
