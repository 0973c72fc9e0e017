/-
  The program, one part of its walk. Conditions: none.
-/
import Derived.Test.YtakkmiomhackiaaGreatDoorTd21
import Derived.Test.YtakkmiomhackiaaGreatDoorTd26
set_option linter.all false
set_option maxRecDepth 100000
set_option maxHeartbeats 16000000
open Go.Proofs.Tryz
open Bool renaming and_eq_true->bx,false->S,true->O
open Go renaming Calls->bg,Value->Q,World->X,bodyPost_ret->dt,heap_alloc_new->ct,lt_of_block->bh
open Go.Ending renaming returned->dp
open Go.Instr renaming typeAssert->av
open Go.IntKind renaming i64->K
open Go.Obj renaming cells->ai
open Go.Proofs.Tryz renaming prog->ag,results194->du
open Go.Proofs.YtakkmiomhackiaaGreatDoor.Fr renaming list->ae,object->V
open Go.Proofs.YtakkmiomhackiaaGreatDoor.Keeps renaming A1->bs,A3->ck
open Go.Proofs.YtakkmiomhackiaaGreatDoor.Ps renaming C5->bp,C7->bm,D9->cj
open Go.Proofs.YtakkmiomhackiaaGreatDoor.Sz renaming C3->bk
open Go.Proofs.YtakkmiomhackiaaGreatDoor.Tr renaming A7->ac
open Go.RowKit renaming Below->au
open Go.RowKit.Below renaming heap_alloc->cu,refl->cr
open Go.Value renaming agg->ao,bool->U,iface->N,int->Z,nilIface->dq,ownBlock->bu,pointer->H,slice->ah,string->E,tuple->aj
open List renaming append_assoc->cz,concat_eq_append->bc,cons_append->bw,drop_left->dj,eq_nil_or_concat->bz,foldl_cons->cw,foldr_cons->ar,getElem?_eq_getElem->co,length_append->ak,length_cons->aw,length_nil->dh,mem_append->af,mem_append_left->cg,mem_cons->bj,take_left->dl
open Nat renaming add_sub_cancel->di,le_refl->Y,le_trans->az,zero_le->cv
open Option renaming none->J,some->I
open Option.some renaming injEq->dm
open Or renaming inr->ba
namespace Go.Proofs.YtakkmiomhackiaaGreatDoor
open Go.RowKit
def aAD(t:Tr):Prop:=∀(F:Nat->Prop)(w:X)(v:Q),dP F w v t->bg ag 50 #[ao #[v]] w λe w'=>lS w t e w'
def kW(s e:Nat)(w:X)(o:Q)(b a:List Q)(l:List Tr)(i:Nat)(wr:X):Prop:=
 aR s e wr o i b/\(∀k,o.ownBlock=I k->w.heap.size<=k)/\kR (λk=>w.heap.size<=k/\o.ownBlock≠I k) wr a (l.take i)/\au w.heap.size w wr
theorem vN{a:Type}{l:List a}{i:Nat}{x:a}(h:l[i]?=I x):l.take (i+1)=l.take i++ [x]:=by
 rw[List.take_succ,h];rfl
theorem kW.I8{s e i g off cap f:Nat}{w wr b w':X}{m:Option Addr}{F j C:List Q}{l:List Tr}{v:Q}{t:Tr}(h:kW s e w (ah m i f) F C l i wr)(y:eJ (λk=>wr.heap.size<=k) b v t)(q:au wr.heap.size wr b)(u:l[i]?=I t)(o:Obj)
 (p:aR s e w' (ah (I ⟨g,off,J⟩) (i+1) cap) (i+1) j)(d:(ah m i f).ownBlock=I g\/b.heap.size<=g)(x:Keeps (λk=>(ah m i f).ownBlock=I k) (b.alloc o) w'):
 kW s e w (ah (I ⟨g,off,J⟩) (i+1) cap) j (C++ [v]) l (i+1) w':=by
 obtain⟨P,B,T,D⟩:=h;have R:=D.size;have W:=q.size;have r:=(bs (λ_=>False) q).A4 o;have z3:b.heap.size<=(b.alloc o).heap.size:=by simp
 have c:∀k,(ah m i f).ownBlock=I k->k<wr.heap.size:=λk e=>P.lt e
 refine⟨p,λk e=>?_,?_,?_⟩
 .obtain rfl:g=k:=by simpa[bu]using e
  exact d.elim (B g) λe=>by omega
 .rw[vN u];refine kR.M6 ?_ ?_
  .have z:=(T.A6 (G:=λk=>(w.heap.size<=k/\(ah m i f).ownBlock≠I k)/\k<wr.heap.size) λk e a=>⟨e,a⟩).A0 r λ_ _ _=>id
   refine(z.A0 x λk e _=>e.1.2).A6 λk e _=>⟨e.1.1,λa=>?_⟩
   obtain rfl:g=k:=by simpa[bu]using a
   exact d.elim e.1.2 λA=>by have:=e.2;omega
  .have z:=(y.A6 (G:=λk=>wr.heap.size<=k/\k<b.heap.size) λk e a=>⟨e,a⟩).A0 ((ck (λ_=>False) b).A4 o) λ_ _ _=>id
   refine(z.A0 x λk e _ a=>by have:=c k a;omega).A6 λk e _=>⟨by omega,λa=>?_⟩
   obtain rfl:g=k:=by simpa[bu]using a
   exact d.elim (λA=>by have:=c _ A;omega) λA=>by have:=e.2;omega
 .exact(D.trans ((r.B3 (n:=w.heap.size) R λ_=>False.elim))).trans (x.B3 (by omega) B)
theorem aGh(F:Nat->Prop)(w:X)(b:Nat)(q:Q)(f:List Q)(l:List Tr)(z0 z1 z2:Int)
 (d:w.heap[b]?=I (ai #[Z K z0,Z K z1,Z K z2,q] 186 (0,0)))(hw:Win 97 id w q f)(p:f.length=l.length)
 (ht:∀(i:Nat)(v:Q)(t:Tr),f[i]?=I v->l[i]?=I t->dP F w v t)(hl:l.length<=65536)(ih:∀t∈l,aAD t):
 bg ag 50 #[ao #[N 181 (H (I ⟨b,0,J⟩))]] w λe w'=>lS w (.list l) e w':=by
 obtain⟨a,c,rfl⟩:=hw.A8;rw[p]at d hw
 have HT:=L (λ(W:X)(G:au w.heap.size w W)(i:Nat)(hi:i<l.length)=>show ∃T x t g off,l[i]?=I t/\a=I ⟨g,off,J⟩/\W.cell? ⟨g,off+i,J⟩=I (N T x)/\bg ag 50 #[ao #[N T x]] W λe w'=>lS W t e w' from by
  rcases hw with⟨_,e⟩|⟨g,off,cap,cur,e1,hg,-,-,-,hi2⟩
  .rw[e]at p;simp at p;omega
  .injection e1 with x1 x2 x3
   subst x1;have s:l[i]?=I l[i]:=co hi;have C:f[i]?=I (f[i]'(by omega)):=co (by omega);have y:=(ht i _ _ C s).A0 (bs (λ_=>False) G) λ_ _=>id
   obtain⟨T,x,hv⟩:=y.L5;rw[hv]at y;exact⟨T,x,_,g,off,s,rfl,by rw[aA (keep hg G),<-hv];exact hi2 i _ C,ih _ (List.getElem_mem hi) F W _ y⟩)
 obtain⟨n,z⟩:∃n,l.length=n:=⟨_,rfl⟩;rw[z]at d HT hl;have HN:=L z;have ta1:∀w:X,(av (N 181 (H (I ⟨b,0,J⟩))) 97 177 O).run ag w=.ok (aj #[ao #[],U S]) w:=λ_=>by kernel_rfl
 have ta2:∀w:X,(av (N 181 (H (I ⟨b,0,J⟩))) 97 178 O).run ag w=.ok (aj #[U S,U S]) w:=λ_=>by kernel_rfl
 have ta3:∀w:X,(av (N 181 (H (I ⟨b,0,J⟩))) 97 179 O).run ag w=.ok (aj #[.float .f64 0,U S]) w:=λ_=>by kernel_rfl
 have ta4:∀w:X,(av (N 181 (H (I ⟨b,0,J⟩))) 97 180 O).run ag w=.ok (aj #[E ⟨#[]⟩,U S]) w:=λ_=>by kernel_rfl
 have ta:∀w:X,(av (N 181 (H (I ⟨b,0,J⟩))) 97 181 O).run ag w=.ok (aj #[H (I ⟨b,0,J⟩),U O]) w:=λ_=>by kernel_rfl
 have G:=(cr w.heap.size w).alloc (Y _) (ai #[N 181 (H (I ⟨b,0,J⟩))] 99);have hc:(w.alloc (ai #[N 181 (H (I ⟨b,0,J⟩))] 99)).cell? ⟨w.heap.size,0,J⟩=I (N 181 (H (I ⟨b,0,J⟩))):=cell_of_one (ct w _);have hc3:(w.alloc (ai #[N 181 (H (I ⟨b,0,J⟩))] 99)).cell? ⟨b,3,J⟩=I (ah a n c):=(aA ((cu _ _ _ (bh d)).trans d)).trans rfl;have HB:=L G;have HBK:=L d;clear G d hw ht ih p z;go_enter func50,ntmps50
 go_wp2_with (at_make;refine yZ aHV rfl _ _ rfl _ _ _ _ n rfl rfl rfl rfl ?_ ?_ ?_)
 .omega
 .unfold maxLen;omega
 intro w2 m hbm hsz;have A:=HB.o.trans (hbm.mono (by simp));have hc2:w2.cell? ⟨b,3,J⟩=I (ah a n c):=(aA (keep HBK.o A)).trans rfl;have HL0:=L (show kW 1 39 w _ [] [] l 0 w2 from⟨m,λk e=>by cases e;exact Nat.le_succ _,kR.E0 _ _,A⟩);clear m hbm hsz A hc3 hc;go_wp2_with fail
 go_loopw [51,8] (λv o wr=>∃(i:Nat)(P:List Q),v=Z K i/\i<=n/\M (kW 1 39 w o P P l i wr)) (λv _ _=>n-(intOf v).toNat)
 case atStart=>exact⟨0,[],rfl,cv _,HL0⟩
 case round=>
  obtain⟨i,P,rfl,hi,HL⟩:=hrel;obtain⟨s,C,y,h4⟩:=HL.o;obtain⟨oa,oc,rfl⟩:=s.A8
  by_cases hin:i<n
  .have e1:(i:Int)<(n:Int):=by omega
   obtain⟨T0,x0,t,g,off,R,rfl,hcell,r⟩:=HT.o wr h4 i hin;have HC:=L r;have HLT:=L R;clear s C y h4 r R;go_wp2_with fail;refine HC.o.mono ?_;rintro e w3 ⟨v',rfl,D,B⟩;obtain⟨T,x,rfl⟩:=D.L5;have HW:=L ((HL.o.1.A0 (bs (λ_=>False) B) λ_ _=>id).A0 ((ck (λ_=>False) w3).A4 (ai #[N T x] 39)) λ_ _=>id);have HAP:=L D;have HB3:=L B
   have HNC:=L (show ∀(j:Nat)(u:Q),[N T x][j]?=I u->(w3.alloc (ai #[N T x] 39)).cell? ((⟨w3.heap.size,0,J⟩:Addr).add j)=I u from λj u hj=>by
    rw[Addr.add_lit,Nat.zero_add];exact(aA (ct w3 _)).trans (by simpa using hj))
   clear D B
   go_wp2_with (at_builtin;refine dD aHV rfl _ _ rfl rfl HW.o ⟨w3.heap.size,0,J⟩ 1 1 [N T x] rfl rfl HNC.o (by intro u hu;simp at hu;subst hu;rfl) (by decide) ?_ ?_ ?_)
   .omega
   .unfold maxLen;omega
   intro g' off' cap' w' m hgb hk;have HF:=L (And.intro m (And.intro hgb hk));clear m hgb hk;go_wp2_with fail;refine⟨⟨i+1,P++ [N T x],by go_num,by omega,L (HL.o.I8 HAP.o HB3.o HLT.o _ HF.o.1 (HF.o.2.1.imp id λh=>by omega) HF.o.2.2)⟩,by simp[intOf];omega⟩
  .have e1:¬(i:Int)<(n:Int):=by omega
   clear s C y h4;go_wp2_with fail;go_ret;have hie:i=n:=by omega
   obtain⟨s,C,y,h4⟩:=HL.o;have z:=HN.o;subst hie;rw[<-z,List.take_length]at y;rw[<-z]at s;exact⟨_,rfl,.list _ P l (by rw[z];rw[z]at s;exact s) C λi v t hv ht=>(y.2 i v t hv ht).A6 λk e _=>e.1,h4⟩
section
def kA(l:List Tr):Nat:=l.foldr (λt a=>t.A7.nodes+a) 0
def jA(l:List Tr):Nat:=l.foldr (λt a=>t.A7.bytes+a) 0
def frB:Fr->Nat
 | .list _=>0
 | .object k=>bA k
def fU(l:List Fr):Nat:=l.foldr (λf a=>frB f+a) 0
theorem jQ(l m:List Tr):kA (l++m)=kA l+kA m:=by
 induction l with
 | nil=>simp[kA]
 | cons t l a=>unfold kA at a⊢;rw[bw,ar,ar,a];omega
theorem jR(l m:List Tr):jA (l++m)=jA l+jA m:=by
 induction l with
 | nil=>simp[jA]
 | cons t l a=>unfold jA at a⊢;rw[bw,ar,ar,a];omega
theorem dV(l m:List Fr):fU (l++m)=fU l+fU m:=by
 induction l with
 | nil=>simp[fU]
 | cons t l a=>unfold fU at a⊢;rw[bw,ar,ar,a];omega
theorem aIG(t:Tr):kA [t]=t.A7.nodes:=rfl
theorem aIH(t:Tr):jA [t]=t.A7.bytes:=rfl
theorem kK(f:Fr):fU [f]=frB f:=rfl
theorem wF:∀(l:List Tr)(a:Sz),((l.map ac).foldl (λ(a z:Sz)=>(⟨a.nodes+z.nodes,a.bytes+z.bytes,max a.depth z.depth⟩:Sz)) a).nodes=a.nodes+kA l/\
 ((l.map ac).foldl (λ(a z:Sz)=>(⟨a.nodes+z.nodes,a.bytes+z.bytes,max a.depth z.depth⟩:Sz)) a).bytes=a.bytes+jA l/\
 ∀D,a.depth<=D->(∀t∈l,t.A7.depth<=D)->((l.map ac).foldl (λ(a z:Sz)=>(⟨a.nodes+z.nodes,a.bytes+z.bytes,max a.depth z.depth⟩:Sz)) a).depth<=D
 | [],a=>⟨by simp[kA],by simp[jA],λD h _=>h⟩
 | t::l,a=>by
  obtain⟨e,d,f⟩:=wF l ⟨a.nodes+t.A7.nodes,a.bytes+t.A7.bytes,max a.depth t.A7.depth⟩;rw[List.map_cons,cw];have c:kA (t::l)=t.A7.nodes+kA l:=rfl;have i:jA (t::l)=t.A7.bytes+jA l:=rfl;refine⟨by rw[e,c];show a.nodes+t.A7.nodes+kA l=_;omega,by rw[d,i];show a.bytes+t.A7.bytes+jA l=_;omega,λD j b=>f D ?_ (λu g=>b u (List.mem_cons_of_mem _ g))⟩;have:=b t (List.mem_cons_self ..)
  show max a.depth t.A7.depth<=D
  omega
theorem kM(bytes:Nat)(l:List Tr):(fX bytes (l.map ac)).nodes=1+kA l/\(fX bytes (l.map ac)).bytes=bytes+jA l/\∀D,(∀t∈l,t.A7.depth<=D)->(fX bytes (l.map ac)).depth<=D+1:=by
 obtain⟨b,a,c⟩:=wF l ⟨1,bytes,0⟩;rw[kT];exact⟨b,a,λD h=>Nat.succ_le_succ (c D (cv _) h)⟩
theorem aGD(t:Tr):1<=t.A7.nodes:=by
 cases t with
 | null=>simp[ac]
 | flag b=>simp[ac]
 | num b=>simp[ac]
 | text s=>simp[ac]
 | list l=>rw[jG,(kM 0 l).1];omega
 | object k l=>rw[j3,(kM _ l).1];omega
theorem nV:∀l:List Tr,l.length<=kA l
 | []=>Y _
 | t::l=>by
  have h:=nV l;have b:=aGD t;have a:kA (t::l)=t.A7.nodes+kA l:=rfl;rw[aw,a];omega
theorem wG{t:Tr}:∀{l:List Tr},t∈l->t.A7.nodes<=kA l/\t.A7.bytes<=jA l
 | u::l,h=>by
  have a:kA (u::l)=u.A7.nodes+kA l:=rfl;have b:jA (u::l)=u.A7.bytes+jA l:=rfl;rw[a,b];rcases bj.1 h with rfl|h
  .exact⟨by omega,by omega⟩
  .have:=wG h;exact⟨by omega,by omega⟩
theorem zR{f:Fr}:∀{l:List Fr},f∈l->frB f<=fU l
 | u::l,h=>by
  have a:fU (u::l)=frB u+fU l:=rfl;rw[a];rcases bj.1 h with rfl|h
  .omega
  .have:=zR h;omega
theorem nW{s:List UInt8}:∀{l:List (List UInt8)}{a:Nat},s∈l->s.length+a<=l.foldl (λa k=>a+k.length) a
 | u::l,a,h=>by
  rw[cw];rcases bj.1 h with rfl|h
  .have b:∀(l:List (List UInt8))(a:Nat),a<=l.foldl (λa k=>a+k.length) a:=by
    intro l
    induction l with
    | nil=>intro a;exact Y _
    | cons x l c=>intro a;exact az (Nat.le_add_right a x.length) (c (a+x.length))
   have:=b l (a+s.length);omega
  .have:=nW (a:=a+u.length) h;omega
inductive rJ(D:Nat):List Fr->List Tr->Prop
 | nil:rJ D [] []
 | list {ini:List Fr} {its:List Tr} (s:List Tr) (h:rJ D ini its) (hd:∀t∈s,t.A7.depth+ini.length+1<=D):rJ D (ini++ [ae s.length]) (its++s)
 | object {ini:List Fr} {its:List Tr} (k:List (List UInt8)) (s:List Tr) (h:rJ D ini its) (hd:∀t∈s,t.A7.depth+ini.length+1<=D) (hk:k.length=s.length+1):rJ D (ini++ [V k]) (its++s)
inductive eX(D:Nat):Nat->List Fr->List Tr->Prop
 | new:eX D 0 [] []
 | done (t:Tr) (hd:t.A7.depth<=D):eX D 6 [] [t]
 | list {ini:List Fr} {its:List Tr} (s:List Tr) (want:Nat) (h:rJ D ini its) (hd:∀t∈s,t.A7.depth+ini.length+1<=D) (hw:want=0\/want=1\/want=5):eX D want (ini++ [ae s.length]) (its++s)
 | object {ini:List Fr} {its:List Tr} (k:List (List UInt8)) (s:List Tr) (want:Nat) (h:rJ D ini its) (hd:∀t∈s,t.A7.depth+ini.length+1<=D)
  (hk:((want=2\/want=3\/want=5)/\k.length=s.length)\/((want=4\/want=0)/\k.length=s.length+1)):eX D want (ini++ [V k]) (its++s)
theorem eX.S6{D want:Nat}{pile:List Fr}{items:List Tr}(h:eX D want pile items)(b:want=0\/want=1):rJ D pile items:=by
 cases h with
 | new=>exact .nil
 | done t a=>omega
 | list s _ h a _=>exact .list s h a
 | object k s _ h a c=>exact .object k s h a (by omega)
theorem l5(a:List Fr)(n:Nat):more (a++ [ae n])=a++ [ae (n+1)]:=by unfold more;simp
theorem jS(a:List Fr)(k:List (List UInt8)):more (a++ [V k])=a++ [V k]:=by unfold more;simp
theorem rJ.C7{D:Nat}{pile:List Fr}{items:List Tr}{t:Tr}(h:rJ D pile items)(e:t.A7.depth+pile.length<=D):eX D (if pile= []then 6 else 5) (more pile) (items++ [t]):=by
 cases h with
 | nil=>exact .done t (by simpa using e)
 | @list c d s h b=>
  rw[if_neg (by simp),l5,cz]
  have:=eX.list (D:=D) (s++ [t]) 5 h (by
   intro u a;rcases af.1 a with a|a
   .exact b u a
   .simp at a;subst a;simp at e;omega) (ba (ba rfl))
  simpa using this
 | @object c d k s h b f=>
  rw[if_neg (by simp),jS,cz]
  exact .object k (s++ [t]) 5 h (by
   intro u a;rcases af.1 a with a|a
   .exact b u a
   .simp at a;subst a;simp at e;omega) (.inl ⟨ba (ba rfl),by simp;omega⟩)
theorem rJ.R8{D:Nat}{pile:List Fr}{items:List Tr}(h:rJ D pile items):(∀t∈items,t.A7.depth<=D)/\(∀m,ae m∈pile->m<=items.length):=by
 induction h with
 | nil=>exact⟨λt h=>by simp at h,λm h=>by simp at h⟩
 | list s h d c=>
  refine⟨λt b=>?_,λm a=>?_⟩
  .rcases af.1 b with b|b
   .exact c.1 t b
   .have:=d t b;omega
  .rcases af.1 a with a|a
   .have:=c.2 m a;rw[ak];omega
   .simp at a;rw[ak];omega
 | object k s h d e c=>
  refine⟨λt b=>?_,λm a=>?_⟩
  .rcases af.1 b with b|b
   .exact c.1 t b
   .have:=d t b;omega
  .rcases af.1 a with a|a
   .have:=c.2 m a;rw[ak];omega
   .simp at a
theorem eX.R8{D want:Nat}{pile:List Fr}{items:List Tr}(h:eX D want pile items):(∀t∈items,t.A7.depth<=D)/\(∀m,ae m∈pile->m<=items.length):=by
 cases h with
 | new=>exact⟨λt h=>by simp at h,λm h=>by simp at h⟩
 | done t a=>exact⟨λu h=>by simp at h;subst h;exact a,λm h=>by simp at h⟩
 | list s _ h a _=>exact(rJ.list s h a).R8
 | object k s _ h a e=>
  have d:=h.R8;refine⟨λt c=>?_,λm b=>?_⟩
  .rcases af.1 c with c|c
   .exact d.1 t c
   .have:=a t c;omega
  .rcases af.1 b with b|b
   .have:=d.2 m b;rw[ak];omega
   .simp at b
theorem eX.N1{D want:Nat}{pile:List Fr}{items:List Tr}(h:eX D want pile items):(want=2\/want=3\/want=4->iU pile=O)/\(want=5->pile≠ [])/\want<=6/\(want=6->pile= []/\∃t,items= [t]):=by
 cases h with
 | new=>exact⟨by omega,by omega,by omega,by omega⟩
 | done t a=>exact⟨by omega,by omega,by omega,λ_=>⟨rfl,t,rfl⟩⟩
 | list s _ h a b=>exact⟨by omega,λ_=>by simp,by omega,by omega⟩
 | object k s _ h a c=>exact⟨λ_=>by unfold iU;simp,λ_=>by simp,by omega,by omega⟩
structure cG(x:Ps)(q:Nat):Prop where
 depth:x.depth<=512
 room:x.pile.length+q<=x.depth
 nodes:x.nodes<=65536
 bytes:x.bytes<=2097152
 cnt:kA x.items+x.pile.length+q<=x.nodes
 byt:jA x.items+fU x.pile<=x.bytes
 stand:eX x.depth x.want x.pile x.items
 keys:∀k,V k∈x.pile->k.Nodup/\∀s∈k,aT s=O
 pend:q=0\/(q=1/\(x.want=0\/x.want=1))
section
variable {x y:Ps} {q:Nat}
theorem cG.M1(h:cG x q):x.items.length<=65536:=by
 have:=nV x.items;have:=h.cnt;have:=h.nodes;omega
theorem cG.Q1(h:cG x q):∀t∈x.items,t.A7.C3=O:=by
 intro t a;have c:=wG a;have b:=h.stand.R8.1 t a;have:=h.cnt;have:=h.nodes;have:=h.byt;have:=h.bytes;have:=h.depth;unfold bk;simp only[bx,decide_eq_true_eq];omega
theorem cG.S7(h:cG x q):∀m,ae m∈x.pile->m<=65536:=λm a=>az (h.stand.R8.2 m a) h.M1
theorem cG.R9(h:cG x q){k:List (List UInt8)}(b:V k∈x.pile):bH k/\k.Nodup/\bA k<=x.bytes:=by
 have c:=h.keys k b;have e:bA k<=fU x.pile:=zR b;have:=h.byt;have:=h.bytes;refine⟨λs d=>⟨c.2 s d,?_⟩,c.1,by omega⟩;have g:=nW (a:=0) d;have f:s.length<=bA k:=by unfold bA;omega
 omega
theorem aCh(l:List Fr):(more l).length=l.length:=by
 rcases bz l with rfl|⟨i,a,rfl⟩
 .rfl
 .cases a with
  | list n=>rw[bc,l5];simp
  | object k=>rw[bc,jS]
theorem aDW(l:List Fr):fU (more l)=fU l:=by
 rcases bz l with rfl|⟨i,a,rfl⟩
 .rfl
 .cases a with
  | list n=>rw[bc,l5,dV,dV];rfl
  | object k=>rw[bc,jS]
theorem uB{l:List Fr}{k:List (List UInt8)}(h:V k∈more l):V k∈l:=by
 rcases bz l with rfl|⟨i,a,rfl⟩
 .exact h
 .rw[bc]at h⊢;cases a with
  | list n=>
   rw[l5]at h;rcases af.1 h with h|h
   .exact cg _ h
   .simp at h
  | object k=>rwa[jS]at h
theorem cG.C7(d:x.depth<=512)(g:x.nodes<=65536)(f:x.bytes<=2097152){t:Tr}(i:x.pile.length<=x.depth)(e:t.A7.depth+x.pile.length<=x.depth)(j:kA x.items+t.A7.nodes+x.pile.length<=x.nodes)(h:jA x.items+t.A7.bytes+fU x.pile<=x.bytes)(c:rJ x.depth x.pile x.items)
 (b:∀k,V k∈x.pile->k.Nodup/\∀s∈k,aT s=O):cG (bm {x with items:=x.items++ [t]}) 0:=by
 refine⟨d,?_,g,f,?_,?_,c.C7 e,λk a=>b k (uB a),.inl rfl⟩
 .show(more x.pile).length+0<=x.depth
  rw[aCh];omega
 .show kA (x.items++ [t])+(more x.pile).length+0<=x.nodes
  rw[aCh,jQ,aIG];omega
 .show jA (x.items++ [t])+fU (more x.pile)<=x.bytes
  rw[aDW,jR,aIH];omega
theorem cG.G0(h:cG x 1){t:Tr}{b:Nat}(a:t.A7=⟨1,b,1⟩)(c:jA x.items+b+fU x.pile<=x.bytes):aY x.items t=x.items++ [t]/\cG (bm {x with items:=x.items++ [t]}) 0:=by
 have f:=h.cnt;have d:=h.nodes;have i:=nV x.items;have e:=h.room;have g:=h.bytes;refine⟨?_,cG.C7 h.depth h.nodes h.bytes (by omega) (by rw[a];show 1+_<=_;omega) (by rw[a];show _+1+_<=_;omega) (by rw[a];exact c) (h.stand.S6 (by have:=h.pend;omega)) h.keys⟩;unfold aY oL;rw[if_neg (by omega),if_pos (by rw[a];unfold bk;simp;omega)]
theorem cG.D0{b:Nat}(h:cG x 0)(a:x.D0 b=.ok y):cG y 1/\(x.want=0\/x.want=1)/\y={x with nodes:=x.nodes+1}:=by
 unfold Ps.D0 at a;split at a
 .cases a
 .rename_i f;split at a
  .cases a
  .rename_i d;split at a
   .cases a
   .rename_i i;cases a;have e:=h.room;have g:=h.nodes;have c:=h.cnt;exact⟨⟨h.depth,by show x.pile.length+1<=x.depth;omega,by show x.nodes+1<=65536;omega,h.bytes,by show kA x.items+x.pile.length+1<=x.nodes+1;omega,h.byt,h.stand,h.keys,ba ⟨rfl,by show x.want=0\/x.want=1;omega⟩⟩,by omega,rfl⟩
theorem cG.M7(h:cG x 1)(f:Fr)(d:f=ae 0/\y.want=1\/f=V []/\y.want=2)(c:y={x with pile:=x.pile++ [f],want:=y.want}):cG y 0:=by
 have p:=h.cnt;have o:=h.room;have j:=h.stand.S6 (by have:=h.pend;omega);have e:y.depth=x.depth:=by rw[c]
 have b:y.pile=x.pile++ [f]:=by rw[c]
 have g:y.items=x.items:=by rw[c]
 have l:y.nodes=x.nodes:=by rw[c]
 have i:y.bytes=x.bytes:=by rw[c]
 refine⟨by rw[e];exact h.depth,by rw[e,b];simp;omega,by rw[l];exact h.nodes,by rw[i];exact h.bytes,by rw[b,g,l];simp;omega,?_,?_,?_,.inl rfl⟩
 .rw[b,g,i,dV];have:=h.byt;rcases d with⟨rfl,_⟩|⟨rfl,_⟩
  .show _+(_+0)<=_;omega
  .show _+(_+0)<=_;omega
 .rw[e,b,g];rcases d with⟨rfl,m⟩|⟨rfl,m⟩
  .have:=eX.list (D:=x.depth) [] y.want j (λt h=>by simp at h) (by omega)
   simpa using this
  .have:=eX.object (D:=x.depth) [] [] y.want j (λt h=>by simp at h) (.inl ⟨by omega,rfl⟩)
   simpa using this
 .rw[b];intro k a;rcases af.1 a with a|a
  .exact h.keys k a
  .rcases d with⟨rfl,_⟩|⟨rfl,_⟩
   .simp at a
   .simp at a;subst a;exact⟨List.nodup_nil,λs n=>by simp at n⟩
theorem cG.I7(h:cG x 0){i:UInt8}(n:x.D9 i=O):cG (x.C5 po) 0:=by
 have p:=h.depth;have w:=h.room;have B:=h.nodes;have A:=h.bytes;have j:=h.cnt;have u:=h.byt;have C:=h.stand;have m:=h.keys;obtain⟨D,place,lex,items,pile,want,nodes,bytes⟩:=x;simp only at p w B A j u C m;cases C with
 | new=>simp[cj]at n
 | done t l=>simp[cj]at n
 | @list a b s _ v l g=>
  have e:(bp po ⟨D,place,lex,b++s,a++ [ae s.length],want,nodes,bytes⟩)=bm ⟨D,place,lex,eD (b++s) s.length,a,want,nodes,bytes⟩:=by
   unfold bp;simp
  obtain⟨r,f,z⟩:=kM 0 s;rw[jQ]at j;rw[jR,dV,kK]at u;simp only[ak,aw,dh]at j w;have q:=z (D-a.length-1) (λt o=>by have:=l t o;omega);rw[<-jG]at r f q
  have d:eD (b++s) s.length=b++ [.list s]:=by
   unfold eD fY;rw[if_neg (by simp),ak,di,dj,dl,if_pos];unfold bk;simp only[bx,decide_eq_true_eq];omega
  rw[e,d];have:=cG.C7 (x:=⟨D,place,lex,b,a,want,nodes,bytes⟩) (t:=.list s) p B A (by show a.length<=D;omega) (by show _+a.length<=D;omega) (by show kA b+_+a.length<=nodes;omega) (by show jA b+_+fU a<=bytes;rw[f];have:frB (ae s.length)=0:=rfl;omega) v (λk c=>m k (cg _ c));exact this
 | @object a b k s _ v l g=>
  have c:k.length=s.length:=by
   rcases g with g|g
   .exact g.2
   .unfold cj at n;simp at n;omega
  have e:(bp po ⟨D,place,lex,b++s,a++ [V k],want,nodes,bytes⟩)=bm ⟨D,place,lex,po (b++s) k,a,want,nodes,bytes⟩:=by
   unfold bp;simp
  obtain⟨y,F⟩:=m k (by simp);obtain⟨r,f,z⟩:=kM (bA k) s;rw[jQ]at j;rw[jR,dV,kK]at u;simp only[ak,aw,dh]at j w;have q:=z (D-a.length-1) (λt o=>by have:=l t o;omega);rw[<-mN y c.symm]at r f q
  have d:po (b++s) k=b++ [.object (cV k) (besides k s)]:=by
   unfold po fY;rw[if_neg (by simp;omega),ak,c,di,dj,dl,if_pos];unfold bk;simp only[bx,decide_eq_true_eq];have:frB (V k)=bA k:=rfl;omega
  rw[e,d];have:=cG.C7 (x:=⟨D,place,lex,b,a,want,nodes,bytes⟩) (t:=.object (cV k) (besides k s)) p B A (by show a.length<=D;omega) (by show _+a.length<=D;omega) (by show kA b+_+a.length<=nodes;omega) (by show jA b+_+fU a<=bytes;rw[f];have:frB (V k)=bA k:=rfl;omega) v (λk c=>m k (cg _ c));exact this
end
end
theorem aEV(l:List UInt8):∀c∈l.takeWhile isD,isD c=O:=λc a=>by
 induction l with
 | nil=>cases a
 | cons x l b=>
  by_cases h:isD x=O
  .rw[List.takeWhile_cons_of_pos h]at a;rcases bj.1 a with rfl|a
   .exact h
   .exact b a
  .rw[List.takeWhile_cons_of_neg h]at a;cases a
theorem aEW(l:List UInt8):(l.takeWhile isD).length+(l.dropWhile isD).length=l.length:=by
 have:=congrArg List.length (List.takeWhile_append_dropWhile (p:=isD) (l:=l))
 rwa[ak]at this
def aFM(l:Lit)(n:Nat):Prop:=(∀c∈l.whole,isD c=O)/\(∀c∈l.behind,isD c=O)/\(∀c∈l.exp,isD c=O)/\l.whole.length+l.behind.length+l.exp.length<=n
theorem aEX{neg:Bool}{d be r:List UInt8}{l:Lit}(h:cT neg d be r=I l)(g:∀c∈d,isD c=O)(f:∀c∈be,isD c=O):aFM l (d.length+be.length+r.length):=by
 cases r with
 | nil=>simp only[cT,dm]at h;subst h;exact⟨g,f,(λc i=>by cases i),by simp⟩
 | cons e t=>
  simp only[cT]at h;split at h
  .split at h
   .cases h
   .simp only[dm]at h;subst h;refine⟨g,f,aEV _,?_⟩;have a:=aEW (bY t).2
    have b:(bY t).2.length<=t.length:=by
     cases t with
     | nil=>exact Y _
     | cons c j=>simp only[bY];split<;>simp
    simp only[aw];omega
  .cases h
theorem aCX{neg:Bool}{e r:List UInt8}{l:Lit}(h:bC neg e r=I l)(f:∀c∈e,isD c=O):aFM l (e.length+r.length):=by
 cases r with
 | nil=>have:=aEX (be:= []) (r:= []) h f (λc g=>by cases g);simpa using this
 | cons c t=>
  simp only[bC]at h;split at h
  .split at h
   .cases h
   .obtain⟨a,b,i,d⟩:=aEX h f (aEV _);refine⟨a,b,i,az d ?_⟩;have:=aEW t;simp only[aw];omega
  .have:=aEX (be:= []) h f (λc g=>by cases g);simpa using this
theorem aCY{neg:Bool}{r:List UInt8}{l:Lit}(h:cN neg r=I l):aFM l r.length:=by
 cases r with
 | nil=>cases h
 | cons c t=>
  simp only[cN]at h;split at h
  .rename_i g;split at h
   .have:=aCX h (by intro x e;simp at e;subst e;rfl);simpa[Nat.add_comm]using this
   .obtain⟨a,b,f,d⟩:=aCX h (aEV _);exact⟨a,b,f,az d (by rw[aEW];exact Y _)⟩
  .cases h
theorem aFN{s:List UInt8}{l:Lit}(h:bG s=I l):aFM l s.length:=by
 cases s with
 | nil=>cases h
 | cons c t=>
  simp only[bG]at h;split at h
  .obtain⟨a,b,e,d⟩:=aCY h;exact⟨a,b,e,az d (by simp)⟩
  .exact aCY h
def aHe(o:Option Lit)(e:Ending):Prop:=match o with
 | some l=>e=dp (aj #[fT (cU l),dq])
 | none=>∃i:Nat,e=dp (aj #[fT ⟨S,[],0⟩,N 151 (ao #[Z K 40,Z K i])])
theorem aEY(s:ByteArray)(w:X)(o:s.size<=1073741824):bg ag 194 #[E s] w λe w'=>aHe (bG s.data.toList) e/\au w.heap.size w w':=by
 have r:s.data.toList.length=s.size:=Array.length_toList;cases f:bG s.data.toList with
 | none=>
  have g:=λw=>aBv s w o
  simp only[f]at g;clear f;go_enter func194,ntmps194;go_wp2_with fail;refine(g _).mono ?_;rintro e w1 ⟨⟨i,rfl⟩,h⟩;obtain⟨b,a,-⟩:=after1 h;have q:=bh b;have t:(0:Int)<=(i:Int):=by omega
  unfold aFj;obtain⟨u,x,y,z⟩:=cells3 b;have j:(((w1.setCell ⟨w.heap.size,0,J⟩ (U S)).setCell ⟨w.heap.size,1,J⟩ (E ⟨#[]⟩)).setCell ⟨w.heap.size,2,J⟩ (Z K 0)).heap[w.heap.size]?=I (ai #[U S,E ⟨#[]⟩,Z K 0] 339 (0,0)):=aB (aB (aB b _) _) _;have n:=(cu _ (ai #[U S,E ⟨#[]⟩,E ⟨#[]⟩,U S,E ⟨#[]⟩] 354) _ (bh j)).trans j;obtain⟨m,c1,c2,-⟩:=cells3 n;have k:=L ((((a.setCell (p:=⟨w.heap.size,0,J⟩) (Y _) (U S)).setCell (p:=⟨w.heap.size,1,J⟩) (Y _) (E ⟨#[]⟩)).setCell (p:=⟨w.heap.size,2,J⟩) (Y _) (Z K 0)).alloc (Nat.le_of_lt (bh j)) (ai #[U S,E ⟨#[]⟩,E ⟨#[]⟩,U S,E ⟨#[]⟩] 354));clear j n;clear b h a;go_wp2_with fail;exact dt (v:=aj #[fT ⟨S,[],0⟩,N 151 (ao #[Z K 40,Z K i])]) (by simp[results,du,go_sem,fT,m,c1,c2,u,x,y]) rfl ⟨⟨i,rfl⟩,k.o⟩
 | some l=>
  obtain⟨-,-,j,q⟩:=aFN f;have g:=λw=>aBv s w o
  simp only[f]at g;have n:∀c∈l.exp,48<=c.toNat/\c.toNat<=57:=λc t=>by have:=j c t;simpa[isD]using this
  have k:=λw=>aIT l.neg l.under ⟨l.whole.toArray⟩ ⟨l.behind.toArray⟩ ⟨l.exp.toArray⟩ w (by show l.whole.toArray.size+l.behind.toArray.size<=_;simp;omega) (by simpa using n) (by show l.exp.toArray.size<=_;simp;omega)
  clear f j q n;obtain⟨neg,u,be,x,y⟩:=l;obtain⟨⟨z,A,B⟩,f⟩:∃d,cU ⟨neg,u,be,x,y⟩=d:=⟨_,rfl⟩;simp only[f]at k;have C:=L f;clear f;go_enter func194,ntmps194;go_wp2_with fail;refine(g _).mono ?_;rintro e w1 ⟨rfl,h⟩;unfold aHN;obtain⟨b,a,-⟩:=after1 h;go_wp2_with fail;refine(k _).mono ?_;rintro e w2 ⟨rfl,j⟩;have f:au w1.heap.size w1 w2:=((cr w1.heap.size w1).alloc (Y _) _).trans (j.mono (by simp));have q:=keep b f;obtain⟨m,c1,c2,D⟩:=cells3 q;have n:=L (chain a f);clear h j f b q a;unfold fT;go_wp2_with fail;exact dt (v:=aj #[fT ⟨z,A,B⟩,dq]) (by simp[results,du,go_sem,fT,m,c1,c2]) rfl ⟨by rw[<-C.o];rfl,((n.o.setCell (Y _) _).setCell (Y _) _).setCell (Y _) _⟩
end Go.Proofs.YtakkmiomhackiaaGreatDoor
