/-
  The program, one part of its walk. Conditions: none.
-/
import Derived.Test.YtakkmiomhackiaaGreatDoorTd28
import Derived.Test.YtakkmiomhackiaaGreatDoorTd31
set_option linter.all false
set_option maxRecDepth 100000
set_option maxHeartbeats 16000000
open Go.Proofs.Tryz
open Bool renaming false->K,true->H,true_and->cr
open Go renaming Calls->ae,Value->bk,World->Y,heap_alloc_new->bg,lt_of_block->cj
open Go.Calls renaming quiet_of_same->ba
open Go.Ending renaming returned->ag
open Go.Instr renaming typeAssert->bp
open Go.IntKind renaming i64->O,u8->U,wrap_i64->az
open Go.Obj renaming cells->S,map->au
open Go.Proofs.Tryz renaming func112->bh,func147->ao,ntmps112->bj,ntmps147->ar,prog->E
open Go.Proofs.YtakkmiomhackiaaGreatDoor.Fr renaming list->bm,object->bw
open Go.Proofs.YtakkmiomhackiaaGreatDoor.Keeps renaming A3->ac
open Go.Proofs.YtakkmiomhackiaaGreatDoor.Ps renaming D9->bz
open Go.Result renaming ok->aj
open Go.RowKit renaming Below->bs
open Go.Value renaming bool->ah,iface->af,int->N,map->av,pointer->X,slice->V,tuple->ak
open List renaming drop_succ_cons->bc,drop_zero->bu,mem_append_left->ct
open Nat renaming le_refl->co,le_trans->ck,lt_of_lt_of_le->aw,zero_add->cg
open Option renaming none->I,some->J
open Or renaming inl->Z,inr->D
open Prod.mk renaming injEq->ai
open UInt8 renaming toNat_inj->bx
namespace Go.Proofs.YtakkmiomhackiaaGreatDoor
open Go.RowKit
def bT(s:Nat):List UInt8->Nat×Nat
 | []=>(0,s)
 | c::t=>match aQ s c with
  | none=>(0,s)
  | some a=>((bT a t).1+1,(bT a t).2)
theorem mR(s:Nat):bT s []=(0,s):=rfl
theorem eN{s:Nat}{c:UInt8}{t:List UInt8}(h:aQ s c=I):bT s (c::t)=(0,s):=by unfold bT;rw[h]
theorem cK{s a:Nat}{c:UInt8}{t:List UInt8}(h:aQ s c=J a):bT s (c::t)=((bT a t).1+1,(bT a t).2):=by
 rw[bT];rw[h]
theorem kX(c:UInt8)(t:List UInt8):cF (c::t)=isD c:=rfl
theorem iZ(c:UInt8)(t:List UInt8):over (c::t)=if isD c then over t+1 else 0:=by
 unfold over;rw[List.takeWhile_cons];split<;>rfl
theorem fP:∀l:List UInt8,cF (l.drop (over l))=K
 | []=>rfl
 | c::t=>by
  rw[iZ]
  by_cases h:isD c
  .rw[if_pos h,bc];exact fP t
  .rw[if_neg h,bu];unfold cF;simpa using h
theorem aCe{l:List UInt8}(h:cF l=K):over l=0:=by
 cases l with
 | nil=>rfl
 | cons c t=>rw[iZ,if_neg (by rw[kX]at h;rw[h];simp)]
theorem lK{s:Nat}(a:∀c,isD c=H->aQ s c=J s):∀l:List UInt8,bT s l=(over l+(bT s (l.drop (over l))).1,(bT s (l.drop (over l))).2)
 | []=>rfl
 | c::t=>by
  rw[iZ]
  by_cases h:isD c
  .rw[if_pos h,bc,cK (a c h),lK a t];simp only[ai,and_true];omega
  .rw[if_neg h,bu,cg]
theorem aKq(c:UInt8):aQ 8 c=if isD c then J 8 else I:=by unfold aQ;simp
theorem aKQ(c:UInt8):aQ 7 c=if isD c then J 8 else I:=by unfold aQ;simp
theorem aIC(c:UInt8):aQ 6 c=if c=43\/c=45 then J 7 else if isD c then J 8 else I:=by unfold aQ;simp
theorem aKr(c:UInt8):aQ 5 c=if isD c then J 5 else if c=101\/c=69 then J 6 else I:=by unfold aQ;simp
theorem aKs(c:UInt8):aQ 4 c=if isD c then J 5 else I:=by unfold aQ;simp
theorem aKt(c:UInt8):aQ 3 c=if isD c then J 3 else if c=46 then J 4 else if c=101\/c=69 then J 6 else I:=by unfold aQ;simp
theorem aKR(c:UInt8):aQ 2 c=if c=46 then J 4 else if c=101\/c=69 then J 6 else I:=by unfold aQ;simp
theorem aKS(c:UInt8):aQ 1 c=if c=48 then J 2 else if isD c then J 3 else I:=by unfold aQ;simp
theorem aID(c:UInt8):aQ 0 c=if c=45 then J 1 else if c=48 then J 2 else if isD c then J 3 else I:=by unfold aQ;simp
theorem aKT(l:List UInt8):bT 8 l=(over l,8):=by
 rw[lK (λc h=>by rw[aKq,if_pos h])];have h:=fP l;cases a:l.drop (over l)with
 | nil=>rfl
 | cons c t=>
  rw[a]at h;rw[eN (by rw[aKq,if_neg (by rw[kX]at h;rw[h];simp)])];rfl
theorem aDU{s:Nat}(a:∀c,aQ s c=if isD c then J 8 else I)(l:List UInt8):bT s l=if cF l then(over l,8)else(0,s):=by
 cases l with
 | nil=>rfl
 | cons c t=>
  show _=if isD c then _ else _
  by_cases h:isD c
  .rw[if_pos h,cK (by rw[a,if_pos h]),aKT,iZ,if_pos h]
  .rw[if_neg h,eN (by rw[a,if_neg h])]
theorem aKZ(l:List UInt8):bT 6 l=if cF (l.drop (iT l))then(iT l+over (l.drop (iT l)),8)else(iT l,if iT l=0 then 6 else 7):=by
 cases l with
 | nil=>rfl
 | cons c t=>
  show bT 6 (c::t)=if cF ((c::t).drop (if c=43\/c=45 then 1 else 0))then((if c=43\/c=45 then 1 else 0)+over ((c::t).drop (if c=43\/c=45 then 1 else 0)),8)else((if c=43\/c=45 then 1 else 0),if(if c=43\/c=45 then 1 else 0)=0 then 6 else 7)
  by_cases h:c=43\/c=45
  .simp only[if_pos h,bc,bu];rw[cK (by rw[aIC,if_pos h]),aDU aKQ];split<;>simp[Nat.add_comm]
  .simp only[if_neg h,bu]
   show _=if isD c then _ else _
   by_cases a:isD c
   .rw[if_pos a,cK (by rw[aIC,if_neg h,if_pos a]),aKT,iZ,if_pos a];simp
   .rw[if_neg a,eN (by rw[aIC,if_neg h,if_neg a])];rfl
theorem aFw{s:Nat}(b:bI s=H)(n:Nat)(l:List UInt8)(d:∀c t,l=c::t->aQ s c=if c=101\/c=69 then J 6 else I):kU n l=(n+(bT s l).1,bI (bT s l).2):=by
 cases l with
 | nil=>unfold kU;rw[mR,b];rfl
 | cons c t=>
  unfold kU;simp only
  by_cases h:c=101\/c=69
  .rw[if_pos h,cK (by rw[d c t rfl,if_pos h]),aKZ]
   by_cases a:cF (t.drop (iT t))=H
   .rw[if_pos a,if_pos a];simp only[ai];exact⟨by omega,rfl⟩
   .rw[if_neg a,if_neg a];simp only[ai];refine⟨by omega,?_⟩;split<;>rfl
  .rw[if_neg h,eN (by rw[d c t rfl,if_neg h]),b];rfl
theorem aK0(n:Nat)(l:List UInt8)(h:cF l=H):kU (n+over l) (l.drop (over l))=(n+(bT 4 l).1,bI (bT 4 l).2):=by
 cases l with
 | nil=>cases h
 | cons c t=>
  have a:isD c=H:=h;rw[cK (by rw[aKs,if_pos a]),lK (s:=5) (λc h=>by rw[aKr,if_pos h]),iZ,if_pos a,bc]
  rw[aFw (s:=5) rfl _ _ (λd u e=>by
   rw[aKr];have h:=fP t;rw[e]at h;rw[if_neg (by rw[kX]at h;rw[h];simp)])]
  simp only[ai,and_true];omega
theorem zO{s:Nat}(b:bI s=H)(n:Nat)(l:List UInt8)(f:∀c t,l=c::t->aQ s c=if c=46 then J 4 else if c=101\/c=69 then J 6 else I):eF n l=(n+(bT s l).1,bI (bT s l).2):=by
 cases l with
 | nil=>unfold eF;rw[mR,b];rfl
 | cons c t=>
  unfold eF;simp only
  by_cases h:c=46
  .rw[if_pos h,cK (by rw[f c t rfl,if_pos h])]
   by_cases a:cF t=H
   .rw[if_pos a,aK0 (n+1) t a];simp only[ai,and_true];omega
   .rw[if_neg a]
    have:bT 4 t=(0,4):=by
     cases t with
     | nil=>rfl
     | cons d u=>exact eN (by rw[aKs,if_neg (by rw[kX]at a;exact a)])
    rw[this];rfl
  .rw[if_neg h];exact aFw b n (c::t) (λd u e=>by injection e with g e2;subst g;rw[f c t rfl,if_neg h])
theorem zP{s:Nat}(f:bI s=K)(n:Nat)(l:List UInt8)(b:∀c t,l=c::t->aQ s c=if c=48 then J 2 else if isD c then J 3 else I):eT n l=(n+(bT s l).1,bI (bT s l).2):=by
 cases l with
 | nil=>unfold eT;rw[mR,f];rfl
 | cons c t=>
  unfold eT;simp only
  by_cases a:isD c=H
  .rw[if_pos a]
   by_cases h:c=48
   .rw[if_pos h,cK (by rw[b c t rfl,if_pos h]),zO (s:=2) rfl _ _ (λd u _=>aKR d)];simp only[ai,and_true];omega
   .rw[if_neg h,cK (by rw[b c t rfl,if_neg h,if_pos a]),lK (s:=3) (λc h=>by rw[aKt,if_pos h]),iZ,if_pos a,bc]
    rw[zO (s:=3) rfl _ _ (λd u e=>by
     rw[aKt];have h:=fP t;rw[e]at h;rw[if_neg (by rw[kX]at h;rw[h];simp)])]
    simp only[ai,and_true];omega
  .rw[if_neg a,eN (by rw[b c t rfl,if_neg (by rintro rfl;exact a rfl),if_neg a]),f];rfl
theorem aCf(l:List UInt8):fJ l=((bT 0 l).1,bI (bT 0 l).2):=by
 cases l with
 | nil=>rfl
 | cons c t=>
  unfold fJ;simp only
  by_cases h:c=45
  .rw[if_pos h,cK (by rw[aID,if_pos h]),zP (s:=1) rfl _ _ (λd u _=>aKS d)];simp only[ai,and_true];omega
  .rw[if_neg h,zP (s:=0) rfl 0 (c::t) (λd u e=>by injection e with a e2;subst a;rw[aID,if_neg h]),cg]
theorem aEF(F:Nat->Prop)(w:Y)(p:Nat)(x:Ps)(s:LS)(toks:List Tok)(c:Nat)(b:aG F w p x s toks)(m:x.nodes<=65536)(h:x.pile.length<=1048576):
 ae E 112 #[X (J ⟨p,0,I⟩),.agg #[N O c,N O 1,N U 123]] w λe w'=>cH e/\dH F w p s toks ((x.D0 c).map λp=>{p with pile:=p.pile++ [bw []],want:=2}) e w':=by
 have l:Keeps (λ_=>False) w (w.alloc (S #[N O c,N O 1,N U 123] 238)):=(ac _ w).A4 _;have n:=b.lt;have d:=b.M8;have Q:=b.B6 l (λ_ _=>id);have HV:=L (sZ F _ p x s toks c Q m);have R:=L l;have HLT:=L n;have f:=bg w (S #[N O c,N O 1,N U 123] 238);have P:(w.alloc (S #[N O c,N O 1,N U 123] 238)).cell? ⟨w.heap.size,0,I⟩=J (N O c):=aA f;have b2:(w.alloc (S #[N O c,N O 1,N U 123] 238)).cell? ⟨w.heap.size,2,I⟩=J (N U 123):=aA f;have T:=L d;cases a:x.D0 c with
 | error q=>
  obtain⟨no,a2⟩:=q;rw[a]at HV;clear l b Q n f d a m h;go_enter bh,bj;go_wp2_with fail;refine(HV.o).mono ?_;rintro e w2 ⟨-,i,W,j⟩;have HK:=L ((R.o.A6 (G:=F) (λ_ b=>b.elim)).B8 i);have r:=L j;clear i j;have j:=L W;unfold bR at W;subst W;go_wp2_with fail;exact⟨rfl,D ⟨_,_,rfl⟩,HK.o,rfl,r.o⟩
 | ok y=>
  have j:y.pile=x.pile:=by
   unfold Ps.D0 at a;split at a
   .cases a
   .split at a
    .cases a
    .split at a
     .cases a
     .cases a;rfl
  rw[a]at HV;have HYP:=L j;have HPL:=L h;clear l b Q n f d a m j h;go_enter bh,bj;go_wp2_with fail;refine(HV.o).mono ?_;rintro e w2 ⟨h,i,W,hpar⟩;subst W;have u:Keeps F w w2:=(R.o.A6 (G:=F) (λ_ b=>b.elim)).B8 i;obtain⟨-,FL,FM,FP,lb,mb,z,a,A,v,B,C,j⟩:=hpar;obtain⟨-,-,-,-,d4,-,-,-,-,-,-⟩:=bX v;have l:Keeps (λ_=>False) w2 (((w2.alloc (au #[] 0)).alloc (S #[V I 0 0,av (J w2.heap.size)] 278)).alloc (S #[af 275 (X (J ⟨w2.heap.size+1,0,I⟩))] 281)):=(((ac _ w2).A4 _).A4 _).A4 _;have m:=j.win.1.A0 l (λ_ _=>id);have HWIN:=L m;have HB:=L v;have HNE:=L (j.win.1.ne v (by decide));have q:p<w2.heap.size:=cj v
  have n:(((w2.alloc (au #[] 0)).alloc (S #[V I 0 0,av (J w2.heap.size)] 278)).alloc (S #[af 275 (X (J ⟨w2.heap.size+1,0,I⟩))] 281)).heap[w2.heap.size+1]?=J (S #[V I 0 0,av (J w2.heap.size)] 278 (0,0)):=by
   refine(Below.heap_alloc _ _ _ (by simp)).trans ?_;have:=bg (w2.alloc (au #[] 0)) (S #[V I 0 0,av (J w2.heap.size)] 278)
   rwa[World.size_alloc]at this
  have hmm:eU (((w2.alloc (au #[] 0)).alloc (S #[V I 0 0,av (J w2.heap.size)] 278)).alloc (S #[af 275 (X (J ⟨w2.heap.size+1,0,I⟩))] 281)) w2.heap.size []:=((eU.O7 w2).A0 (F:=λ_=>False) ((ac _ (w2.alloc (au #[] 0))).A4 _) id).A0 (F:=λ_=>False) ((ac _ _).A4 _) id;have HMM:=L hmm
  have hmN:z.ownBlock≠J w2.heap.size:=by
   intro e;have:=j.win.1.lt e;omega
  have HMN:=L hmN;have hmk:(Instr.makeMap 276 I).run E w2=aj (av (J w2.heap.size)) (w2.alloc (au #[] 0)):=by kernel_rfl
  have HFB:=L n;have HFBN:=L (m.ne n (by decide));have hvl:a.length<=1048576:=by rw[j.len,HYP.o];exact HPL.o
  have HKK:=L u;have f:=L A;have HHL:=L B;have HHM:=L C;have r:=L j;have HKX:=L l;have d:∀k,Since F (w.alloc (S #[N O c,N O 1,N U 123] 238)) w2 k->Since F w w2 k:=λk b=>b.elim Z (λb=>D ⟨ck (by simp) b.1,b.2⟩)
  have t:=L d;obtain⟨ta,tc,htv⟩:=j.win.1.A8;clear h i u A v B C j m n l d P b2;subst htv
  go_wp2_with (at_builtin;refine cW aAf rfl _ _ rfl rfl HWIN.o ⟨w2.heap.size+2,0,I⟩ 1 (af 275 (X (J ⟨w2.heap.size+1,0,I⟩))) rfl ?_ rfl ?_ ?_ ?_)
  .exact fN (by simp)
  .omega
  .unfold maxLen;omega
  intro g off cap w' h i d;have j:=(d.block p (by simp;omega) (λe=>HNE.o e.symm)).trans ((HKX.o.block p q id).trans HB.o);have m:=(d.block (w2.heap.size+1) (by simp) (λe=>HFBN.o e.symm)).trans HFB.o;obtain⟨-,-,-,-,e4,e5,-,-,-,-,ef⟩:=bX j;have HB3:=L j;have A:=L m;have u:=L h;have B:=L i;have l:=L d;have HK:=L ((HKX.o.A6 (G:=λk=>(V ta a.length tc).ownBlock=J k) (λ_ b=>b.elim)).F9 d (λk e=>Z e));clear j m h i d d4;go_wp2_with fail
  go_end0
  have h:Keeps (λk=>k=p) w' ((w'.setCell ⟨p,4,I⟩ (V (J ⟨g,off,I⟩) (a.length+1) cap)).setCell ⟨p,5,I⟩ (N O 2)):=((ac (λk=>k=p) w').A2 (p:=⟨p,4,I⟩) (Z rfl) _).A2 (p:=⟨p,5,I⟩) (Z rfl) _;have d:Keeps (λk=>k=p\/(V ta a.length tc).ownBlock=J k) w2 ((w'.setCell ⟨p,4,I⟩ (V (J ⟨g,off,I⟩) (a.length+1) cap)).setCell ⟨p,5,I⟩ (N O 2)):=(HK.o.A6 (λk b=>D b)).B8 (h.A6 (λk b=>Z b));have m:=r.o.win.2;have i:Keeps F w ((w'.setCell ⟨p,4,I⟩ (V (J ⟨g,off,I⟩) (a.length+1) cap)).setCell ⟨p,5,I⟩ (N O 2)):=HKK.o.B7 (d.A6 (λk b=>b.elim (λe=>e▸Z T.o) (λe=>t.o k (f.o.pile k (m k e)))));have hbp:=aB (o:=5) (aB (o:=4) HB3.o (V (J ⟨g,off,I⟩) (a.length+1) cap)) (N O 2);obtain⟨v,hwf⟩:∃v,((w'.setCell ⟨p,4,I⟩ (V (J ⟨g,off,I⟩) (a.length+1) cap)).setCell ⟨p,5,I⟩ (N O 2))=v:=⟨_,rfl⟩;rw[hwf]at h d i hbp⊢
  have hgp:g≠p:=by
   intro e;rcases B.o with b|b
   .exact f.o.self.2.2.2 (e▸m g b)
   .have h4:=b.1
    try simp at h4
    omega
  have n:∀(a0:Nat->Prop),¬a0 p->(∀k,a0 k->¬FP k)->∀k,a0 k->¬(k=p\/(V ta a.length tc).ownBlock=J k):=λa0 Q h2 k P b=>b.elim (λe=>Q (e▸P)) (λe=>h2 k P (m k e))
  refine⟨Z rfl,i,rfl,aF HLT.o i.size,FL,FM,Since FP w2 v,lb,mb,_,a++ [af 275 (X (J ⟨w2.heap.size+1,0,I⟩))],?_,hbp,HHL.o.B6 d (n FL f.o.self.2.1 (λk b=>f.o.lp k b)),HHM.o.B6 d (n FM f.o.self.2.2.1 (λk b=>f.o.mp k b)),?_⟩
  .have j:=f.o.K5 (w:=w2) (w':=v) q HHL.o.lt HHM.o.2.1
   have C:∀k,Since (Since F (w.alloc (S #[N O c,N O 1,N U 123] 238)) w2) w2 v k->Since F w v k:=
    λk b=>Since.B9 (w1:=w2) (b.elim (λb=>Z (t.o k b)) D) HKK.o.size d.size
   exact⟨λk b=>C k (j.lex k b),λk b=>C k (j.maker k b),λk b=>C k (j.pile k b),⟨Z T.o,j.self.2⟩,j.lm,j.lp,j.mp⟩
  .have j:eU v w2.heap.size []:=(HMM.o.A0 (F:=λk=>(V ta a.length tc).ownBlock=J k) ⟨l.o.os,l.o.tape,l.o.output,l.o.size,λk P hn=>l.o.block k P (λe=>hn e.symm)⟩ HMN.o).A0 h (λe=>by omega);have C:w2.heap.size<v.heap.size:=aw (aw (by simp;omega) l.o.size) h.size
   have hgm:g≠w2.heap.size:=by
    intro e;rcases B.o with b|b
    .exact HMN.o (e▸b)
    .have h4:=b.1
     try simp at h4
     omega
   refine r.o.M7 d (λk hg hF=>hg.elim (λe=>absurd (e▸hF) f.o.self.2.2.2) id) ?_ ?_ ⟨w2.heap.size+1,w2.heap.size,V I 0 0,rfl,h.C4 A.o (λe=>by omega),⟨Nat.le_succ _,aw (cj A.o) h.size,u.o.ne A.o (by decide)⟩,.E0 _ _ _ _,λ_=>rfl,j,co _,C,λe=>hgm (by cases e;rfl)⟩
   .have:=u.o.A0 h (λk e P=>hgp (by cases e;exact P))
    simpa using this
   .intro k hk3;cases hk3;exact B.o.imp id (λb=>by have h4:=b.1;(try simp at h4);show w2.heap.size<=g;omega)
theorem oD{i:Nat->Prop}{w:Y}{a:bk}{b:List Fr}{m:Fr}{d:List bk}(f:eH i w a (b++ [m]) d):
 ∃g off cap u,a=V (J ⟨g,off,I⟩) (b.length+1) cap/\w.cell? ⟨g,off+b.length,I⟩=J u/\i g/\b.length+1<=cap/\cap<=maxLen/\∃Q:Nat->Prop,(∀k,Q k->i k/\k≠g)/\jI Q w u m:=by
 obtain⟨Q,u,j,q,h,_⟩:=f.L4;have c:d.length=b.length+1:=by rw[f.len];simp
 rcases f.win.1 with⟨rfl,n⟩|⟨g,off,cap,p,rfl,o,s,-,r,hi⟩
 .rw[n]at c;simp at c
 .refine⟨g,off,cap,u,by rw[c],?_,f.win.2 g rfl,by omega,r,Q,λk l=>⟨(j k l).1,λe=>(j k l).2 (by rw[e];rfl)⟩,h⟩;rw[aA o];exact hi _ u q
theorem boxed{F:Nat->Prop}{w:Y}{p:Nat}{x:Ps}{s:LS}{toks:List Tok}(h:aG F w p x s toks)(o:Obj):aG F (w.alloc o) p x s toks:=h.B6 ((ac (λ_=>False) w).A4 o) (λ_ _=>id)
theorem rY{F:Nat->Prop}{w:Y}{o:Obj}{p:Nat}{s:LS}{toks:List Tok}{a:Out}{e:Ending}{w':Y}(c:∀k,F k->k<w.heap.size)(h:dH F (w.alloc o) p s toks a e w'):dH F w p s toks a e w':=by
 obtain⟨i,d⟩:=h;have b:Keeps F w w':=((ac F w).A4 o).B8 i;refine⟨b,?_⟩;cases a with
 | error g=>obtain⟨no,f⟩:=g;exact d
 | ok y=>exact⟨d.1,d.2.A6 (λk h=>h.elim Z (λh=>D ⟨ck (by simp) h.1,h.2⟩)) (aF c b.size)⟩
theorem aG.A9{F:Nat->Prop}{w:Y}{p:Nat}{x:Ps}{s:LS}{toks:List Tok}(h:aG F w p x s toks):aG F w.drew p x s toks:=h.B6 ((ac (λ_=>False) w).A9) (λ_ _=>id)
theorem oE{F:Nat->Prop}{w:Y}{p:Nat}{x:Ps}{s:LS}{toks:List Tok}(h:aG F w p x s toks)(n:Nat):Keeps F w (w.setCell ⟨p,5,I⟩ (N O n))/\aG (Since F w (w.setCell ⟨p,5,I⟩ (N O n))) (w.setCell ⟨p,5,I⟩ (N O n)) p {x with want:=n} s toks:=by
 obtain⟨a,j,q,m,o,l,b,c,g,e,f,d,i⟩:=h;exact oC (y:={x with want:=n}) a g f d i ((ac (λk=>k=p) w).A2 (p:=⟨p,5,I⟩) (Z rfl) _) (aB e _) rfl rfl
theorem aEG(F:Nat->Prop)(w:Y)(p:Nat)(x:Ps)(s:LS)(toks:List Tok)(a:Nat)(h:aG F w p x s toks)(m:x.want=4):
 ae E 112 #[X (J ⟨p,0,I⟩),.agg #[N O a,N O 1,N U 58]] w λe w'=>cH e/\dH F w p s toks (.ok {x with want:=0}) e w':=by
 have d:=h.lt;have l:=boxed h (S #[N O a,N O 1,N U 58] 238);have b:=bg w (S #[N O a,N O 1,N U 58] 238);have u:(w.alloc (S #[N O a,N O 1,N U 58] 238)).cell? ⟨w.heap.size,0,I⟩=J (N O a):=aA b;have b2:(w.alloc (S #[N O a,N O 1,N U 58] 238)).cell? ⟨w.heap.size,2,I⟩=J (N U 58):=aA b;have g:=L d;have A:=L l;obtain⟨W,j⟩:∃W,w.alloc (S #[N O a,N O 1,N U 58] 238)=W:=⟨_,rfl⟩;have n:=L j;obtain⟨_,B,Q,G,P,C,i,k,z,f,v,r,q⟩:=l;rw[j]at f u b2 q;have t:W.cell? ⟨p,5,I⟩=J (N O 4):=by rw[aA f];show J (N O x.want)=_;rw[m];rfl
 have y:∀o,W.frozen? ⟨p,o,I⟩=K:=free_at f;clear h d b f v r q z m;go_enter bh,bj;go_wp2_with fail
 go_end0
 have c:=oE A.o 0;rw[j]at c;exact⟨Z rfl,rY (o:=S #[N O a,N O 1,N U 58] 238) g.o ⟨by rw[n.o];exact c.1,rfl,by rw[n.o];exact c.2⟩⟩
theorem uF(F:Nat->Prop)(w:Y)(p:Nat)(x:Ps)(s:LS)(toks:List Tok)(a:Nat)(a0:aG F w p x s toks)(C:x.want=5)(b:List Fr)(m:Nat)(c:x.pile=b++ [bm m])(t:b.length<=1048576):
 ae E 112 #[X (J ⟨p,0,I⟩),.agg #[N O a,N O 1,N U 44]] w λe w'=>cH e/\dH F w p s toks (.ok {x with want:=0}) e w':=by
 have j:=a0.lt;have G:=boxed a0 (S #[N O a,N O 1,N U 44] 238);have d:=bg w (S #[N O a,N O 1,N U 44] 238);have b0:(w.alloc (S #[N O a,N O 1,N U 44] 238)).cell? ⟨w.heap.size,0,I⟩=J (N O a):=aA d;have b2:(w.alloc (S #[N O a,N O 1,N U 44] 238)).cell? ⟨w.heap.size,2,I⟩=J (N U 44):=aA d;have v:=L j;have H1:=L G;obtain⟨W,y⟩:∃W,w.alloc (S #[N O a,N O 1,N U 44] 238)=W:=⟨_,rfl⟩;have HW:=L y;obtain⟨_,FL,FM,FP,lb,mb,h,P,Q,i,hL,hM,r⟩:=G;rw[y]at i b0 b2 r;have hc5:W.cell? ⟨p,5,I⟩=J (N O 5):=by rw[aA i];show J (N O x.want)=_;rw[C];rfl
 have hf5:∀o,W.frozen? ⟨p,o,I⟩=K:=free_at i;have c4:W.cell? ⟨p,4,I⟩=J h:=by rw[aA i];rfl
 rw[c]at r;obtain⟨g,off,cap,u,rfl,l,q,f,-,a1,-,z⟩:=oD r;obtain⟨fb,rfl,-,-⟩:=z;have hta:∀w:Y,(bp (af 272 (X (J ⟨fb,0,I⟩))) 281 275 H).run E w=aj (ak #[X I,ah K]) w:=λ_=>by kernel_rfl
 have A:g≠p:=λe=>Q.self.2.2.2 (e▸q)
 have B:O.wrap ((b.length:Int)+1-1)=(b.length:Int):=by rw[az];omega
 obtain⟨n,R⟩:∃n,b.length=n:=⟨_,rfl⟩;rw[R]at t c4 l B f;have T:(W.setCell ⟨p,5,I⟩ (N O 0)).cell? ⟨g,off+n,I⟩=_:=((ac (λk=>k=p) W).A2 (p:=⟨p,5,I⟩) (Z rfl) (N O 0)).B5 l A;have c42:(W.setCell ⟨p,5,I⟩ (N O 0)).cell? ⟨p,4,I⟩=J (V (J ⟨g,off,I⟩) (n+1) cap):=by rw[aA (aB i _)];show J (V _ _ _)=_;rw[R]
 clear a0 j d i hL hM r Q C c q f;go_enter bh,bj;go_wp2_with fail;go_region;go_wp2_with fail
 go_end0
 rw[<-y];have c:=oE H1.o 0;exact⟨Z rfl,rY (o:=S #[N O a,N O 1,N U 44] 238) v.o ⟨c.1.A9,rfl,c.2.A9⟩⟩
theorem rZ(F:Nat->Prop)(w:Y)(p:Nat)(x:Ps)(s:LS)(toks:List Tok)(a:Nat)(B:aG F w p x s toks)(C:x.want=5)(b:List Fr)(ks:List (List UInt8))(c:x.pile=b++ [bw ks])(t:b.length<=1048576):
 ae E 112 #[X (J ⟨p,0,I⟩),.agg #[N O a,N O 1,N U 44]] w λe w'=>cH e/\dH F w p s toks (.ok {x with want:=3}) e w':=by
 have j:=B.lt;have G:=boxed B (S #[N O a,N O 1,N U 44] 238);have d:=bg w (S #[N O a,N O 1,N U 44] 238);have b0:(w.alloc (S #[N O a,N O 1,N U 44] 238)).cell? ⟨w.heap.size,0,I⟩=J (N O a):=aA d;have b2:(w.alloc (S #[N O a,N O 1,N U 44] 238)).cell? ⟨w.heap.size,2,I⟩=J (N U 44):=aA d;have l:=L j;have H1:=L G;obtain⟨W,v⟩:∃W,w.alloc (S #[N O a,N O 1,N U 44] 238)=W:=⟨_,rfl⟩;have HW:=L v;obtain⟨_,FL,FM,FP,lb,mb,i,P,Q,f,hL,hM,r⟩:=G;rw[v]at f b0 b2 r;have hc5:W.cell? ⟨p,5,I⟩=J (N O 5):=by rw[aA f];show J (N O x.want)=_;rw[C];rfl
 have hf5:∀o,W.frozen? ⟨p,o,I⟩=K:=free_at f;have c4:W.cell? ⟨p,4,I⟩=J i:=by rw[aA f];rfl
 rw[c]at r;obtain⟨g,off,cap,u,rfl,m,q,h,-,a0,-,y⟩:=oD r;obtain⟨R,mp,kV,rfl,-,-,-⟩:=y;have hta:∀w:Y,(bp (af 275 (X (J ⟨R,0,I⟩))) 281 275 H).run E w=aj (ak #[X (J ⟨R,0,I⟩),ah H]) w:=λ_=>by kernel_rfl
 have z:g≠p:=λe=>Q.self.2.2.2 (e▸q)
 have A:O.wrap ((b.length:Int)+1-1)=(b.length:Int):=by rw[az];omega
 obtain⟨n,T⟩:∃n,b.length=n:=⟨_,rfl⟩;rw[T]at t c4 m A h;have hcu2:(W.setCell ⟨p,5,I⟩ (N O 0)).cell? ⟨g,off+n,I⟩=_:=((ac (λk=>k=p) W).A2 (p:=⟨p,5,I⟩) (Z rfl) (N O 0)).B5 m z;have c42:(W.setCell ⟨p,5,I⟩ (N O 0)).cell? ⟨p,4,I⟩=J (V (J ⟨g,off,I⟩) (n+1) cap):=by rw[aA (aB f _)];show J (V _ _ _)=_;rw[T]
 have c52:(W.setCell ⟨p,5,I⟩ (N O 0)).cell? ⟨p,5,I⟩=J (N O 0):=by rw[aA (aB f _)];rfl
 have hf52:∀o,(W.setCell ⟨p,5,I⟩ (N O 0)).frozen? ⟨p,o,I⟩=K:=free_at (aB f _);clear B j d f hL hM r Q C c q h;go_enter bh,bj;go_wp2_with fail;go_region;go_wp2_with fail
 go_end0
 rw[<-v];have c:=oE H1.o 0;have d:=oE c.2.A9 3;exact⟨Z rfl,rY (o:=S #[N O a,N O 1,N U 44] 238) l.o ⟨c.1.A9.B7 d.1,rfl,d.2.F8 c.1.size d.1.size (λk B=>aw (l.o k B) (by simp))⟩⟩
theorem below_drewN(w:Y)(n:Nat):bs w.heap.size w (w.drewN n):=⟨rfl,rfl,rfl,co _,λ_ _=>rfl⟩
theorem aG5(w:Y)(a:Nat):ae E 358 #[X (J ⟨a,0,I⟩)] w λe w'=>e=ag (N U 93)/\w'=w:=by
 go_enter func358,ntmps358;go_wp2;go_ret;exact⟨rfl,rfl⟩
theorem aCP(w:Y)(a:Nat):ae E 359 #[X (J ⟨a,0,I⟩)] w λe w'=>e=ag (N U 125)/\w'=w:=by
 go_enter func359,ntmps359;go_wp2;go_ret;exact⟨rfl,rfl⟩
theorem aG6(w:Y)(p c want:Nat)(a:Option Addr)(m:UInt8)(g i d b f k j l:bk)(h:w.heap[p]?=J (S #[g,i,d,b,V a 0 c,N O want,f,k,j,l] 136 (0,0))):
 ae E 147 #[X (J ⟨p,0,I⟩),N U ((m.toNat:Nat):Int)] w λe w'=>e=ag (ah K)/\bs w.heap.size w w':=by
 obtain⟨-,-,-,-,n,-,-,-,-,-,-⟩:=bX h;clear h;go_enter ao,ar;go_wp2_with fail;go_region;go_wp2_with fail;go_ret;exact⟨rfl,(Below.refl _ _).drew⟩
theorem aG7(w:Y)(p g off n cap j want:Nat)(b:UInt8)(B u y r s v C t:bk)(h:w.heap[p]?=J (S #[B,u,y,r,V (J ⟨g,off,I⟩) (n+1) cap,N O want,s,v,C,t] 136 (0,0)))
 (G:w.cell? ⟨g,off+n,I⟩=J (af 272 (X (J ⟨j,0,I⟩))))(R:n<=1048576):
 ae E 147 #[X (J ⟨p,0,I⟩),N U ((b.toNat:Nat):Int)] w λe w'=>e=ag (ah (decide ((93:UInt8)=b)&&(decide (want=5)||decide (want=1)||decide (want=2))))/\bs w.heap.size w w':=by
 have T:∀w:Y,(method 565 272 (X (J ⟨j,0,I⟩)) "affidavit/parse.sign").run E w=aj (358,X (J ⟨j,0,I⟩)) w:=λ_=>by kernel_rfl
 obtain⟨-,-,-,-,P,Q,-,-,-,-,-⟩:=bX h;have z:O.wrap ((n:Int)+1-1)=(n:Int):=by rw[az];omega
 have F:((n:Int)+1==0)=K:=by simp;omega
 have A:(0:Int)<=(n:Int):=by omega
 have x:(n:Int)<(n:Int)+1:=by omega
 have o:=L (λw=>aG5 w j);clear h
 have c:((93:UInt8)≠b/\((93:Int)!=((b.toNat:Nat):Int))=H/\¬((93:Int)=((b.toNat:Nat):Int)))\/b=93:=by
  by_cases e:b=93
  .exact D e
  .refine Z ⟨λh=>e h.symm,?_,?_⟩
   .have:b.toNat≠93:=λh=>e (by rw[<-bx];exact h)
    simp;omega
   .have:b.toNat≠93:=λh=>e (by rw[<-bx];exact h)
    omega
 rcases c with⟨i,W,-⟩|rfl
 .have f:(decide ((93:UInt8)=b)&&(decide (want=5)||decide (want=1)||decide (want=2)))=K:=by rw[decide_eq_false i];rfl
  rw[f];clear i f;go_enter ao,ar;go_wp2_with fail
  go_quiet (first|(go_at_call 358;refine ba (o.o _)))
  go_wp2_with fail;go_ret;exact⟨rfl,below_drewN _ _⟩
 .have l:((((93:UInt8)).toNat:Nat):Int)=93:=rfl;rw[l]
  have d:want=5\/want=1\/want=2\/(decide (want=5)||decide (want=1)||decide (want=2))=K/\((want:Int)==5)=K/\((want:Int)==1)=K/\((want:Int)==2)=K:=by
   by_cases k:want=5
   .exact Z k
   by_cases q:want=1
   .exact D (Z q)
   by_cases m:want=2
   .exact D (D (Z m))
   exact D (D (D ⟨by simp[k,q,m],by simp;omega,by simp;omega,by simp;omega⟩))
  have a:decide ((93:UInt8)=93)=H:=rfl;rw[a,cr];rcases d with rfl|rfl|rfl|⟨f,k,q,m⟩
  rotate_left 3
  .rw[f];clear f a l;go_enter ao,ar;go_wp2_with fail
   go_quiet (first|(go_at_call 358;refine ba (o.o _)))
   go_wp2_with fail;go_ret;exact⟨rfl,below_drewN _ _⟩
  all_goals
   clear a l;go_enter ao,ar;go_wp2_with fail
   go_quiet (first|(go_at_call 358;refine ba (o.o _)))
   go_wp2_with fail;go_ret;exact⟨rfl,below_drewN _ _⟩
theorem aCQ(w:Y)(p g off n cap j want:Nat)(b:UInt8)(B u y r s v C t:bk)(h:w.heap[p]?=J (S #[B,u,y,r,V (J ⟨g,off,I⟩) (n+1) cap,N O want,s,v,C,t] 136 (0,0)))
 (G:w.cell? ⟨g,off+n,I⟩=J (af 275 (X (J ⟨j,0,I⟩))))(R:n<=1048576):
 ae E 147 #[X (J ⟨p,0,I⟩),N U ((b.toNat:Nat):Int)] w λe w'=>e=ag (ah (decide ((125:UInt8)=b)&&(decide (want=5)||decide (want=1)||decide (want=2))))/\bs w.heap.size w w':=by
 have T:∀w:Y,(method 565 275 (X (J ⟨j,0,I⟩)) "affidavit/parse.sign").run E w=aj (359,X (J ⟨j,0,I⟩)) w:=λ_=>by kernel_rfl
 obtain⟨-,-,-,-,P,Q,-,-,-,-,-⟩:=bX h;have z:O.wrap ((n:Int)+1-1)=(n:Int):=by rw[az];omega
 have F:((n:Int)+1==0)=K:=by simp;omega
 have A:(0:Int)<=(n:Int):=by omega
 have x:(n:Int)<(n:Int)+1:=by omega
 have o:=L (λw=>aCP w j);clear h
 have c:((125:UInt8)≠b/\((125:Int)!=((b.toNat:Nat):Int))=H/\¬((125:Int)=((b.toNat:Nat):Int)))\/b=125:=by
  by_cases e:b=125
  .exact D e
  .refine Z ⟨λh=>e h.symm,?_,?_⟩
   .have:b.toNat≠125:=λh=>e (by rw[<-bx];exact h)
    simp;omega
   .have:b.toNat≠125:=λh=>e (by rw[<-bx];exact h)
    omega
 rcases c with⟨i,W,-⟩|rfl
 .have f:(decide ((125:UInt8)=b)&&(decide (want=5)||decide (want=1)||decide (want=2)))=K:=by rw[decide_eq_false i];rfl
  rw[f];clear i f;go_enter ao,ar;go_wp2_with fail
  go_quiet (first|(go_at_call 359;refine ba (o.o _)))
  go_wp2_with fail;go_ret;exact⟨rfl,below_drewN _ _⟩
 .have l:((((125:UInt8)).toNat:Nat):Int)=125:=rfl;rw[l]
  have d:want=5\/want=1\/want=2\/(decide (want=5)||decide (want=1)||decide (want=2))=K/\((want:Int)==5)=K/\((want:Int)==1)=K/\((want:Int)==2)=K:=by
   by_cases k:want=5
   .exact Z k
   by_cases q:want=1
   .exact D (Z q)
   by_cases m:want=2
   .exact D (D (Z m))
   exact D (D (D ⟨by simp[k,q,m],by simp;omega,by simp;omega,by simp;omega⟩))
  have a:decide ((125:UInt8)=125)=H:=rfl;rw[a,cr];rcases d with rfl|rfl|rfl|⟨f,k,q,m⟩
  rotate_left 3
  .rw[f];clear f a l;go_enter ao,ar;go_wp2_with fail
   go_quiet (first|(go_at_call 359;refine ba (o.o _)))
   go_wp2_with fail;go_ret;exact⟨rfl,below_drewN _ _⟩
  all_goals
   clear a l;go_enter ao,ar;go_wp2_with fail
   go_quiet (first|(go_at_call 359;refine ba (o.o _)))
   go_wp2_with fail;go_ret;exact⟨rfl,below_drewN _ _⟩
theorem mA(F:Nat->Prop)(w:Y)(p:Nat)(x:Ps)(s:LS)(toks:List Tok)(c:UInt8)(G:aG F w p x s toks)(v:x.pile.length<=1048576):
 ae E 147 #[X (J ⟨p,0,I⟩),N U ((c.toNat:Nat):Int)] w λe w'=>e=ag (ah (x.D9 c))/\bs w.heap.size w w':=by
 obtain⟨-,P,Q,R,T,W,q,y,-,i,-,-,r⟩:=G;rcases pA x.pile with d|⟨f,A,b⟩
 .obtain⟨a,cap,rfl⟩:=mV r;unfold dJ at i;rw[d,List.length_nil]at i;have j:x.D9 c=K:=by unfold bz;rw[d];rfl
  rw[j];exact aG6 w p cap x.want a c _ _ _ _ _ _ _ _ i
 .rw[b]at r;obtain⟨g,off,cap,u,rfl,l,B,z,C,a0,hQ,n⟩:=oD r;have o:f.length<=1048576:=by rw[b]at v;simp at v;omega
  cases A with
  | list m=>
   obtain⟨t,rfl,-,-⟩:=n
   have j:x.D9 c=(decide ((93:UInt8)=c)&&(decide (x.want=5)||decide (x.want=1)||decide (x.want=2))):=by
    have h:x.pile.getLast?=J (bm m):=by rw[b];simp
    unfold bz;rw[h];rfl
   rw[j];exact aG7 w p g off f.length cap t x.want c _ _ _ _ _ _ _ _ i l o
  | object k=>
   obtain⟨t,mp,kV,rfl,-,-,-⟩:=n
   have j:x.D9 c=(decide ((125:UInt8)=c)&&(decide (x.want=5)||decide (x.want=1)||decide (x.want=2))):=by
    have h:x.pile.getLast?=J (bw k):=by rw[b];simp
    unfold bz;rw[h];rfl
   rw[j];exact aCQ w p g off f.length cap t x.want c _ _ _ _ _ _ _ _ i l o
theorem aJe(F:Nat->Prop)(w:Y)(p:Nat)(x:Ps)(s:LS)(toks:List Tok)(a:List Fr)(m:Nat)(r:aG F w p x s toks)(d:x.pile=a++ [bm m])(y:∀t∈x.items,t.A7.C3=H)(z:x.items.length<=65536)(hm:∀m,bm m∈x.pile->m<=1073741824)(hil:a.length<=1048576):
 ae E 148 #[X (J ⟨p,0,I⟩)] w λe w'=>e=ag (ak #[])/\Keeps F w w'/\aG (Since F w w') w' p (Ps.C7 {x with pile:=a,items:=eD x.items m}) s toks:=by
 obtain⟨h,FL,FM,FP,lb,mb,pileV,vals,q,W,hL,hM,hP⟩:=r;rw[d]at hP;obtain⟨g,off,cap,u,rfl,A,hFg,B,hcm,a0,hQ,hfr⟩:=oD hP;obtain⟨C,rfl,G,P⟩:=hfr;have ta1:∀w:Y,(bp (af 272 (X (J ⟨C,0,I⟩))) 281 272 H).run E w=aj (ak #[X (J ⟨C,0,I⟩),ah H]) w:=λ_=>by kernel_rfl
 have i:=hP.T9 rfl;have Q:C≠p:=λe=>q.self.2.2.2 (e▸(hQ C P).1)
 have HM:=L (λ(w1:Y)(b:Keeps (λk=>k=p) w w1)(f:w1.heap[p]?=J (S (dJ {x with pile:=a} lb mb (V (J ⟨g,off,I⟩) a.length cap)) 136 (0,0)))=>
  (aDw FM w1.drew mb x.items m (hM.B6 b.A9 (λk r(e:k=p)=>q.self.2.2.1 (e▸r))) y z).mono (R':=λe w2=>(∃v,e=ag v)/\Keeps F w w2/\aG (Since F w w2) w2 p {x with pile:=a,items:=eD x.items m} s toks) λe w2 ⟨T,c,l⟩=>by
   have j:Keeps FM w1 w2:=⟨c.os,c.tape,c.output,c.size,c.block⟩;have R:Keeps F w w1:=b.A6 λk e=>e▸q.self.1
   have:=kN (x:={x with pile:=a}) (aF h b.size) q.O3 f (hL.B6 b (λk r e=>q.self.2.1 (e▸r))) (i.A0 b (λk r e=>q.self.2.2.2 (e▸r))) j (λk r=>aw (hM.2.1 k r) b.size) l;exact⟨T,R.B7 this.1,this.2.F8 b.size j.size h⟩)
 have R:=L (λw2(r:aG (Since F w w2) w2 p {x with pile:=a,items:=eD x.items m} s toks)=>oS _ w2 p _ s toks r (λm hm'=>hm m (by rw[d];exact ct _ hm')) (by show a.length<=_;omega));have hr1:O.wrap ((a.length:Int)+1-1)=(a.length:Int):=by rw[az];omega
 obtain⟨n,hn⟩:∃n,a.length=n:=⟨_,rfl⟩;have c4:w.cell? ⟨p,4,I⟩=J (V (J ⟨g,off,I⟩) (n+1) cap):=by rw[aA W,<-hn];rfl
 have cf:∀o,w.frozen? ⟨p,o,I⟩=K:=free_at W;have j:=aB (o:=4) W (V (J ⟨g,off,I⟩) n cap);rw[hn]at hil A hr1 B HM;have HFB:=L G;have T:=L Q;have HLT:=L h;have hc1:(0:Int)<=(n:Int):=by omega
 have hc2:(n:Int)<=(cap:Int):=by omega
 have l:=L j;clear h q W hL hM hP hQ G P i d y z hm hFg j hcm;go_enter func148,ntmps148;go_wp2_with fail;go_region;go_wp2_with fail;go_region;have b:Keeps (λk=>k=p) w (w.setCell ⟨p,4,I⟩ (V (J ⟨g,off,I⟩) n cap)).drew.drew:=((ac (λk=>k=p) w).A2 (p:=⟨p,4,I⟩) (Z rfl) _).A9.A9;have f:(w.setCell ⟨p,4,I⟩ (V (J ⟨g,off,I⟩) n cap)).drew.drew.heap[p]?=J (S (dJ {x with pile:=a} lb mb (V (J ⟨g,off,I⟩) n cap)) 136 (0,0)):=l.o;have d:=HM.o _ b f;obtain⟨i,h⟩:∃i,(w.setCell ⟨p,4,I⟩ (V (J ⟨g,off,I⟩) n cap)).drew.drew=i:=⟨_,rfl⟩;rw[h]at b f d⊢;obtain⟨-,-,-,y,-,-,-,-,-,-,-⟩:=bX f;have q:i.cell? ⟨C,0,I⟩=J (N O m):=aA (b.C4 HFB.o T.o);have j:=L d;clear b f d h c4 cf A l;go_wp2_with fail
 go_region_with (go_at_call 173;refine(j.o).mono ?_;rintro e w2 ⟨⟨v,rfl⟩,c,b⟩)
 all_goals
  have d:=L c;have h:=L (R.o w2 b);clear c b;go_wp2_with fail;refine(h.o).mono ?_;rintro e z ⟨rfl,b,c⟩;have f:=L b;have l:=L c;clear b c;go_wp2_with fail
  go_end0
  exact⟨rfl,d.o.B7 f.o,l.o.F8 d.o.size f.o.size HLT.o⟩
theorem aEH(F:Nat->Prop)(w:Y)(p:Nat)(x:Ps)(s:LS)(toks:List Tok)(a:List Fr)(h:List (List UInt8))(z:aG F w p x s toks)(d:x.pile=a++ [bw h])(B:∀t∈x.items,t.A7.C3=H)(C:x.items.length<=65536)(hm:∀m,bm m∈x.pile->m<=1073741824)(hil:a.length<=1048576)(G:bH h)(P:h.Nodup)(Q:bA h<=2097152):
 ae E 148 #[X (J ⟨p,0,I⟩)] w λe w'=>e=ag (ak #[])/\Keeps F w w'/\aG (Since F w w') w' p (Ps.C7 {x with pile:=a,items:=po x.items h}) s toks:=by
 obtain⟨i,FL,FM,FP,lb,mb,pileV,vals,l,hb,hL,hM,hP⟩:=z;rw[d]at hP;obtain⟨g,off,cap,u,rfl,R,hFg,T,hcm,a0,hQ,hfr⟩:=oD hP;obtain⟨A,mp,kV,rfl,W,hQb,j,hkz,-,-⟩:=hfr;have ta1:∀w:Y,(bp (af 275 (X (J ⟨A,0,I⟩))) 281 272 H).run E w=aj (ak #[X I,ah K]) w:=λ_=>by kernel_rfl
 have ta2:∀w:Y,(bp (af 275 (X (J ⟨A,0,I⟩))) 281 275 H).run E w=aj (ak #[X (J ⟨A,0,I⟩),ah H]) w:=λ_=>by kernel_rfl
 obtain⟨ka,kc,hkve⟩:=j.1.A8;subst hkve;have q:=hP.T9 rfl;have hfbp:A≠p:=λe=>l.self.2.2.2 (e▸(hQ A hQb).1)
 have HM:=L (λ(w1:Y)(b:Keeps (λk=>k=p) w w1)(f:w1.heap[p]?=J (S (dJ {x with pile:=a} lb mb (V (J ⟨g,off,I⟩) a.length cap)) 136 (0,0)))=>
  (aA3 FM w1.drew mb h.length kc ka x.items h (hM.B6 b.A9 (λk z(e:k=p)=>l.self.2.2.1 (e▸z))) B C (j.1.A0 b.A9 (λk z(e:k=p)=>l.self.2.2.2 (e▸(hQ _ (j.2 k z)).1))) hkz G P Q).mono (R':=λe w2=>(∃v,e=ag v)/\Keeps F w w2/\aG (Since F w w2) w2 p {x with pile:=a,items:=po x.items h} s toks) λe w2 ⟨he,c,y⟩=>by
   have r:Keeps FM w1 w2:=⟨c.os,c.tape,c.output,c.size,c.block⟩;have hkF:Keeps F w w1:=b.A6 λk e=>e▸l.self.1
   have:=kN (x:={x with pile:=a}) (aF i b.size) l.O3 f (hL.B6 b (λk z e=>l.self.2.1 (e▸z))) (q.A0 b (λk z e=>l.self.2.2.2 (e▸z))) r (λk z=>aw (hM.2.1 k z) b.size) y;exact⟨he,hkF.B7 this.1,this.2.F8 b.size r.size i⟩)
 have HPUT:=L (λw2(z:aG (Since F w w2) w2 p {x with pile:=a,items:=po x.items h} s toks)=>oS _ w2 p _ s toks z (λm hm'=>hm m (by rw[d];exact ct _ hm')) (by show a.length<=_;omega));have hr1:O.wrap ((a.length:Int)+1-1)=(a.length:Int):=by rw[az];omega
 obtain⟨n,hn⟩:∃n,a.length=n:=⟨_,rfl⟩;have c4:w.cell? ⟨p,4,I⟩=J (V (J ⟨g,off,I⟩) (n+1) cap):=by rw[aA hb,<-hn];rfl
 have cf:∀o,w.frozen? ⟨p,o,I⟩=K:=free_at hb;have r:=aB (o:=4) hb (V (J ⟨g,off,I⟩) n cap);rw[hn]at hil R hr1 T HM;have HFB:=L W;have HFBP:=L hfbp;have HLT:=L i;have hc1:(0:Int)<=(n:Int):=by omega
 have hc2:(n:Int)<=(cap:Int):=by omega
 have y:=L r;clear i l hb hL hM hP hQ W hQb q d B C hm hFg r hcm j hkz G P Q;go_enter func148,ntmps148;go_wp2_with fail;go_region;go_wp2_with fail;go_region;have b:Keeps (λk=>k=p) w (w.setCell ⟨p,4,I⟩ (V (J ⟨g,off,I⟩) n cap)).drew.drew:=((ac (λk=>k=p) w).A2 (p:=⟨p,4,I⟩) (Z rfl) _).A9.A9;have f:(w.setCell ⟨p,4,I⟩ (V (J ⟨g,off,I⟩) n cap)).drew.drew.heap[p]?=J (S (dJ {x with pile:=a} lb mb (V (J ⟨g,off,I⟩) n cap)) 136 (0,0)):=y.o;have d:=HM.o _ b f;obtain⟨j,i⟩:∃j,(w.setCell ⟨p,4,I⟩ (V (J ⟨g,off,I⟩) n cap)).drew.drew=j:=⟨_,rfl⟩;rw[i]at b f d⊢;obtain⟨-,-,-,B,-,-,-,-,-,-,-⟩:=bX f;have r:j.cell? ⟨A,0,I⟩=J (V ka h.length kc):=aA (b.C4 HFB.o HFBP.o);have l:=L d;clear b f d i c4 cf R y;go_wp2_with fail
 go_region_with (go_at_call 174;refine(l.o).mono ?_;rintro e w2 ⟨⟨v,rfl⟩,c,b⟩)
 all_goals
  have d:=L c;have i:=L (HPUT.o w2 b);clear c b;go_wp2_with fail;refine(i.o).mono ?_;rintro e y ⟨rfl,b,c⟩;have f:=L b;have q:=L c;clear b c;go_wp2_with fail
  go_end0
  exact⟨rfl,d.o.B7 f.o,q.o.F8 d.o.size f.o.size HLT.o⟩
end Go.Proofs.YtakkmiomhackiaaGreatDoor
