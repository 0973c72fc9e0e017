/-
  The program, one part of its walk. Conditions: none.
-/
import Derived.Test.YtakkmiomhackiaaGreatDoorTd16
import Derived.StillTailTactics
set_option linter.all false
set_option maxRecDepth 100000
set_option maxHeartbeats 16000000
open Go.Proofs.Tryz
open Bool renaming false->Z
open Except renaming error->bh,ok->bw
open Go renaming Calls->ag,TypeId->af,Value->I,World->S,lt_of_block->bu,maxLen->ba
open Go.Ending renaming returned->R
open Go.IntKind renaming i64->U,u64->ac,wrap_i64->cj
open Go.Lit renaming string->az
open Go.Obj renaming cells->Y
open Go.Proofs.Tryz renaming func142->aj,ntmps142->ak,prog->D,underlying263->bm,underlying3->bp
open Go.Proofs.YtakkmiomhackiaaGreatDoor.Keeps renaming A3->H
open Go.Value renaming bool->E,int->O,pointer->ah,slice->X,string->Q,tuple->ai
open Go.World renaming drewN->bx
open Go.World.ownsMap renaming lookup_int->bz,store->cg
open List renaming flatten_cons->ao,getElem?_append_left->av,getElem?_append_right->aw,getElem?_eq_some_iff->bk,mem_cons_of_mem->bj,mem_cons_self->ar
open Nat renaming add_mul->au,le_trans->bg,mul_le_mul_right->bc,sub_mul->bs
open Option renaming none->N,some->J
open Or renaming inl->ae
namespace Go.Proofs.YtakkmiomhackiaaGreatDoor
open Go.RowKit
section
theorem nN{s:Nat}:∀{a:List (List I)},(∀c∈a,c.length=s)->a.flatten.length=a.length*s
 | [],_=>by simp
 | c::a,h=>by
  rw[ao,List.length_append,nN (λx b=>h x (bj _ b)),h c (ar ..),List.length_cons,au];omega
theorem oN{s:Nat}:∀{a:List (List I)},(∀c∈a,c.length=s)->∀{i j:Nat}{c:List I},a[i]?=J c->j<s->a.flatten[i*s+j]?=c[j]?
 | [],_,_,_,_,hi,_=>by simp at hi
 | d::a,h,0,j,c,hi,b=>by
  simp at hi;subst hi;rw[ao,Nat.zero_mul,Nat.zero_add,av (by rw[h d (ar ..)];exact b)]
 | d::a,h,i+1,j,c,hi,b=>by
  have e:=h d (ar ..);rw[ao,aw (by rw[e,au];omega),e,show(i+1)*s+j-s=i*s+j by rw[au];omega];exact oN (λx f=>h x (bj _ f)) (by simpa using hi) b
theorem dS(a:List (List I))(c:List I):(a++ [c]).flatten=a.flatten++c:=by simp
def eV(b:Int)(a:Bool)(c:Nat)(s:ByteArray)(V K:I):List I:= [O U b,E a,O ac c,Q s,V,K]
def gO:I:=X N 0 0
inductive ValAt(F:Nat->Prop)(w:S):List I->Tr->Prop
 | null:ValAt F w (eV 1 Z 0 ⟨#[]⟩ gO gO) .null
 | flag (b:Bool):ValAt F w (eV 2 b 0 ⟨#[]⟩ gO gO) (.flag b)
 | num (x:Nat):ValAt F w (eV 3 Z x ⟨#[]⟩ gO gO) (.num x)
 | text (s:List UInt8):ValAt F w (eV 4 Z 0 ⟨s.toArray⟩ gO gO) (.text s)
 | list (V:I) (css:List (List I)) (l:List Tr) (hw:aR 6 34 w V l.length css.flatten) (hF:∀k,V.ownBlock=J k->F k) (hl:css.length=l.length)
  (ht:∀(i:Nat)(c:List I)(t:Tr),css[i]?=J c->l[i]?=J t->ValAt F w c t):ValAt F w (eV 5 Z 0 ⟨#[]⟩ V gO) (.list l)
 | object (V K:I) (css:List (List I)) (keys:List (List UInt8)) (l:List Tr) (hw:aR 6 34 w V l.length css.flatten) (hF:∀k,V.ownBlock=J k->F k) (hk:Win 9 encS w K keys) (hKF:∀k,K.ownBlock=J k->F k) (hl:css.length=l.length) (hkl:keys.length=l.length)
  (ht:∀(i:Nat)(c:List I)(t:Tr),css[i]?=J c->l[i]?=J t->ValAt F w c t):ValAt F w (eV 6 Z 0 ⟨#[]⟩ V K) (.object keys l)
def eZ(w:S)(k:Nat):Prop:=∃(c:Array I)(T:af),w.heap[k]?=J (Y c T (0,0))/\T≠34/\T≠9
theorem eZ.of{w:S}{b:Nat}{c:Array I}{T:af}(h:w.heap[b]?=J (Y c T (0,0)))(d:T≠34)(a:T≠9):eZ w b:=⟨c,T,h,d,a⟩
theorem aR.E4{s e n:Nat}{w:S}{v:I}{d:List I}(h:aR s e w v n d){k:Nat}(a:v.ownBlock=J k):∃c:Array I,w.heap[k]?=J (Y c e (0,0)):=by
 rcases h.2 with⟨rfl,_⟩|⟨g,off,cap,b,rfl,f,_⟩
 .cases a
 .cases a;exact⟨_,f⟩
section
variable {F G:Nat->Prop} {w w':S} {c:List I} {t:Tr}
theorem aR.L1{s n:Nat}{v:I}{b:List I}(h:aR s 34 w v n b)(f:Keeps G w w')(d:∀k,v.ownBlock=J k->G k->eZ w k):aR s 34 w' v n b:=
 h.A0 f λk e g=>by
  obtain⟨c,T,j,i,_⟩:=d k e g;obtain⟨l,a⟩:=h.E4 e;rw[j]at a;cases a;exact i rfl
theorem Win.L1{l:List (List UInt8)}{v:I}(h:Win 9 encS w v l)(d:Keeps G w w')(b:∀k,v.ownBlock=J k->G k->eZ w k):Win 9 encS w' v l:=
 h.A0 d λk e g=>by
  obtain⟨c,T,i,_,f⟩:=b k e g;obtain⟨j,a⟩:=h.E4 e;rw[i]at a;cases a;exact f rfl
theorem ValAt.A0(h:ValAt F w c t)(m:Keeps G w w')(i:∀k,F k->k<w.heap.size->G k->eZ w k):ValAt F w' c t:=by
 induction h with
 | null=>exact .null
 | flag b=>exact .flag b
 | num x=>exact .num x
 | text s=>exact .text s
 | list V a l f d n q o=>exact .list V a l (f.L1 m λk e=>i k (d k e) (f.lt e)) d n o
 | object V K a keys l f d p g n j q o=>exact .object V K a keys l (f.L1 m λk e=>i k (d k e) (f.lt e)) d (p.L1 m λk e=>i k (g k e) (p.lt e)) g n j o
theorem ValAt.A6(h:ValAt F w c t)(i:∀k,F k->k<w.heap.size->G k):ValAt G w c t:=by
 induction h with
 | null=>exact .null
 | flag b=>exact .flag b
 | num x=>exact .num x
 | text s=>exact .text s
 | list V a l d g j p m=>exact .list V a l d (λk e=>i k (g k e) (d.lt e)) j m
 | object V K a keys l d g o n j f p m=>exact .object V K a keys l d (λk e=>i k (g k e) (d.lt e)) o (λk e=>i k (n k e) (o.lt e)) j f m
theorem ValAt.A8(h:ValAt F w c t):∃(i:Int)(v:Bool)(r:Nat)(s:ByteArray)(a:Option Addr)(n m:Nat)(b:Option Addr)(p q:Nat),c=eV i v r s (X a n m) (X b p q):=by
 cases h with
 | null=>exact⟨_,_,_,_,_,_,_,_,_,_,rfl⟩
 | flag b=>exact⟨_,_,_,_,_,_,_,_,_,_,rfl⟩
 | num x=>exact⟨_,_,_,_,_,_,_,_,_,_,rfl⟩
 | text s=>exact⟨_,_,_,_,_,_,_,_,_,_,rfl⟩
 | list V e l f o u j=>
  obtain⟨a,c,rfl⟩:=f.A8;exact⟨_,_,_,_,_,_,_,_,_,_,rfl⟩
 | object V K e keys l f o k y u g j=>
  obtain⟨a,c,rfl⟩:=f.A8;obtain⟨b,d,rfl⟩:=k.A8;exact⟨_,_,_,_,_,_,_,_,_,_,rfl⟩
theorem ValAt.O8(h:ValAt F w c t):c.length=6:=by cases h<;>rfl
end
def lU(F:Nat->Prop)(w:S)(a:List (List I))(l:List Tr):Prop:=a.length=l.length/\∀(i:Nat)(c:List I)(t:Tr),a[i]?=J c->l[i]?=J t->ValAt F w c t
section
variable {F G:Nat->Prop} {w w':S} {css:List (List I)} {l:List Tr}
theorem lU.A0(h:lU F w css l)(b:Keeps G w w')(a:∀k,F k->k<w.heap.size->G k->eZ w k):lU F w' css l:=⟨h.1,λi c t e d=>(h.2 i c t e d).A0 b a⟩
theorem lU.A6(h:lU F w css l)(a:∀k,F k->k<w.heap.size->G k):lU G w css l:=⟨h.1,λi c t d b=>(h.2 i c t d b).A6 a⟩
theorem lU.E0(F:Nat->Prop)(w:S):lU F w [] []:=⟨rfl,λi c t a=>by simp at a⟩
theorem lU.U1(h:lU F w css l):∀c∈css,c.length=6:=by
 intro c b;obtain⟨i,hi⟩:=List.getElem?_of_mem b;have a:i<l.length:=by rw[<-h.1];exact(bk.1 hi).1
 exact(h.2 i c _ hi (List.getElem?_eq_getElem a)).O8
theorem lU.M6{c:List I}{t:Tr}(h:lU F w css l)(f:ValAt F w c t):lU F w (css++ [c]) (l++ [t]):=by
 refine⟨by simp[h.1],λi x y a b=>?_⟩
 by_cases hi:i<css.length
 .rw[av hi]at a;rw[av (by have:=h.1;omega)]at b;exact h.2 i x y a b
 .rw[aw (by omega)]at a;rw[aw (by have:=h.1;omega)]at b
  have e:i-css.length=0:=by
   have:=(bk.1 a).1;simp at this;omega
  have d:i-l.length=0:=by have:=h.1;omega
  rw[e]at a;rw[d]at b;simp at a b;subst a;subst b;exact f
end
def aH6:List (List UInt8)->DataW Unit
 | []=>.map []
 | k::r=>(aH6 r).put (az k) (.lit (.int U 1))
theorem aBM:∀r,Maps.IsMap (aH6 r)
 | []=>Maps.isMap_empty
 | k::r=>(aBM r).put _ _
theorem aFo{k:List UInt8}(z:DataW Unit):∀(r:List (List UInt8)),(aH6 r).atKey (az k) z=if k∈r then .lit (.int U 1)else z
 | []=>rfl
 | x::r=>by
  unfold aH6
  by_cases h:k=x
  .subst h;rw[Maps.atKey_put_same (aBM r) (show WideAt.IsKeyLit (az _)from trivial)];simp
  .rw[Maps.atKey_put_other (by simpa using h),aFo z r];simp[h]
def dT(w:S)(b:Nat)(r:List (List UInt8)):Prop:=w.ownsMap D 9 (plainElem D 3) b r.length (aH6 r)
section
variable {w:S} {b:Nat} {r:List (List UInt8)} {k:List UInt8}
theorem dT.T6(h:dT w b r)(f:k.length<=ba):(Instr.lookup 263 (.map (J b)) (encS k) Z).run D w=.ok (O U (if k∈r then 1 else 0)) w:=by
 obtain⟨c,d,a,_⟩:=bz h pH bm bp (aH4 w) (aDB k f);rw[aFo]at a
 by_cases e:k∈r
 .rw[if_pos e]at a⊢;cases a;exact d
 .rw[if_neg e]at a⊢;cases a;exact d
theorem dT.C7(h:dT w b r)(c:r.length<=4194304)(a:k.length<=ba):∃w',(Instr.mapUpdate 263 (.map (J b)) (encS k) (O U 1)).run D w=.ok () w'/\dT w' b (k::r)/\w.mapTurned w' b:=
 cg h pH bm (by unfold ba;omega) (aDB k a) (plainElem_int bp (aKM 1 (by omega)))
theorem dT.O7(w:S):dT (w.alloc (.map #[] 0)) w.heap.size []:=World.ownsMap_made w _ _ _
theorem dT.A0{F:Nat->Prop}{w':S}(h:dT w b r)(c:Keeps F w w')(g:¬F b):dT w' b r:=by
 obtain⟨f,a,e,d⟩:=h;exact⟨f,a,c.C4 e g,d⟩
theorem dT.L1{G:Nat->Prop}{w':S}(h:dT w b r)(f:Keeps G w w')(e:G b->eZ w b):dT w' b r:=
 h.A0 f λg=>by
  obtain⟨c,T,i,_⟩:=e g;obtain⟨k,a,d,j⟩:=h;rw[i]at d;cases d
theorem dT.ne{g:Nat}{c:Array I}{T:af}(h:dT w b r)(f:w.heap[g]?=J (Y c T (0,0))):b≠g:=by
 intro e;obtain⟨j,a,d,i⟩:=h;rw[e,f]at d;cases d
end
section
variable {s e n:Nat} {w:S} {g off cap:Nat} {cs:List I}
theorem aR.B0(h:aR s e w (X (J ⟨g,off,N⟩) n cap) n cs){k:Nat}(m:k<=n):aR s e w (X (J ⟨g,off,N⟩) k cap) k (cs.take (k*s)):=by
 rcases h with⟨i,⟨c,_⟩|⟨q,d,f,b,c,l,r,o,p,hi⟩⟩
 .cases c
 .cases c;have:=bc s m;exact⟨by rw[List.length_take,i];omega,.inr ⟨g,off,cap,b,rfl,l,by omega,o,p,λj u a=>hi j u (by rw[List.getElem?_take]at a;split at a;exact a;cases a)⟩⟩
theorem aR.L6(h:aR s e w (X (J ⟨g,off,N⟩) n cap) n cs){k:Nat}(m:k<=n):aR s e w (X (J ⟨g,off+k*s,N⟩) (n-k) (cap-k)) (n-k) (cs.drop (k*s)):=by
 rcases h with⟨i,⟨b,_⟩|⟨q,c,d,a,b,l,o,r,t,hi⟩⟩
 .cases b
 .cases b;have p:=bc s (bg m o);refine⟨by rw[List.length_drop,i,bs],.inr ⟨g,off+k*s,cap-k,a,rfl,l,by omega,by rw[bs];omega,by omega,λj u f=>?_⟩⟩;rw[List.getElem?_drop]at f;rw[Nat.add_assoc];exact hi _ u f
theorem aR.D6(h:aR s e w (X (J ⟨g,off,N⟩) n cap) n cs)(j:Nat)(u:I):aR s e (w.setCell ⟨g,off+j,N⟩ u) (X (J ⟨g,off,N⟩) n cap) n (cs.set j u):=by
 rcases h with⟨m,⟨f,_⟩|⟨t,k,l,d,f,p,o,q,r,hi⟩⟩
 .cases f
 .cases f;refine⟨by simp[m],.inr ⟨g,off,cap,d.setIfInBounds (off+j) u,rfl,aB p u,o,by simpa using q,r,λi x a=>?_⟩⟩;rw[Array.getElem?_setIfInBounds];rw[List.getElem?_set]at a
  by_cases b:j=i
  .subst b;rw[if_pos rfl]at a⊢;split at a
   .rename_i c;cases a;rw[m]at c;have:=bc s o;rw[if_pos (by omega)]
   .cases a
  .rw[if_neg b]at a;rw[if_neg (by omega)];exact hi i x a
theorem aR.K6(h:aR s e w (X (J ⟨g,off,N⟩) n cap) n cs)(o:Nat):w.frozen? ⟨g,o,N⟩=Z:=by
 rcases h with⟨_,⟨a,_⟩|⟨i,b,c,d,a,f,_⟩⟩
 .cases a
 .cases a;exact free_at f o
theorem aR.J6(h:aR s e w (X (J ⟨g,off,N⟩) n cap) n cs):∃a,w.heap[g]?=J (Y a e (0,0)):=by
 rcases h with⟨_,⟨b,_⟩|⟨i,c,d,a,b,f,_⟩⟩
 .cases b
 .cases b;exact⟨a,f⟩
theorem aR.P9{v:I}(h:aR s e w v (n+1) cs):∃g off cap,v=X (J ⟨g,off,N⟩) (n+1) cap:=by
 rcases h with⟨_,⟨_,b⟩|⟨g,off,cap,a,rfl,_⟩⟩
 .omega
 .exact⟨g,off,cap,rfl⟩
end
end
section
def frC(o:Bool)(K:I)(m:Nat)(V:I):List I:= [E o,K,.map (J m),V]
structure jN(lo hi:Nat)(w:S)(o:Bool)(K:I)(m:Nat)(V:I)(css:List (List I))(f:RFr):Prop where
 obj:o=f.object
 keys:Win 9 encS w K f.keys
 kF:∀k,K.ownBlock=J k->lo<=k/\k<hi
 met:dT w m f.keys.reverse
 mF:lo<=m/\m<hi
 items:aR 6 34 w V f.items.length css.flatten
 iF:∀k,V.ownBlock=J k->lo<=k/\k<hi
 vals:lU (λk=>lo<=k/\k<hi/\V.ownBlock≠J k/\K.ownBlock≠J k/\k≠m) w css f.items
theorem jN.A0{d hi:Nat}{w w':S}{o:Bool}{K V:I}{m:Nat}{a:List (List I)}{f:RFr}{G:Nat->Prop}(h:jN d hi w o K m V a f)(b:Keeps G w w')(c:∀k,d<=k->k<hi->G k->eZ w k):jN d hi w' o K m V a f:=
 ⟨h.obj,h.keys.L1 b λk e=>c k (h.kF k e).1 (h.kF k e).2,h.kF,h.met.L1 b (c m h.mF.1 h.mF.2),h.mF,h.items.L1 b λk e=>c k (h.iF k e).1 (h.iF k e).2,h.iF,h.vals.A0 b λk e _=>c k e.1 e.2.1⟩
inductive eM(w:S):Nat->List (List I)->List RFr->Nat->Prop
 | nil (lo hi:Nat) (h:lo<=hi):eM w lo [] [] hi
 | snoc {lo mid hi:Nat} {pcs:List (List I)} {fs:List RFr} (h:eM w lo pcs fs mid) (o:Bool) (K:I) (m:Nat) (V:I) (css:List (List I)) (f:RFr) (hf:jN mid hi w o K m V css f):eM w lo (pcs++ [frC o K m V]) (fs++ [f]) hi
section
variable {w w':S} {lo hi:Nat} {pcs:List (List I)} {fs:List RFr}
theorem eM.le(h:eM w lo pcs fs hi):lo<=hi:=by
 induction h with
 | nil _ h=>exact h
 | snoc _ o K m V a f b c=>have:=b.mF;omega
theorem eM.A0{G:Nat->Prop}(h:eM w lo pcs fs hi)(g:Keeps G w w')(d:∀k,lo<=k->k<hi->G k->eZ w k):eM w' lo pcs fs hi:=by
 induction h with
 | nil _ h=>exact .nil _ _ h
 | snoc h o K m V a f c i=>
  have l:=h.le;have j:=c.mF;exact .snoc (i λk e b=>d k e (by omega)) o K m V a f (c.A0 g λk e b=>d k (by omega) b)
theorem eM.O8(h:eM w lo pcs fs hi):pcs.length=fs.length/\∀c∈pcs,c.length=4:=by
 induction h with
 | nil=>exact⟨rfl,by simp⟩
 | snoc h o K m V d f e b=>
  refine⟨by simp[b.1],λc a=>?_⟩;rcases List.mem_append.1 a with a|a
  .exact b.2 c a
  .simp at a;subst a;rfl
theorem eM.L4{f:RFr}{b:List RFr}(h:eM w lo pcs fs hi)(g:fs=b++ [f]):∃i c o K m V a,pcs=i++ [frC o K m V]/\eM w lo i b c/\jN c hi w o K m V a f:=by
 cases h with
 | nil=>simp at g
 | snoc h o K m V a j d=>
  obtain⟨rfl,e⟩:=List.append_inj' g rfl;cases e;exact⟨_,_,o,K,m,V,a,rfl,h,d⟩
end
def rdC(s:ByteArray)(d i h:Nat)(P:I)(nodes bytes:Nat)(e:Int)(f:Bool)(b:Nat)(g:ByteArray)(V K:I)(no a c:Int):Array I:=
 #[Q s,O U d,O U i,O U h,P,O U nodes,O U bytes,O U e,E f,O ac b,Q g,V,K,O U no,O U a,O U c]
structure nO(w:S)(rb:Nat)(P:I)(pcs:List (List I))(dc:List I)(r:Rr)(top:Nat):Prop where
 le:top<=w.heap.size
 win:aR 4 265 w P r.pile.length pcs.flatten
 pF:∀k,P.ownBlock=J k->rb<=k
 pile:eM w rb pcs r.pile top
 done:r.want=6->ValAt (λk=>rb<=k) w dc r.done
theorem nO.A0{w w':S}{d a:Nat}{P:I}{b:List (List I)}{f:List I}{r:Rr}{G:Nat->Prop}(h:nO w d P b f r a)(c:Keeps G w w')(g:∀k,k<w.heap.size->G k->eZ w k)(i:∀k,P.ownBlock=J k->¬G k):nO w' d P b f r a:=
 ⟨bg h.le c.size,h.win.A0 c i,h.pF,h.pile.A0 c λk _ e=>g k (Nat.lt_of_lt_of_le e h.le),λe=>(h.done e).A0 c λk _ e=>g k e⟩
def aU(w:S)(g:Nat)(s:ByteArray)(d i:Nat)(r:Rr)(b:Nat):Prop:=
 ∃P a e h f l a1 k j a2 m c,w.heap[g]?=J (Y (rdC s d i r.want P r.nodes r.bytes e h f l (X a1 k j) (X a2 m c) 0 0 0) 172 (0,0))/\nO w g P a (eV e h f l (X a1 k j) (X a2 m c)) r b
theorem aU.A0{w w':S}{m d i a:Nat}{s:ByteArray}{r:Rr}{G:Nat->Prop}(h:aU w m s d i r a)(j:Keeps G w w')(c:∀k,k<w.heap.size->¬G k):aU w' m s d i r a:=by
 obtain⟨P,b,o,t,q,x,a1,v,u,a2,p,n,l,f⟩:=h;exact⟨P,b,o,t,q,x,a1,v,u,a2,p,n,j.C4 l (c _ (bu l)),f.A0 j (λk e g=>absurd g (c k e)) λk e=>c k (f.win.lt e)⟩
theorem nO.L8{w w':S}{d a:Nat}{P:I}{b:List (List I)}{f:List I}{r:Rr}{c:Array I}(h:nO w d P b f r a)(i:w.heap[d]?=J (Y c 172 (0,0)))(j:Keeps (λk=>k=d) w w'):nO w' d P b f r a:=
 h.A0 j (λk _ e=>by subst e;exact .of i (by decide) (by decide)) λk e g=>by
  subst g;exact h.win.ne i (by decide) e
def o5(w:S)(g:Nat)(no a:Int):Prop:=
 ∃s d i n P nodes bytes c h f m a1 l j a2 e b k,i<=1073741824/\w.heap[g]?=J (Y (rdC s d i n P nodes bytes c h f m (X a1 l j) (X a2 e b) no a k) 172 (0,0))
theorem cZ{w:S}{b:Nat}{r i l a m d c j s e k g p n q f:I}{T:af}(h:w.heap[b]?=J (Y #[r,i,l,a,m,d,c,j,s,e,k,g,p,n,q,f] T (0,0))):
 (w.cell? ⟨b,0,N⟩=J r/\w.cell? ⟨b,1,N⟩=J i/\w.cell? ⟨b,2,N⟩=J l/\w.cell? ⟨b,3,N⟩=J a/\w.cell? ⟨b,4,N⟩=J m/\w.cell? ⟨b,5,N⟩=J d/\w.cell? ⟨b,6,N⟩=J c/\w.cell? ⟨b,7,N⟩=J j)/\
 (w.cell? ⟨b,8,N⟩=J s/\w.cell? ⟨b,9,N⟩=J e/\w.cell? ⟨b,10,N⟩=J k/\w.cell? ⟨b,11,N⟩=J g/\w.cell? ⟨b,12,N⟩=J p/\w.cell? ⟨b,13,N⟩=J n/\w.cell? ⟨b,14,N⟩=J q/\w.cell? ⟨b,15,N⟩=J f)/\∀o,w.frozen? ⟨b,o,N⟩=Z:=
 ⟨⟨aA h,aA h,aA h,aA h,aA h,aA h,aA h,aA h⟩,⟨aA h,aA h,aA h,aA h,aA h,aA h,aA h,aA h⟩,free_at h⟩
end
theorem qY(w:S)(b:Nat)(no a f:Int)(s:ByteArray)(d i r:Nat)(P:I)(nodes bytes:Nat)(c:Int)(m:Bool)(l:Nat)(q:ByteArray)(V K:I)
 (h:w.heap[b]?=J (Y (rdC s d i r P nodes bytes c m l q V K 0 0 0) 172 (0,0))):ag D 76 #[ah (J ⟨b,0,N⟩),O U no,O U a,O U f] w λe w'=>
 e=R (ai #[])/\Keeps (λk=>k=b) w w'/\w'.heap[b]?=J (Y (rdC s d i r P nodes bytes c m l q V K no a f) 172 (0,0)):=by
 have j:Keeps (λk=>k=b) w (((w.setCell ⟨b,13,N⟩ (O U no)).setCell ⟨b,14,N⟩ (O U a)).setCell ⟨b,15,N⟩ (O U f)):=
  (((H (λk=>k=b) w).A2 (p:=⟨b,13,N⟩) (ae rfl) _).A2 (p:=⟨b,14,N⟩) (ae rfl) _).A2 (p:=⟨b,15,N⟩) (ae rfl) _
 have n:=aB (o:=15) (aB (o:=14) (aB (o:=13) h (O U no)) (O U a)) (O U f);obtain⟨_,⟨_,_,_,_,_,u,v,t⟩,x⟩:=cZ h;have g:=L (And.intro j n);clear j n h;go_enter func76,ntmps76;go_wp2
 go_end0
 exact⟨rfl,g.o.1,g.o.2⟩
theorem eI(w:S)(b:Nat)(s:ByteArray)(d i c:Nat)(r:Rr)(h:aU w b s d i r c)(hi:i<=1073741824)(no a f:Int):ag D 76 #[ah (J ⟨b,0,N⟩),O U no,O U a,O U f] w λe w'=>
 e=R (ai #[])/\Keeps (λk=>k=b) w w'/\o5 w' b no a:=by
 obtain⟨P,l,p,u,t,y,a1,x,v,a2,q,o,j,-⟩:=h;exact(qY w b no a f _ _ _ _ _ _ _ _ _ _ _ _ _ j).mono λe w' ⟨m,g,n⟩=>⟨m,g,_,_,_,_,_,_,_,_,_,_,_,_,_,_,_,_,_,f,hi,n⟩
theorem Keeps.K8{F:Nat->Prop}{w w1 w2:S}(h:Keeps F w w1)(a:w2.heap=w1.heap)(e:w2.os=w1.os)(c:w2.tape=w1.tape)(d:w2.output=w1.output):Keeps F w w2:=
 ⟨e.trans h.os,c.trans h.tape,d.trans h.output,by rw[a];exact h.size,λk b f=>by rw[a];exact h.block k b f⟩
theorem aU.C9{w w':S}{b d i a:Nat}{s:ByteArray}{r:Rr}(h:aU w b s d i r a)(c:Keeps (λ_=>False) w w'):aU w' b s d i r a:=h.A0 c λ_ _=>id
def aKz(w:S)(a:Nat)(s:ByteArray)(d i b:Nat)(o:Except Nat Rr)(e:Ending)(w':S):Prop:=Keeps (λk=>k=a) w w'/\match o with
 | .error no=>e=R (E Z)/\o5 w' a no i
 | .ok r=>e=R (E true)/\aU w' a s d i r b
theorem qZ(w:S)(g:Nat)(s:ByteArray)(d i j:Nat)(r:Rr)(z:aU w g s d i r j)(hi:i<=1073741824)(hd:d<=512)(hp:r.pile.length<=512)(C:r.nodes<=65536):
 ag D 142 #[ah (J ⟨g,0,N⟩)] w λe w'=>aKz w g s d i j (r.D5 d) e w':=by
 have l:=L (λ(W:S)(c:Keeps (λ_=>False) w W)(no:Int)=>eI W g s d i j r (z.A0 c λ_ _=>id) hi no i i);obtain⟨P,t,F,G,K,T,a1,V,m1,a2,n2,m2,f,a⟩:=z;obtain⟨pa,pc,rfl⟩:=a.win.A8;have A:=L f;have u:=L a;obtain⟨⟨-,q1,B,q3,q4,q5,-,-⟩,_,qf⟩:=cZ f;have b:r.D5 d=if r.want≠0/\r.want≠1 then bh 120 else if d<=r.pile.length then bh 121 else if 65536<=r.nodes then bh 3 else bw {r with nodes:=r.nodes+1}:=rfl
 rw[b];clear f a b
 by_cases f:r.want≠0/\r.want≠1
 .rw[if_pos f];have n:(((r.want:Nat):Int)!=0)=true:=by simp;omega
  have v:(((r.want:Nat):Int)!=1)=true:=by simp;omega
  clear f;go_enter aj,ak;go_wp2_with fail
  go_still_tail 9,(by kernel_rfl)
  go_wp2_with fail;refine(l.o _ (H _ w).A9 120).mono ?_;rintro e w2 ⟨rfl,c,b⟩;have h:=L (And.intro c b);clear c b;go_wp2_with fail;go_ret;exact⟨(H _ w).A9.B8 h.o.1,rfl,h.o.2⟩
 .rw[if_neg f];have x:(((r.want:Nat):Int)!=0)=Z\/((((r.want:Nat):Int)!=0)=true/\(((r.want:Nat):Int)!=1)=Z):=by simp;omega
  clear f
  by_cases q:d<=r.pile.length
  .rw[if_pos q];have e3:(d:Int)<=(r.pile.length:Int):=by omega
   clear q;rcases x with n|⟨n,v⟩
   all_goals
    go_enter aj,ak;go_wp2_with fail
    go_quiet (fail)
    go_wp2_with fail;generalize m:bx w _=W;have y:W.cell? ⟨g,2,N⟩=J (O U i):=by rw[<-m];exact B
    have f:=L (show Keeps (λ_=>False) w W by rw[<-m];exact(H _ w).K8 rfl rfl rfl rfl);clear m
    go_still_tail 9,(by kernel_rfl)
    go_wp2_with fail;refine(l.o _ f.o.A9 121).mono ?_;rintro e w2 ⟨rfl,c,b⟩;have h:=L (And.intro c b);clear c b;go_wp2_with fail;go_ret;exact⟨(f.o.A9.A6 λ_ z=>z.elim).B8 h.o.1,rfl,h.o.2⟩
  .rw[if_neg q];have e3:¬(d:Int)<=(r.pile.length:Int):=by omega
   clear q
   by_cases q:65536<=r.nodes
   .rw[if_pos q];have e4:(65536:Int)<=(r.nodes:Int):=by omega
    clear q;rcases x with n|⟨n,v⟩
    all_goals
     go_enter aj,ak;go_wp2_with fail
     go_quiet (fail)
     go_wp2_with fail;generalize m:bx w _=W;have y:W.cell? ⟨g,2,N⟩=J (O U i):=by rw[<-m];exact B
     have f:=L (show Keeps (λ_=>False) w W by rw[<-m];exact(H _ w).K8 rfl rfl rfl rfl);clear m
     go_still_tail 9,(by kernel_rfl)
     go_wp2_with fail;refine(l.o _ f.o.A9 3).mono ?_;rintro e w2 ⟨rfl,c,b⟩;have h:=L (And.intro c b);clear c b;go_wp2_with fail;go_ret;exact⟨(f.o.A9.A6 λ_ z=>z.elim).B8 h.o.1,rfl,h.o.2⟩
   .rw[if_neg q];obtain⟨m,b⟩:∃m,(bw {r with nodes:=r.nodes+1}:Except Nat Rr)=m:=⟨_,rfl⟩;rw[b];have h:=L b;clear b;have e4:decide ((65536:Int)<=(r.nodes:Int))=Z:=decide_eq_false (by omega);have y:U.wrap ((r.nodes:Int)+1)=((r.nodes+1:Nat):Int):=by rw[cj];omega
    have f:=aB (o:=5) A.o (O U ((r.nodes+1:Nat):Int));have c:=(H (λk=>k=g) w).A2 (p:=⟨g,5,N⟩) (ae rfl) (O U ((r.nodes+1:Nat):Int));have a:=u.o.L8 A.o c;have b:=L (And.intro f (And.intro c a));clear q f c a C;rcases x with n|⟨n,v⟩
    all_goals
     go_enter aj,ak;go_wp2_with fail
     go_quiet (fail)
     go_wp2_with fail;go_ret;have c:=b.o.2.1;have a:=b.o.2.2;rw[<-h.o];refine⟨c.K8 rfl rfl rfl rfl,rfl,aU.C9 (w:=w.setCell ⟨g,5,N⟩ (O U ((r.nodes+1:Nat):Int))) ?_ ((H _ _).K8 rfl rfl rfl rfl)⟩;exact⟨_,t,F,G,K,T,a1,V,m1,a2,n2,m2,b.o.1,a.le,a.win,a.pF,a.pile,a.done⟩
theorem Keeps.E9{b:Nat}{w w1:S}(h:Keeps (λk=>k=b) w w1)(o:Nat)(u:I):Keeps (λk=>k=b) w (w1.setCell ⟨b,o,N⟩ u):=h.A2 (p:=⟨b,o,N⟩) (ae rfl) u
abbrev aDE(b:Int)(c:Bool)(a:Nat)(s:ByteArray)(V K:I):I:=.agg #[O U b,E c,O ac a,Q s,V,K]
def vM(w:S)(b:Nat)(s:ByteArray)(d i:Nat)(r:Rr)(e:Ending)(w':S):Prop:=e=R (ai #[])/\Below b w w'/\∃a,aU w' b s d i r a
theorem aH9(w:S)(f:Nat)(s:ByteArray)(d i l:Nat)(r:Rr)(a0:aU w f s d i r l)(u:Int)(v:Bool)(x:Nat)(y:ByteArray)(a:Option Addr)(n m:Nat)(b:Option Addr)(p q:Nat)(t:Tr)(hv:ValAt (λk=>l<=k) w (eV u v x y (X a n m) (X b p q)) t)(G:r.pile= []):
 ag D 144 #[ah (J ⟨f,0,N⟩),aDE u v x y (X a n m) (X b p q)] w λe w'=>vM w f s d i (r.C7 t) e w':=by
 obtain⟨P,K,so0,fl0,bi0,tx0,a1,n1,m1,a2,n2,m2,z,h⟩:=a0;obtain⟨pa,pc,rfl⟩:=h.win.A8;have T:r.pile.length=0:=by rw[G];rfl
 rw[T]at z;have j:r.C7 t={r with done:=t,want:=6}:=by unfold Rr.C7;rw[G];rfl
 rw[j];have V:=bu z;obtain⟨W,C⟩:∃W,((((((w.setCell ⟨f,7,N⟩ (O U u)).setCell ⟨f,8,N⟩ (E v)).setCell ⟨f,9,N⟩ (O ac x)).setCell ⟨f,10,N⟩ (Q y)).setCell ⟨f,11,N⟩ (X a n m)).setCell ⟨f,12,N⟩ (X b p q)).setCell ⟨f,3,N⟩ (O U 6)=W:=⟨_,rfl⟩
 have hs:W.heap[f]?=J (Y (rdC s d i 6 (X pa r.pile.length pc) r.nodes r.bytes u v x y (X a n m) (X b p q) 0 0 0) 172 (0,0)):=by
  rw[<-C,T];exact aB (o:=3) (aB (o:=12) (aB (o:=11) (aB (o:=10) (aB (o:=9) (aB (o:=8) (aB (o:=7) z _) _) _) _) _) _) _
 have F:Keeps (λk=>k=f) w W:=by
  rw[<-C];exact(((((((H (λk=>k=f) w).E9 _ _).E9 _ _).E9 _ _).E9 _ _).E9 _ _).E9 _ _).E9 _ _
 have c:=h.L8 z F;have A:=h.pile.le;have B:ValAt (λk=>f<=k) W (eV u v x y (X a n m) (X b p q)) t:=(hv.A0 F λk _ _ e=>by subst e;exact .of z (by decide) (by decide)).A6 λk e _=>bg A e
 have g:∀W2,Keeps (λ_=>False) W W2->vM w f s d i {r with done:=t,want:=6} (R (ai #[])) W2:=λW2 h2=>
  ⟨rfl,(F.B9 h2 λ_ a0=>a0.elim).B3 (Nat.le_of_lt V) λk e=>by omega,l,aU.C9 ⟨_,K,u,v,x,y,a,n,m,b,p,q,hs,c.le,c.win,c.pF,c.pile,λ_=>B⟩ h2⟩
 rw[<-C]at g;obtain⟨⟨-,-,-,q3,q4,-,-,q7⟩,⟨q8,q9,qa,qb,qc,-,-,-⟩,qz⟩:=cZ z;obtain⟨x0,x1,x2,x3,x4,x5,-⟩:=bN (heap_alloc_new w (Y #[O U u,E v,O ac x,Q y,X a n m,X b p q] 34));have HF:=L g;clear j T z h hv G C hs F c B g A;unfold aDE;go_enter func144,ntmps144;go_wp2_with fail
 go_end0
 exact HF.o _ ((H _ _).A4 _)
end Go.Proofs.YtakkmiomhackiaaGreatDoor
