/-
  The program, one part of its walk. Conditions: none.
-/
import Derived.Test.YtakkmiomhackiaaGreatDoorAj10
import Derived.StillTailTactics
set_option linter.all false
set_option maxRecDepth 100000
set_option maxHeartbeats 16000000
open Go.Proofs.Tryz
open Bool renaming false->Q,true->ao
open Except renaming error->dp,ok->eo
open Go renaming Addr->ar,Calls->ah,TypeId->bk,Value->J,World->Z,below_drewN->ct,cell_of_one->az,lt_of_block->em,maxLen->au,rounds_succ->fw,wp_loop_rounds->fv
open Go.Lit renaming string->dj
open Go.Proofs.Tryz renaming func142->cj,func187->dt,ntmps142->co,ntmps187->du,prog->ac,underlying263->eh
open Go.Proofs.YtakkmiomhackiaaGreatDoor.Row renaming A8->cr
open List renaming getD->bg,replicate->dw
open Nat renaming le_of_not_lt->fh,sub_mul->ej
open Option renaming none->O,some->I
open Or renaming inl->ak
namespace Go.Proofs.YtakkmiomhackiaaGreatDoor
open Go.RowKit
open Ending renaming returned->ag
open IntKind renaming i64->U,u64->bj
open Obj renaming cells->H
open Proofs renaming intOf->aw
open Fig renaming Small->bh,figs->L,figs_getD->fc,lt_of_figs_length->fa,small_figs->fj,val->E,val_figs->fk,val_lt->fm
open Keeps renaming A4->ai
open RowKit renaming Below->C
open Value renaming agg->ae,bool->af,int->Y,pointer->bz,slice->S,string->di,tuple->cg
open World renaming drewN->ep
open World.ownsMap renaming lookup_int->fz,store->ga
variable {T:bk}{v:J}{a d i:Nat}
section
def oE{s:Nat}:∀{a:List (List J)},(∀c∈a,c.length=s)->a.flatten.length=a.length*s
 | [],_=>by simp
 | c::a,h=>by
  rw[oz,List.length_append,oE (λx b=>h x (jv _ b)),h c (fi ..),List.length_cons,lu];omega
def pH{s:Nat}:∀{a:List (List J)},(∀c∈a,c.length=s)->∀{i j:Nat}{c:List J},a[i]?=I c->j<s->a.flatten[i*s+j]?=c[j]?
 | [],_,_,_,_,hi,_=>by simp at hi
 | d::a,h,0,j,c,hi,b=>by
  simp at hi;subst hi;rw[oz,Nat.zero_mul,Nat.zero_add,ec (by rw[h d (fi ..)];exact b)]
 | d::a,h,i+1,j,c,hi,b=>by
  have e:=h d (fi ..);rw[oz,cL (by rw[e,lu];omega),e,show(i+1)*s+j-s=i*s+j by rw[lu];omega];exact pH (λx f=>h x (jv _ f)) (by simpa using hi) b
def dV(a:List (List J))(c:List J):(a++ [c]).flatten=a.flatten++c:=by simp
def eQ(b:Int)(a:Bool)(c:Nat)(s:ByteArray)(V K:J):List J:= [Y U b,af a,Y bj c,di s,V,K]
def gQ:J:=S O 0 0
inductive ValAt(F:Nat->Prop)(w:Z):List J->Tr->Prop
 | null:ValAt F w (eQ 1 Q 0 ⟨#[]⟩ gQ gQ) .null
 | flag (b:Bool):ValAt F w (eQ 2 b 0 ⟨#[]⟩ gQ gQ) (.flag b)
 | num (x:Nat):ValAt F w (eQ 3 Q x ⟨#[]⟩ gQ gQ) (.num x)
 | text (s:List UInt8):ValAt F w (eQ 4 Q 0 ⟨s.toArray⟩ gQ gQ) (.text s)
 | list (V:J) (css:List (List J)) (l:List Tr) (hw:aQ 6 34 w V l.length css.flatten) (hF:∀k,V.ownBlock=I k->F k) (hl:css.length=l.length)
  (ht:∀(i:Nat)(c:List J)(t:Tr),css[i]?=I c->l[i]?=I t->ValAt F w c t):ValAt F w (eQ 5 Q 0 ⟨#[]⟩ V gQ) (.list l)
 | object (V K:J) (css:List (List J)) (keys:List (List UInt8)) (l:List Tr) (hw:aQ 6 34 w V l.length css.flatten) (hF:∀k,V.ownBlock=I k->F k) (hk:Win 9 encS w K keys) (hKF:∀k,K.ownBlock=I k->F k) (hl:css.length=l.length) (hkl:keys.length=l.length)
  (ht:∀(i:Nat)(c:List J)(t:Tr),css[i]?=I c->l[i]?=I t->ValAt F w c t):ValAt F w (eQ 6 Q 0 ⟨#[]⟩ V K) (.object keys l)
def fC(w:Z)(k:Nat):Prop:=∃(c:Array J)(T:bk),w.heap[k]?=I (H c T (0,0))/\T≠34/\T≠9
def fC.of{w:Z}{b:Nat}{c:Array J}(h:w.heap[b]?=I (H c T (0,0)))(d:T≠34)(a:T≠9):fC w b:=⟨c,T,h,d,a⟩
def aQ.D5{s e n:Nat}{w:Z}{d:List J}(h:aQ s e w v n d){k:Nat}(a:v.ownBlock=I k):∃c:Array J,w.heap[k]?=I (H c e (0,0)):=by
 rcases h.2 with⟨rfl,_⟩|⟨g,off,cap,b,rfl,f,_⟩
 .cases a
 .cases a;exact⟨_,f⟩
section
variable {F G:Nat->Prop} {w w':Z} {c:List J} {t:Tr}
def aQ.M2{s n:Nat}{b:List J}(h:aQ s 34 w v n b)(f:Keeps G w w')(d:∀k,v.ownBlock=I k->G k->fC w k):aQ s 34 w' v n b:=
 h.A0 f λk e g=>by
  obtain⟨c,T,j,i,_⟩:=d k e g;obtain⟨l,a⟩:=h.D5 e;rw[j]at a;cases a;exact i rfl
def Win.M2{l:List Oo}(h:Win 9 encS w v l)(d:Keeps G w w')(b:∀k,v.ownBlock=I k->G k->fC w k):Win 9 encS w' v l:=
 h.A0 d λk e g=>by
  obtain⟨c,T,i,_,f⟩:=b k e g;obtain⟨j,a⟩:=h.D5 e;rw[i]at a;cases a;exact f rfl
def ValAt.A0(h:ValAt F w c t)(m:Keeps G w w')(i:∀k,F k->k<w.heap.size->G k->fC w k):ValAt F w' c t:=by
 induction h with
 | null=>exact .null
 | flag b=>exact .flag b
 | num x=>exact .num x
 | text s=>exact .text s
 | list V a l f d n q o=>exact .list V a l (f.M2 m λk e=>i k (d k e) (f.lt e)) d n o
 | object V K a keys l f d p g n j q o=>exact .object V K a keys l (f.M2 m λk e=>i k (d k e) (f.lt e)) d (p.M2 m λk e=>i k (g k e) (p.lt e)) g n j o
def ValAt.mono(h:ValAt F w c t)(i:∀k,F k->k<w.heap.size->G k):ValAt G w c t:=by
 induction h with
 | null=>exact .null
 | flag b=>exact .flag b
 | num x=>exact .num x
 | text s=>exact .text s
 | list V a l d g j p m=>exact .list V a l d (λk e=>i k (g k e) (d.lt e)) j m
 | object V K a keys l d g o n j f p m=>exact .object V K a keys l d (λk e=>i k (g k e) (d.lt e)) o (λk e=>i k (n k e) (o.lt e)) j f m
def ValAt.A8(h:ValAt F w c t):∃(i:Int)(v:Bool)(r:Nat)(s:ByteArray)(a:Option ar)(n m:Nat)(b:Option ar)(p q:Nat),c=eQ i v r s (S a n m) (S b p q):=by
 cases h with
 | null=>exact⟨_,_,_,_,_,_,_,_,_,_,rfl⟩
 | flag b=>exact⟨_,_,_,_,_,_,_,_,_,_,rfl⟩
 | num x=>exact⟨_,_,_,_,_,_,_,_,_,_,rfl⟩
 | text s=>exact⟨_,_,_,_,_,_,_,_,_,_,rfl⟩
 | list V e l f o u j=>
  obtain⟨a,c,rfl⟩:=f.A8;exact⟨_,_,_,_,_,_,_,_,_,_,rfl⟩
 | object V K e keys l f o k y u g j=>
  obtain⟨a,c,rfl⟩:=f.A8;obtain⟨b,d,rfl⟩:=k.A8;exact⟨_,_,_,_,_,_,_,_,_,_,rfl⟩
def ValAt.O9(h:ValAt F w c t):c.length=6:=by cases h<;>rfl
end
def l5(F:Nat->Prop)(w:Z)(a:List (List J))(l:List Tr):Prop:=a.length=l.length/\∀(i:Nat)(c:List J)(t:Tr),a[i]?=I c->l[i]?=I t->ValAt F w c t
section
variable {F G:Nat->Prop} {w w':Z} {css:List (List J)} {l:List Tr}
def l5.A0(h:l5 F w css l)(b:Keeps G w w')(a:∀k,F k->k<w.heap.size->G k->fC w k):l5 F w' css l:=⟨h.1,λi c t e d=>(h.2 i c t e d).A0 b a⟩
def l5.mono(h:l5 F w css l)(a:∀k,F k->k<w.heap.size->G k):l5 G w css l:=⟨h.1,λi c t d b=>(h.2 i c t d b).mono a⟩
def l5.nil(F:Nat->Prop)(w:Z):l5 F w [] []:=⟨rfl,λi c t a=>by simp at a⟩
def l5.Y0(h:l5 F w css l):∀c∈css,c.length=6:=by
 intro c b;obtain⟨i,hi⟩:=List.getElem?_of_mem b;have a:i<l.length:=by rw[<-h.1];exact(bt.1 hi).1
 exact(h.2 i c _ hi (bf a)).O9
def l5.L7{c:List J}{t:Tr}(h:l5 F w css l)(f:ValAt F w c t):l5 F w (css++ [c]) (l++ [t]):=by
 refine⟨by simp[h.1],λi x y a b=>?_⟩;by_cases hi:i<css.length
 .rw[ec hi]at a;rw[ec (by have:=h.1;omega)]at b;exact h.2 i x y a b
 .rw[cL (by omega)]at a;rw[cL (by have:=h.1;omega)]at b
  have e:i-css.length=0:=by
   have:=(bt.1 a).1;simp at this;omega
  have d:i-l.length=0:=by have:=h.1;omega
  rw[e]at a;rw[d]at b;simp at a b;subst a;subst b;exact f
end
def aJs:List (List UInt8)->DataW Unit
 | []=>.map []
 | k::r=>(aJs r).put (dj k) (.lit (.int U 1))
def aCV:∀r,Maps.IsMap (aJs r)
 | []=>Maps.isMap_empty
 | k::r=>(aCV r).put _ _
def aGG{k:Oo}(z:DataW Unit):∀(r:List Oo),(aJs r).atKey (dj k) z=if k∈r then .lit (.int U 1)else z
 | []=>rfl
 | x::r=>by
  unfold aJs;by_cases h:k=x
  .subst h;rw[Maps.atKey_put_same (aCV r) (show WideAt.IsKeyLit (dj _)from trivial)];simp
  .rw[Maps.atKey_put_other (by simpa using h),aGG z r];simp[h]
def dY(w:Z)(b:Nat)(r:List (List UInt8)):Prop:=w.ownsMap ac 9 (plainElem ac 3) b r.length (aJs r)
section
variable {w:Z} {b:Nat} {r:List (List UInt8)} {k:List UInt8}
def dY.X0(h:dY w b r)(f:k.length<=au):(Instr.lookup 263 (.map (I b)) (encS k) Q).run ac w=.ok (Y U (if k∈r then 1 else 0)) w:=by
 obtain⟨c,d,a,_⟩:=fz h qP eh nr (aJq w) (aET k f);rw[aGG]at a;by_cases e:k∈r
 .rw[pz e]at a⊢;cases a;exact d
 .rw[py e]at a⊢;cases a;exact d
def dY.C5(h:dY w b r)(c:r.length<=4194304)(a:k.length<=au):∃w',(Instr.mapUpdate 263 (.map (I b)) (encS k) (Y U 1)).run ac w=.ok () w'/\dY w' b (k::r)/\w.mapTurned w' b:=
 ga h qP eh (by unfold au;omega) (aET k a) (plainElem_int nr (aMh 1 (by omega)))
def dY.R1(w:Z):dY (w.alloc (.map #[] 0)) w.heap.size []:=World.ownsMap_made w _ _ _
def dY.A0{F:Nat->Prop}{w':Z}(h:dY w b r)(c:Keeps F w w')(g:¬F b):dY w' b r:=by
 obtain⟨f,a,e,d⟩:=h;exact⟨f,a,c.B4 e g,d⟩
def dY.M2{G:Nat->Prop}{w':Z}(h:dY w b r)(f:Keeps G w w')(e:G b->fC w b):dY w' b r:=
 h.A0 f λg=>by
  obtain⟨c,T,i,_⟩:=e g;obtain⟨k,a,d,j⟩:=h;rw[i]at d;cases d
def dY.ne{g:Nat}{c:Array J}(h:dY w b r)(f:w.heap[g]?=I (H c T (0,0))):b≠g:=by
 intro e;obtain⟨j,a,d,i⟩:=h;rw[e,f]at d;cases d
end
section
variable {s e n:Nat} {w:Z} {g off cap:Nat} {cs:List J}
def aQ.B3(h:aQ s e w (S (g,off) n cap) n cs){k:Nat}(m:k<=n):aQ s e w (S (g,off) k cap) k (cs.take (k*s)):=by
 rcases h with⟨i,⟨c,_⟩|⟨q,d,f,b,c,l,r,o,p,hi⟩⟩
 .cases c
 .cases c;have:=ev s m;exact⟨by rw[el,i];omega,.inr ⟨g,off,cap,b,rfl,l,by omega,o,p,λj u a=>hi j u (by rw[List.getElem?_take]at a;split at a;exact a;cases a)⟩⟩
def aQ.P1(h:aQ s e w (S (g,off) n cap) n cs){k:Nat}(m:k<=n):aQ s e w (S (g,off+k*s) (n-k) (cap-k)) (n-k) (cs.drop (k*s)):=by
 rcases h with⟨i,⟨b,_⟩|⟨q,c,d,a,b,l,o,r,t,hi⟩⟩
 .cases b
 .cases b;have p:=ev s (bo m o);refine⟨by rw[List.length_drop,i,ej],.inr ⟨g,off+k*s,cap-k,a,rfl,l,by omega,by rw[ej];omega,by omega,λj u f=>?_⟩⟩;rw[List.getElem?_drop]at f;rw[fo];exact hi _ u f
def aQ.E0(h:aQ s e w (S (g,off) n cap) n cs)(j:Nat)(u:J):aQ s e (w.setCell ⟨g,off+j,O⟩ u) (S (g,off) n cap) n (cs.set j u):=by
 rcases h with⟨m,⟨f,_⟩|⟨t,k,l,d,f,p,o,q,r,hi⟩⟩
 .cases f
 .cases f;refine⟨by simp[m],.inr ⟨g,off,cap,d.setIfInBounds (off+j) u,rfl,aB p u,o,by simpa using q,r,λi x a=>?_⟩⟩;rw[Array.getElem?_setIfInBounds];rw[List.getElem?_set]at a;by_cases b:j=i
  .subst b;rw[pz rfl]at a⊢;split at a
   .rename_i c;cases a;rw[m]at c;have:=ev s o;rw[pz]
   .cases a
  .rw[py b]at a;rw[py];exact hi i x a
def aQ.K6(h:aQ s e w (S (g,off) n cap) n cs)(o:Nat):w.frozen? ⟨g,o,O⟩=Q:=by
 rcases h with⟨_,⟨a,_⟩|⟨i,b,c,d,a,f,_⟩⟩
 .cases a
 .cases a;exact free_at f o
def aQ.block(h:aQ s e w (S (g,off) n cap) n cs):∃a,w.heap[g]?=I (H a e (0,0)):=by
 rcases h with⟨_,⟨b,_⟩|⟨i,c,d,a,b,f,_⟩⟩
 .cases b
 .cases b;exact⟨a,f⟩
def aQ.some(h:aQ s e w v (n+1) cs):∃g off cap,v=S (I ⟨g,off,O⟩) (n+1) cap:=by
 rcases h with⟨_,⟨_,b⟩|⟨g,off,cap,a,rfl,_⟩⟩
 .omega
 .exact⟨g,off,cap,rfl⟩
end
end
section
def frC(o:Bool)(K:J)(m:Nat)(V:J):List J:= [af o,K,.map (I m),V]
structure jZ(lo hi:Nat)(w:Z)(o:Bool)(K:J)(m:Nat)(V:J)(css:List (List J))(f:RFr):Prop where
 e:o=f.object
 a:Win 9 encS w K f.a
 i:∀k,K.ownBlock=I k->lo<=k/\k<hi
 d:dY w m f.a.reverse
 h:lo<=m/\m<hi
 c:aQ 6 34 w V f.c.length css.flatten
 g:∀k,V.ownBlock=I k->lo<=k/\k<hi
 b:l5 (λk=>lo<=k/\k<hi/\V.ownBlock≠I k/\K.ownBlock≠I k/\k≠m) w css f.c
def jZ.A0{hi:Nat}{w w':Z}{o:Bool}{K V:J}{m:Nat}{a:List (List J)}{f:RFr}{G:Nat->Prop}(h:jZ d hi w o K m V a f)(b:Keeps G w w')(c:∀k,d<=k->k<hi->G k->fC w k):jZ d hi w' o K m V a f:=
 ⟨h.e,h.a.M2 b λk e=>c k (h.i k e).1 (h.i k e).2,h.i,h.d.M2 b (c m h.h.1 h.h.2),h.h,h.c.M2 b λk e=>c k (h.g k e).1 (h.g k e).2,h.g,h.b.A0 b λk e _=>c k e.1 e.2.1⟩
inductive eR(w:Z):Nat->List (List J)->List RFr->Nat->Prop
 | nil (lo hi:Nat) (h:lo<=hi):eR w lo [] [] hi
 | snoc {lo mid hi:Nat} {pcs:List (List J)} {fs:List RFr} (h:eR w lo pcs fs mid) (o:Bool) (K:J) (m:Nat) (V:J) (css:List (List J)) (f:RFr) (hf:jZ mid hi w o K m V css f):eR w lo (pcs++ [frC o K m V]) (fs++ [f]) hi
section
variable {w w':Z} {lo hi:Nat} {pcs:List (List J)} {fs:List RFr}
def eR.le(h:eR w lo pcs fs hi):lo<=hi:=by
 induction h with
 | nil _ h=>exact h
 | snoc _ o K m V a f b c=>have:=b.h;omega
def eR.A0{G:Nat->Prop}(h:eR w lo pcs fs hi)(g:Keeps G w w')(d:∀k,lo<=k->k<hi->G k->fC w k):eR w' lo pcs fs hi:=by
 induction h with
 | nil _ h=>exact .nil _ _ h
 | snoc h o K m V a f c i=>
  have l:=h.le;have j:=c.h;exact .snoc (i λk e b=>d k e (by omega)) o K m V a f (c.A0 g λk e b=>d k (by omega) b)
def eR.O9(h:eR w lo pcs fs hi):pcs.length=fs.length/\∀c∈pcs,c.length=4:=by
 induction h with
 | nil=>exact⟨rfl,by simp⟩
 | snoc h o K m V d f e b=>
  refine⟨by simp[b.1],λc a=>?_⟩;rcases List.mem_append.1 a with a|a
  .exact b.2 c a
  .simp at a;subst a;rfl
def eR.M3{f:RFr}{b:List RFr}(h:eR w lo pcs fs hi)(g:fs=b++ [f]):∃i c o K m V a,pcs=i++ [frC o K m V]/\eR w lo i b c/\jZ c hi w o K m V a f:=by
 cases h with
 | nil=>simp at g
 | snoc h o K m V a j d=>
  obtain⟨rfl,e⟩:=List.append_inj' g rfl;cases e;exact⟨_,_,o,K,m,V,a,rfl,h,d⟩
end
def rdC(s:ByteArray)(d i j:Nat)(P:J)(a bytes:Nat)(f:Int)(g:Bool)(c:Nat)(h:ByteArray)(V K:J)(no b e:Int):Array J:=
 #[s,d,i,j,P,a,bytes,f,g,Y bj c,h,V,K,no,b,e]
structure oF(w:Z)(rb:Nat)(P:J)(pcs:List (List J))(dc:List J)(r:Rr)(top:Nat):Prop where
 le:top<=w.heap.size
 a:aQ 4 265 w P r.e.length pcs.flatten
 b:∀k,P.ownBlock=I k->rb<=k
 e:eR w rb pcs r.e top
 done:r.b=6->ValAt (λk=>rb<=k) w dc r.done
def oF.A0{w w':Z}{P:J}{b:List (List J)}{f:List J}{r:Rr}{G:Nat->Prop}(h:oF w d P b f r a)(c:Keeps G w w')(g:∀k,k<w.heap.size->G k->fC w k)(i:∀k,P.ownBlock=I k->¬G k):oF w' d P b f r a:=
 ⟨bo h.le c.size,h.a.A0 c i,h.b,h.e.A0 c λk _ e=>g k (Nat.lt_of_lt_of_le e h.le),λe=>(h.done e).A0 c λk _ e=>g k e⟩
def aU(w:Z)(g:Nat)(s:ByteArray)(d i:Nat)(r:Rr)(b:Nat):Prop:=
 ∃P a e h f l a1 k j a2 m c,w.heap[g]?=I (H (rdC s d i r.b P r.g r.bytes e h f l (S a1 k j) (S a2 m c) 0 0 0) 172 (0,0))/\oF w g P a (eQ e h f l (S a1 k j) (S a2 m c)) r b
def aU.A0{w w':Z}{m:Nat}{s:ByteArray}{r:Rr}{G:Nat->Prop}(h:aU w m s d i r a)(j:Keeps G w w')(c:∀k,k<w.heap.size->¬G k):aU w' m s d i r a:=by
 obtain⟨P,b,o,t,q,x,a1,v,u,a2,p,n,l,f⟩:=h;exact⟨P,b,o,t,q,x,a1,v,u,a2,p,n,j.B4 l (c _ (em l)),f.A0 j (λk e g=>absurd g (c k e)) λk e=>c k (f.a.lt e)⟩
def oF.N2{w w':Z}{P:J}{b:List (List J)}{f:List J}{r:Rr}{c:Array J}(h:oF w d P b f r a)(i:w.heap[d]?=I (H c 172 (0,0)))(j:Keeps (λk=>k=d) w w'):oF w' d P b f r a:=
 h.A0 j (λk _ e=>by subst e;exact .of i (by decide) (by decide)) λk e g=>by
  subst g;exact h.a.ne i (by decide) e
def qB(w:Z)(h:Nat)(no b:Int):Prop:=
 ∃s d i o P a bytes e j g n a1 m k a2 f c l,i<=1073741824/\w.heap[h]?=I (H (rdC s d i o P a bytes e j g n (S a1 m k) (S a2 f c) no b l) 172 (0,0))
def dF{w:Z}{b:Nat}{r i l a m d c j s e k g p n q f:J}(h:w.heap[b]?=I (H #[r,i,l,a,m,d,c,j,s,e,k,g,p,n,q,f] T (0,0))):
 (w.cell? b=I r/\w.cell? ⟨b,1,O⟩=I i/\w.cell? ⟨b,2,O⟩=I l/\w.cell? ⟨b,3,O⟩=I a/\w.cell? ⟨b,4,O⟩=I m/\w.cell? ⟨b,5,O⟩=I d/\w.cell? ⟨b,6,O⟩=I c/\w.cell? ⟨b,7,O⟩=I j)/\
 (w.cell? ⟨b,8,O⟩=I s/\w.cell? ⟨b,9,O⟩=I e/\w.cell? ⟨b,10,O⟩=I k/\w.cell? ⟨b,11,O⟩=I g/\w.cell? ⟨b,12,O⟩=I p/\w.cell? ⟨b,13,O⟩=I n/\w.cell? ⟨b,14,O⟩=I q/\w.cell? ⟨b,15,O⟩=I f)/\∀o,w.frozen? ⟨b,o,O⟩=Q:=
 ⟨⟨aA h,aA h,aA h,aA h,aA h,aA h,aA h,aA h⟩,⟨aA h,aA h,aA h,aA h,aA h,aA h,aA h,aA h⟩,free_at h⟩
end
def sG(w:Z)(b:Nat)(no a f:Int)(s:ByteArray)(d i t:Nat)(P:J)(c bytes:Nat)(g:Int)(n:Bool)(m:Nat)(r:ByteArray)(V K:J)
 (h:w.heap[b]?=I (H (rdC s d i t P c bytes g n m r V K 0 0 0) 172 (0,0))):ah ac 76 #[bz b,no,a,f] w λe w'=>
 e=ag (cg #[])/\Keeps (λk=>k=b) w w'/\w'.heap[b]?=I (H (rdC s d i t P c bytes g n m r V K no a f) 172 (0,0)):=by
 have l:Keeps (λk=>k=b) w (((w.setCell ⟨b,13,O⟩ (Y U no)).setCell ⟨b,14,O⟩ (Y U a)).setCell ⟨b,15,O⟩ (Y U f)):=
  (((ai (λk=>k=b) w).A3 (p:=⟨b,13,O⟩) (ak rfl) _).A3 (p:=⟨b,14,O⟩) (ak rfl) _).A3 (p:=⟨b,15,O⟩) (ak rfl) _
 have q:=aB (o:=15) (aB (o:=14) (aB (o:=13) h (Y U no)) (Y U a)) (Y U f);obtain⟨_,⟨_,_,_,_,_,v,x,u⟩,y⟩:=dF h;have j:=A (And.intro l q);clear l q h;go_enter func76,ntmps76;go_wp2;go_end0;exact⟨rfl,j.o.1,j.o.2⟩
def eP(w:Z)(b:Nat)(s:ByteArray)(d i c:Nat)(r:Rr)(h:aU w b s d i r c)(hi:i<=1073741824)(no a f:Int):ah ac 76 #[bz b,no,a,f] w λe w'=>
 e=ag (cg #[])/\Keeps (λk=>k=b) w w'/\qB w' b no a:=by
 obtain⟨P,l,p,u,t,y,a1,x,v,a2,q,o,j,-⟩:=h;exact(sG w b no a f _ _ _ _ _ _ _ _ _ _ _ _ _ j).mono λe w' ⟨m,g,n⟩=>⟨m,g,_,_,_,_,_,_,_,_,_,_,_,_,_,_,_,_,_,f,hi,n⟩
def Keeps.K9{F:Nat->Prop}{w w1 w2:Z}(h:Keeps F w w1)(a:w2.heap=w1.heap)(e:w2.os=w1.os)(c:w2.tape=w1.tape)(d:w2.output=w1.output):Keeps F w w2:=
 ⟨e.trans h.os,c.trans h.tape,d.trans h.output,by rw[a];exact h.size,λk b f=>by rw[a];exact h.block k b f⟩
def aU.C8{w w':Z}{b:Nat}{s:ByteArray}{r:Rr}(h:aU w b s d i r a)(c:Keeps (λ_=>False) w w'):aU w' b s d i r a:=h.A0 c λ_ _=>id
def aL1(w:Z)(a:Nat)(s:ByteArray)(d i b:Nat)(o:Except Nat Rr)(e:Ending)(w':Z):Prop:=Keeps (λk=>k=a) w w'/\match o with
 | .error no=>e=ag (af Q)/\qB w' a no i
 | .ok r=>e=ag (af ao)/\aU w' a s d i r b
def sH(w:Z)(g:Nat)(s:ByteArray)(d i j:Nat)(r:Rr)(z:aU w g s d i r j)(hi:i<=1073741824)(hd:d<=512)(hp:r.e.length<=512)(F:r.g<=65536):
 ah ac 142 #[bz g] w λe w'=>aL1 w g s d i j (r.D4 d) e w':=by
 have l:=A (λ(W:Z)(c:Keeps (λ_=>False) w W)(no:Int)=>eP W g s d i j r (z.A0 c λ_ _=>id) hi no i i);obtain⟨P,t,G,K,N,R,a1,T,V,a2,X,m2,f,a⟩:=z;obtain⟨pa,pc,rfl⟩:=a.a.A8;have B:=A f;have u:=A a;obtain⟨⟨-,q1,D,q3,q4,q5,-,-⟩,_,qf⟩:=dF f;have b:r.D4 d=if r.b≠0/\r.b≠1 then dp 120 else if d<=r.e.length then dp 121 else if 65536<=r.g then dp 3 else eo {r with g:=r.g+1}:=rfl;rw[b];clear f a b;by_cases f:r.b≠0/\r.b≠1
 .rw[pz f];have n:(((r.b:Nat):Int)!=0)=ao:=by simp;omega
  have v:(((r.b:Nat):Int)!=1)=ao:=by simp;omega
  clear f;go_enter cj,co;go_wp2
  go_still_tail 9,(by kernel_rfl)
  go_wp2_with fail;refine(l.o _ (ai _ w).B0 120).mono ?_;rintro e w2 ⟨rfl,c,b⟩;have h:=A (And.intro c b);clear c b;go_wp2;go_ret;exact⟨(ai _ w).B0.same h.o.1,rfl,h.o.2⟩
 .rw[py f];have x:(((r.b:Nat):Int)!=0)=Q\/((((r.b:Nat):Int)!=0)=ao/\(((r.b:Nat):Int)!=1)=Q):=by simp;omega
  clear f;by_cases q:d<=r.e.length
  .rw[pz q];have e3:(d:Int)<=(r.e.length:Int):=(by omega);clear q;rcases x with n|⟨n,v⟩
   all_goals
    go_enter cj,co;go_wp2;go_quiet (fail);go_wp2_with fail;generalize m:ep w _=W;have y:W.cell? ⟨g,2,O⟩=I (Y U i):=(by rw[<-m];exact D);have f:=A (show Keeps (λ_=>False) w W by rw[<-m];exact(ai _ w).K9 rfl rfl rfl rfl);clear m
    go_still_tail 9,(by kernel_rfl)
    go_wp2_with fail;refine(l.o _ f.o.B0 121).mono ?_;rintro e w2 ⟨rfl,c,b⟩;have h:=A (And.intro c b);clear c b;go_wp2;go_ret;exact⟨(f.o.B0.mono λ_ z=>z.elim).same h.o.1,rfl,h.o.2⟩
  .rw[py q];have e3:¬(d:Int)<=(r.e.length:Int):=(by omega);clear q;by_cases q:65536<=r.g
   .rw[pz q];have e4:(65536:Int)<=(r.g:Int):=(by omega);clear q;rcases x with n|⟨n,v⟩
    all_goals
     go_enter cj,co;go_wp2;go_quiet (fail);go_wp2_with fail;generalize m:ep w _=W;have y:W.cell? ⟨g,2,O⟩=I (Y U i):=(by rw[<-m];exact D);have f:=A (show Keeps (λ_=>False) w W by rw[<-m];exact(ai _ w).K9 rfl rfl rfl rfl);clear m
     go_still_tail 9,(by kernel_rfl)
     go_wp2_with fail;refine(l.o _ f.o.B0 3).mono ?_;rintro e w2 ⟨rfl,c,b⟩;have h:=A (And.intro c b);clear c b;go_wp2;go_ret;exact⟨(f.o.B0.mono λ_ z=>z.elim).same h.o.1,rfl,h.o.2⟩
   .rw[py q];obtain⟨m,b⟩:∃m,(eo {r with g:=r.g+1}:Except Nat Rr)=m:=⟨_,rfl⟩;rw[b];have h:=A b;clear b;have e4:decide ((65536:Int)<=(r.g:Int))=Q:=decide_eq_false (by omega);have y:U.wrap ((r.g:Int)+1)=((r.g+1:Nat):Int):=(by rw[b9];omega);have f:=aB (o:=5) B.o (Y U ((r.g+1:Nat):Int));have c:=(ai (λk=>k=g) w).A3 (p:=⟨g,5,O⟩) (ak rfl) (Y U ((r.g+1:Nat):Int));have a:=u.o.N2 B.o c;have b:=A (And.intro f (And.intro c a));clear q f c a F;rcases x with n|⟨n,v⟩
    all_goals
     go_enter cj,co;go_wp2;go_quiet (fail);go_wp2;go_ret;have c:=b.o.2.1;have a:=b.o.2.2;rw[<-h.o];refine⟨c.K9 rfl rfl rfl rfl,rfl,aU.C8 (w:=w.setCell ⟨g,5,O⟩ (Y U ((r.g+1:Nat):Int))) ?_ ((ai _ _).K9 rfl rfl rfl rfl)⟩;exact⟨_,t,G,K,N,R,a1,T,V,a2,X,m2,b.o.1,a.le,a.a,a.b,a.e,a.done⟩
def Keeps.own{b:Nat}{w w1:Z}(h:Keeps (λk=>k=b) w w1)(o:Nat)(u:J):Keeps (λk=>k=b) w (w1.setCell ⟨b,o,O⟩ u):=h.A3 (p:=⟨b,o,O⟩) (ak rfl) u
abbrev aJt(b:Int)(c:Bool)(a:Nat)(s:ByteArray)(V K:J):J:=ae #[b,c,Y bj a,s,V,K]
def xM(w:Z)(b:Nat)(s:ByteArray)(d i:Nat)(r:Rr)(e:Ending)(w':Z):Prop:=e=ag (cg #[])/\C b w w'/\∃a,aU w' b s d i r a
def aJu(w:Z)(f:Nat)(s:ByteArray)(d i l:Nat)(r:Rr)(a0:aU w f s d i r l)(u:Int)(v:Bool)(x:Nat)(y:ByteArray)(a:Option ar)(n m:Nat)(b:Option ar)(p q:Nat)(t:Tr)(X:ValAt (λk=>l<=k) w (eQ u v x y (S a n m) (S b p q)) t)(K:r.e= []):
 ah ac 144 #[bz f,aJt u v x y (S a n m) (S b p q)] w λe w'=>xM w f s d i (r.C5 t) e w':=by
 obtain⟨P,N,g2,g3,g4,g5,a1,n1,m1,a2,n2,m2,z,h⟩:=a0;obtain⟨pa,pc,rfl⟩:=h.a.A8;have R:r.e.length=0:=by rw[K];rfl
 rw[R]at z;have j:r.C5 t={r with done:=t,b:=6}:=by unfold Rr.C5;rw[K];rfl
 rw[j];have T:=em z;obtain⟨W,F⟩:∃W,((((((w.setCell ⟨f,7,O⟩ (Y U u)).setCell ⟨f,8,O⟩ (af v)).setCell ⟨f,9,O⟩ (Y bj x)).setCell ⟨f,10,O⟩ (di y)).setCell ⟨f,11,O⟩ (S a n m)).setCell ⟨f,12,O⟩ (S b p q)).setCell ⟨f,3,O⟩ (Y U 6)=W:=⟨_,rfl⟩
 have hs:W.heap[f]?=I (H (rdC s d i 6 (S pa r.e.length pc) r.g r.bytes u v x y (S a n m) (S b p q) 0 0 0) 172 (0,0)):=by
  rw[<-F,R];exact aB (o:=3) (aB (o:=12) (aB (o:=11) (aB (o:=10) (aB (o:=9) (aB (o:=8) (aB (o:=7) z _) _) _) _) _) _) _
 have G:Keeps (λk=>k=f) w W:=by
  rw[<-F];exact(((((((ai (λk=>k=f) w).own _ _).own _ _).own _ _).own _ _).own _ _).own _ _).own _ _
 have c:=h.N2 z G;have B:=h.e.le;have D:ValAt (λk=>f<=k) W (eQ u v x y (S a n m) (S b p q)) t:=(X.A0 G λk _ _ e=>by subst e;exact .of z (by decide) (by decide)).mono λk e _=>bo B e
 have g:∀V,Keeps (λ_=>False) W V->xM w f s d i {r with done:=t,b:=6} (ag (cg #[])) V:=λV h2=>
  ⟨rfl,(G.trans h2 λ_ a0=>a0.elim).A6 (iF T) λk e=>by omega,l,aU.C8 ⟨_,N,u,v,x,y,a,n,m,b,p,q,hs,c.le,c.a,c.b,c.e,λ_=>D⟩ h2⟩
 rw[<-F]at g;obtain⟨⟨-,-,-,q3,q4,-,-,q7⟩,⟨q8,q9,qa,qb,qc,-,-,-⟩,qz⟩:=dF z;obtain⟨x0,x1,x2,x3,x4,x5,-⟩:=bJ (aL w (H #[u,v,Y bj x,y,S a n m,S b p q] 34));have HF:=A g;clear j R z h X K F hs G c D g B;unfold aJt;go_enter func144,ntmps144;go_wp2;go_end0;exact HF.o _ ((ai _ _).A5 _)
def xU(a r:Option ar)(k T c t n m:Nat)(w:Z)(R:Fgs w (S a k c) (L n))(u:Fgs w (S r T t) (L m)):
 ah ac 187 #[ae #[S a k c],ae #[S r T t]] w λe w'=>e=ag (Y U (gG n m))/\C w w w':=by
 obtain⟨va,vc,l⟩:=cr R;injection l with d f B;subst d f B;obtain⟨X,g7,l⟩:=cr u;injection l with d f B;subst d f B;have o:C w w ((w.alloc (H #[S a (L n).length c] 324)).alloc (H #[S r (L m).length t] 324)):=((dk _ _).alloc (hU _) _).alloc (by simp) _;rcases oh (L n).length (L m).length with G|p|K
 .have N:gG n m= -1:=by have:=sN G;unfold gG;rw[pz this]
  rw[N];generalize (L n).length=q at*;generalize (L m).length=s at*;have b1:((q:Int)!=(s:Int))=ao:=by simp;omega
  have b3:(q:Int)<(s:Int):=by omega
  clear R u;go_enter dt,du;go_wp2;go_ret;exact⟨rfl,o⟩
 .have F:n/10000^(L n).length=m/10000^(L n).length:=by
   rw[oo (fa (hU _)),oo (fa (by omega))]
  have V:∀D,C w w D->∀i,i<(L n).length->∃g v,a=I ⟨g,0,O⟩/\r=I ⟨v,0,O⟩/\D.cell? ⟨g,i,O⟩=I (Y U ((n/10000^i%10000:Nat):Int))/\D.cell? ⟨v,i,O⟩=I (Y U ((m/10000^i%10000:Nat):Int)):=by
   intro D P i hi;rcases(R.A7 P).E3 with⟨_,l⟩|⟨g,cap,l,_,_,_,hc⟩
   .rw[l]at hi;simp at hi
   .rcases(u.A7 P).E3 with⟨_,b⟩|⟨v,W,b,_,_,_,h⟩
    .rw[p,b]at hi;simp at hi
    .injection l with d f B;injection b with z h2' h3';exact⟨g,v,d,z,by rw[hc i hi,fc],by rw[h i (p▸hi),fc]⟩
  have HX:=A V;have HZ:=A F
  have P:(L n).length<=au:=by
   rcases R.E3 with⟨_,l⟩|⟨g,cap,_,_,d,f,_⟩
   .rw[l];simp
   .omega
  clear R u V F;generalize (L m).length=s at*;subst p;generalize (L n).length=q at*;unfold au at P;have e0:U.wrap ((q:Int)-1)=(q:Int)-1:=by rw[b9];omega
  go_enter dt,du;go_wp2;go_loopw [5] (λi wr=>∃(k:Nat),k<=q/\i=Y U ((k:Int)-1)/\M (n/10000^k=m/10000^k)/\C w w wr/\wr.heap[w.heap.size]?=I (H #[S a q c] 324 (0,0))/\wr.heap[w.heap.size+1]?=I (H #[S r q t] 324 (0,0))) (λi _=>(aw i+1).toNat)
  case atStart=>exact⟨q,hU _,rfl,HZ,o,(Below.heap_alloc _ _ _ (by simp)).trans (aL w _),by simpa using aL (w.alloc (H #[S a q c] 324)) (H #[S r q t] 324)⟩
  case round=>
   obtain⟨k,hk,rfl,F,b,g1,V⟩:=hrel;have k1:=az g1;have k2:=az V;rcases Nat.eq_zero_or_pos k with rfl|g8
   .have d:gG n m=0:=(by have:=F.o;simp at this;subst this;simp[gG]);have z:=A d;clear d F;go_wp2;go_ret;rw[z.o];exact⟨rfl,b⟩
   .obtain⟨j,rfl⟩:∃j,k=j+1:=⟨k-1,by omega⟩;have W:((j+1:Nat):Int)-1=(j:Int):=(by omega);rw[W];obtain⟨g,v,rfl,rfl,g9,h0⟩:=HX.o _ b j (by omega);have f:=aJE F.o;have h4:(j:Int)<(q:Int):=(by omega);have e2:U.wrap ((j:Int)-1)=(j:Int)-1:=(by rw[b9];omega);generalize n/10000^j%10000=x at*;generalize m/10000^j%10000=y at*;have h:=A f;clear f F W;rcases oh x y with f|f|f
    .have d:gG n m= -1:=(by unfold gG;rw[pz (h.o.1 f)]);have z:=A d;have F:(x:Int)<(y:Int):=(by omega);clear d;go_wp2;go_quiet (fail);go_wp2;go_ret;rw[z.o];exact⟨rfl,ct b _⟩
    .subst f;have W:=A (h.o.2.2 rfl);have F:¬(x:Int)<(x:Int):=(by omega);clear h;go_wp2;go_quiet (fail);go_wp2;go_quiet (fail);go_wp2;go_roundw
     case rel=>exact⟨j,by omega,rfl,W,ct b _,g1,V⟩
     case measure=>simp[aw]
    .have d:gG n m=1:=(by unfold gG;rw[py (by have:=h.o.2.1 f;omega),py (by have:=h.o.2.1 f;omega)]);have z:=A d;have F:¬(x:Int)<(y:Int):=(by omega);have W:(y:Int)<(x:Int):=(by omega);clear d;go_wp2;go_quiet (fail);go_wp2;go_quiet (fail);go_wp2;go_ret;rw[z.o];exact⟨rfl,ct (ct b _) _⟩
 .have N:gG n m=1:=by have:=sN K;unfold gG;rw[py,py]
  rw[N];generalize (L n).length=q at*;generalize (L m).length=s at*;have b1:((q:Int)!=(s:Int))=ao:=by simp;omega
  have b3:¬(q:Int)<(s:Int):=by omega
  clear R u;go_enter dt,du;go_wp2;go_ret;exact⟨rfl,o⟩
def aJF{l:List Nat}{p:Nat}(a:p<l.length)(y:Nat):E (l.set p y)+10000^p*l.getD p 0=E l+10000^p*y:=by
 induction l generalizing p with
 | nil=>simp at a
 | cons x l b=>
  cases p with
  | zero=>simp[E];omega
  | succ p=>
   have:=b (p:=p) (by simpa using a);simp only[List.set_cons_succ,E,jx];have e:(x::l).getD (p+1) 0=l.getD p 0:=(by simp[bg]);rw[e];have d:10000^p*10000*l.getD p 0=10000*(10000^p*l.getD p 0):=(by rw[ke (10000^p),kh]);have c:10000^p*10000*y=10000*(10000^p*y):=(by rw[ke (10000^p),kh]);rw[d,c];omega
def aLe{l:List Nat}(h:bh l)(p:Nat){y:Nat}(b:y<10000):bh (l.set p y):=λx c=>by
 rcases List.mem_or_eq_of_mem_set c with a|a
 .exact h x a
 .subst a;exact b
def xV{l:List Nat}(h:bh l)(i:Nat):l.getD i 0<10000:=by
 rw[bg];cases a:l[i]? with
 | none=>decide
 | some x=>exact h x (List.mem_of_getElem? a)
def aJG{l:List Nat}(h:i<l.length):l[i]?=I (l.getD i 0):=by rw[bg,bf h];rfl
def aJH(l:List Nat)(k:Nat):E (l.drop k)=l.getD k 0+10000*E (l.drop (k+1)):=by
 rcases Nat.lt_or_ge k l.length with h|h
 .rw[List.drop_eq_getElem_cons h,E,bg,bf h];rfl
 .rw[lk h,lk (by omega),bg,List.getElem?_eq_none h];rfl
def aJI{l:List Nat}{j:Nat}(h:j<l.length):E (l.take (j+1))=E (l.take j)+10000^j*l.getD j 0:=by
 rw[List.take_succ_eq_append_getElem h,Fig.val_append,el,mh (by omega),bg,bf h];simp[E]
def aHz(n:Nat):E (dw n 0)=0:=by
 induction n with
 | zero=>rfl
 | succ n a=>rw[List.replicate_succ,E,a]
def aE0(n:Nat):bh (dw n 0):=λx a=>by rw[(List.mem_replicate.1 a).2];decide
def aHA{v P c D x y o X R:Nat}(b:a+P*o=v+P*(X%10000))(h:v+P*c+P*(x*(y+10000*D))=R)(d:X=o+x*y+c):a+P*10000*(X/10000)+P*10000*(x*D)=R:=by
 have e:P*(X%10000)+P*(10000*(X/10000))=P*o+P*(x*y)+P*c:=by rw[<-pp,Nat.mod_add_div,d,pp,pp]
 rw[pp x,pp P,show x*(10000*D)=10000*(x*D)from Nat.mul_left_comm _ _ _]at h;rw[kh P,kh P];omega
def aJJ{v P c j k lb R:Nat}(h:v+10000^(j+k)*c+P=R)(e:R<10000^(j+1+lb))(a:0<c):k<=lb:=by
 refine fh λb=>?_;have f:10000^(j+1+lb)<=10000^(j+k):=Nat.pow_le_pow_right (by decide) (by omega);have d:10000^(j+k)*1<=10000^(j+k)*c:=Nat.mul_le_mul_left _ a;omega
def j4(a a':Option ar)(k k' c c' n m:Nat)(w:Z)(a1:Fgs w (S a k c) (L n))(b:Fgs w (S a' k' c') (L m))(hl:(L n).length<=1048576)(m4:(L m).length<=1048576):
 ah ac 185 #[ae #[S a k c],ae #[S a' k' c']] w λe w'=>qR w (n*m) e w':=by
 obtain⟨va,vc,he⟩:=cr a1;injection he with t r s;subst t r s;obtain⟨m5,m6,he⟩:=cr b;injection he with t r s;subst t r s;have k5:=A a1.E3;have k6:=A (λF(hx:C w w F)=>b.A7 hx);clear a1 b;have i1:=fj n;have h5:=fj m;have b:=fk n;have f:=fk m;generalize u:L n=l at*;generalize h:L m=d at*;have k7:=A b;have i2:=A f;clear u h b f;have h:C w w (((w.alloc (H #[S a l.length c] 324)).alloc (H #[S a' d.length c'] 324)).alloc (H #[()] 324)):=(((dk _ _).alloc (hU _) _).alloc (by simp) _).alloc (by simp;omega) _;have b:C (((w.alloc (H #[S a l.length c] 324)).alloc (H #[S a' d.length c'] 324)).alloc (H #[()] 324)).heap.size (((w.alloc (H #[S a l.length c] 324)).alloc (H #[S a' d.length c'] 324)).alloc (H #[()] 324)) (((w.alloc (H #[S a l.length c] 324)).alloc (H #[S a' d.length c'] 324)).alloc (H #[()] 324)):=dk _ _;obtain⟨g1,f,u,_,_⟩:=tQ b;have G1:=A g1;have G2:=A f;have G3:=A u;clear g1 f u b;obtain⟨N,D⟩:∃N,l.length+d.length+1=N:=⟨_,rfl⟩;have u:U.wrap ((l.length:Int)+(d.length:Int))=(l.length:Int)+(d.length:Int):=by rw[b9];omega
 have z:U.wrap ((l.length:Int)+(d.length:Int)+1)=(N:Int):=by rw[b9];omega
 go_enter func185,ntmps185;go_wp2_with (at_make;refine rO (B:=w.heap.size+3) (enc:=encI) 0 aL4 rfl _ _ rfl _ _ _ _ N N rfl rfl ?_ ?_ ?_ ?_ ?_ ?_ ?_)
 .first|rfl|omega
 .first|rfl|omega
 .omega
 .omega
 .unfold au;omega
 .simp
 intro w1 f b;have i3:w.heap.size+3<=w1.heap.size:=by have:=b.size;simp at this;omega
 have h6:C w w w1:=h.trans (b.mono (by omega));have i4:=A ((b.block _ (by omega)).trans G1.o);have k8:=A ((b.block _ (by omega)).trans G2.o);have k9:=A ((b.block _ (by omega)).trans G3.o);have HN:=A D;have i5:=A f;clear h b f D u z;obtain⟨a0,b⟩:∃a0,w.heap.size+1+1+1=a0:=⟨_,rfl⟩;have i6:w.heap.size+3<=a0:=by omega
 simp only[b]at i5⊢;clear b;go_wp2;go_loopw [6] (λi wr=>∃(j:Nat)(h:List Nat),j<=l.length/\i=Y U j/\Row (w.heap.size+3) 3 encI wr (S (I ⟨a0,0,O⟩) N N) h/\M (h.length=N)/\bh h/\M (E h=E (l.take j)*m)/\C (w.heap.size+3) w1 wr) (λi _=>l.length-(aw i).toNat)
 case atStart=>exact⟨0,dw N 0,dr _,rfl,i5.o.I3 i6,A (by simp),aE0 N,A (by rw[aHz];simp[E]),dk _ _⟩
 case round=>
  obtain⟨j,h,hj,rfl,z,i7,i8,HV,f⟩:=hrel;obtain⟨wo,rfl⟩:∃wo:Z,wo=wr:=⟨_,rfl⟩;have i9:=az ((f.block _ (by omega)).trans i4.o);by_cases h7:j<l.length
  .rcases k5.o with⟨_,hn⟩|⟨g,cap,he,hg,_,_,b⟩
   .subst hn;simp at h7
   .injection he with t r s;have hx:=xV i1 j;have u:∀F,C (w.heap.size+3) w1 F->F.cell? ⟨g,j,O⟩=I (Y U (l.getD j 0:Nat)):=λF hb=>(hb.cell (by simp;omega)).trans ((h6.cell hg).trans (b j h7));subst t;clear b r s;have s:=aJI h7
    have D:E (l.take (j+1))*m<10000^(j+1+d.length):=by
     have t:=fm (l:=l.take (j+1)) (λy hy=>i1 y (List.mem_of_mem_take hy));have r:=fm h5;rw[i2.o]at r;rw[el,mh (by omega)]at t;rw[Nat.pow_add];exact Nat.mul_lt_mul_of_lt_of_le t (iF r) (Nat.pow_pos (by decide))
    have b:E h+10000^(j+0)*0+10000^(j+0)*(l.getD j 0*E (d.drop 0))=E (l.take (j+1))*m:=by
     rw[s,HV.o,List.drop_zero,i2.o,Nat.mul_zero,lv,lv,lu,kh]
    generalize r:E (l.take (j+1))*m=R at*;have l0:=A r;clear r;generalize l.getD j 0=x at*;have HR:=A D;have l1:=A b;have l2:=A u;clear s D b u;go_wp2
    go_loopw [8,7] (λi mo wr=>∃(k G:Nat)(D:List Nat),k<=d.length+1/\i=Y U k/\mo=Y U G/\G<10000/\Row (w.heap.size+3) 3 encI wr (S (I ⟨a0,0,O⟩) N N) D/\M (D.length=N)/\bh D/\
     M (E D+10000^(j+k)*G+10000^(j+k)*(x*E (d.drop k))=R)/\C (w.heap.size+3) w1 wr) (λi _ _=>d.length+1-(aw i).toNat)
    case atStart=>exact⟨0,0,h,dr _,rfl,rfl,by decide,z,i7,i8,l1,f⟩
    case round=>
     obtain⟨k,G,D,hk,rfl,rfl,m7,r,s,K,T,b⟩:=hrel;clear z f i9;have j0:w.heap.size+3<=wr.heap.size:=bo i3 b.size;have h8:=az ((b.block _ (by omega)).trans i4.o);have h9:=az ((b.block _ (by omega)).trans k8.o);by_cases P:k<d.length\/0<G
     .have m8:k<=d.length:=by
       rcases P with t|t
       .omega
       .exact aJJ T.o HR.o t
      obtain⟨q,hq⟩:∃q,j+k=q:=⟨_,rfl⟩;have j1:=T;rw[hq]at j1;have j2:q<N:=(by have:=HN.o;omega);have j3:q<D.length:=(by rw[s.o];exact j2);have V:wr.cell? ⟨a0,q,O⟩=I (Y U (D.getD (q) 0:Nat)):=r.B6 (aJG j3);have W:=l2.o _ b;have t:=λy=>aJF (l:=D) j3 y;have hy:=xV h5 k;have ho:=xV K (q);have l3:a0<wr.heap.size:=kj _ _ V;have l4:g<wr.heap.size:=kj _ _ W;have u:∀F,C wr.heap.size wr F->ah ac 201 #[ae #[S a' d.length c'],k] F λe w'=>e=ag (Y U (d.getD k 0:Nat))/\C F.heap.size F w':=λF hb=>aHy _ _ _ _ _ _ (k6.o _ (h6.trans ((b.mono (by omega)).trans (hb.mono (by omega)))));have i0:=aJH d k;generalize d.getD k 0=y at*;generalize D.getD (q) 0=o at*;have j8:x*y<=9999*9999:=Nat.mul_le_mul (by omega) (by omega);obtain⟨p,hp⟩:∃p,x*y=p:=⟨_,rfl⟩;have j5:(x:Int)*(y:Int)=(p:Int):=(by rw[<-hp];exact(Int.natCast_mul x y).symm);have j6:=A t;have l5:=A u;have HP:=A hp;have l6:=A i0;have l7:U.wrap ((x:Int)*(y:Int))=(p:Int):=(by rw[b9,j5];omega);obtain⟨X,hX⟩:∃X,o+p+G=X:=⟨_,rfl⟩;have l8:U.wrap ((o:Int)+(p:Int))=(o:Int)+(p:Int):=(by rw[b9];omega);have l9:U.wrap ((o:Int)+(p:Int)+(G:Int))=(X:Int):=(by rw[b9];omega);have m9:U.wrap ((j:Int)+(k:Int))=(q:Int):=(by rw[b9];omega);have n0:(q:Int)<(N:Int):=(by omega);have n1:X<=99999999:=(by omega);have HX:=A hX;have HQ:=A hq;have j7:(k:Int)<(d.length:Int)\/(¬(k:Int)<(d.length:Int)/\(0:Int)<(G:Int)):=(by omega);clear t u hp j5 i0 P j8 hX hq;rcases j7 with q1|⟨q1,q2⟩
      all_goals
       go_wp2
       go_region_held3 (λw'=>w'.cell? w=I (S g l.length c)/\w'.cell? ⟨w.heap.size+1,0,O⟩=I (S a' d.length c')/\w'.cell? ⟨g,j,O⟩=I (Y U x)/\w'.cell? ⟨a0,q,O⟩=I (Y U o)) (first|exact⟨j5,j8,j9,u⟩|exact⟨h8,h9,W,V⟩|go_keep)
        (first|(go_at_call 201;(with_reducible refine(l5.o _ ((dk _ wr).drew)).mono ?_);rintro e F ⟨rfl,t⟩;have j5:=(t.cell (p:=⟨w.heap.size,0,O⟩) (by simp;omega)).trans h8;have j8:=(t.cell (p:=⟨w.heap.size+1,0,O⟩) (by simp;omega)).trans h9;have j9:=(t.cell (p:=⟨g,j,O⟩) (by simpa using l4)).trans W;have u:=(t.cell (p:=⟨a0,q,O⟩) (by simpa using l3)).trans V))
       all_goals
        have i0:=b.drew.trans ((t.mono (show w.heap.size+3<=wr.drew.heap.size from j0)));have u:=(r.B0).A7 t;have k4:=u.K6 (q);have e1:Int.tmod (X:Int) 10000=((X%10000:Nat):Int):=rfl;have e2:Int.tdiv (X:Int) 10000=((X/10000:Nat):Int):=rfl;have hv:E D+10000^q*G+10000^q*(x*(y+10000*E (d.drop (k+1))))=R:=(by rw[<-l6.o];exact j1.o);have k0:X=o+x*y+G:=(by rw[HP.o];exact HX.o.symm);have m1:=A (aHA (j6.o (X%10000)) hv k0);have k1:=u.N8 (i:=q) (by rw[s.o];exact j2) (X%10000);have m2:X/10000<10000:=(by omega);have m3:X%10000<10000:=Nat.mod_lt _ (by decide);have k2:=A k1;clear hv k0 t j5 j8 j9 r u k1 b h8 h9 W V l7 l8 l9;go_wp2_with fail;have t:(X:Int)/10000=((X/10000:Nat):Int):=rfl;have u:(X:Int)%10000=((X%10000:Nat):Int):=rfl;rw[t,u];refine⟨⟨k+1,X/10000,D.set q (X%10000),by omega,by go_num,rfl,m2,k2.o,A (by rw[List.length_set];exact s.o),aLe K _ m3,?_,i0.setCell (by simpa using i6) _⟩,by simp[aw];omega⟩;have V:10000^(j+(k+1))=10000^q*10000:=(by rw[<-fo,HQ.o,jx]);rw[V];exact A m1.o
     .have t:d.length<=k:=fh λa1=>P (ak a1);obtain rfl:G=0:=(by have:=λa1=>P (.inr a1);omega);have q1:¬(k:Int)<(d.length:Int):=by omega
      have hv:E D=R:=by
       have:=T.o;rw[lk t]at this;simpa[E]using this
      have u:=A hv;clear P t hv T;simp only[Int.natCast_zero];go_wp2_with fail;exact⟨⟨j+1,D,by omega,by go_num,r,s,K,A (u.o.trans l0.o.symm),b⟩,by simp[aw];omega⟩
  .have r:j=l.length:=(by omega);have b:E h=n*m:=(by rw[HV.o,r,List.take_length,k7.o]);have V:=A b;have t:C w w wo:=h6.trans (f.mono (by omega));have K:=(f.block _ (by omega)).trans k9.o;clear b r;go_wp2_with fail;refine(aC0 _ h _ i8 (z.I3 (dr _))).mono ?_;rintro e w3 ⟨a3,P,T,rfl,r,b⟩;rw[V.o]at r;have u:=keep K b;have D:=az u;have W:=free_of_one u;have G:=chain t b;have HM:=A r;clear r K f z i9;go_wp2;exact bb (v:=ae #[S a3 P T]) (by simp[results,results185,go_sem,D]) rfl ⟨a3,P,T,rfl,HM.o.E0 u (by decide) _ _,G.setCell (by simp;omega) _⟩
def gP(b:Nat):Pc (List UInt8×Nat)->J
 | .cut=>ae #["",Y U 0,Y U 0,Y U 0,af ao]
 | .bad no a=>ae #["",Y U 0,no,Y U ((b+a:Nat):Int),af Q]
 | .ok x=>ae #[di ⟨x.1.toArray⟩,x.2,Y U 0,Y U 0,af Q]
def aS{w f:Z}{b:Nat}{m l k j n:J}(e i d c g:J)(h:w.heap[b]?=I (H #[m,l,k,j,n] T (0,0)))(q:C f f w)(a:f.heap.size<=b):
 (((((w.setCell b e).setCell ⟨b,1,O⟩ i).setCell ⟨b,2,O⟩ d).setCell ⟨b,3,O⟩ c).setCell ⟨b,4,O⟩ g).heap[b]?=I (H #[e,i,d,c,g] T (0,0))/\
 C f f (((((w.setCell b e).setCell ⟨b,1,O⟩ i).setCell ⟨b,2,O⟩ d).setCell ⟨b,3,O⟩ c).setCell ⟨b,4,O⟩ g):=
 ⟨aB (o:=4) (aB (o:=3) (aB (o:=2) (aB (o:=1) (aB (o:=0) h e) i) d) c) g,((((q.setCell (p:=b) a e).setCell (p:=⟨b,1,O⟩) a i).setCell (p:=⟨b,2,O⟩) a d).setCell (p:=⟨b,3,O⟩) a c).setCell (p:=⟨b,4,O⟩) a g⟩
def mA(w:Z)(no a:Nat):ah ac 156 #[no,a] w λe w'=>e=ag (ae #["",Y U 0,no,a,af Q])/\C w w w':=by
 go_enter func156,ntmps156;go_wp2;exact bb (v:=ae #["",Y U 0,no,a,af Q]) (by simp[results,results156,go_sem]) rfl ⟨rfl,(dk _ _).alloc (hU _) _⟩
def gN(c:UInt8):Int:=match cO c with
 | some b=>(b.toNat:Int)
 | none=> -1
def aCR(w:Z)(c:UInt8):ah ac 176 #[Y .u8 c.toNat] w λe w'=>e=ag (Y U (gN c))/\w'=w:=by
 have d:∃k,(k=0/\c=34/\gN c=34)\/(k=1/\c=92/\gN c=92)\/(k=2/\c=47/\gN c=47)\/(k=3/\c=98/\gN c=8)\/(k=4/\c=102/\gN c=12)\/(k=5/\c=110/\gN c=10)\/(k=6/\c=114/\gN c=13)\/(k=7/\c=116/\gN c=9)\/
  (k=8/\(c≠34/\c≠92/\c≠47/\c≠98/\c≠102/\c≠110/\c≠114/\c≠116)/\gN c= -1):=by
  by_cases b:c=34
  .subst b;exact⟨0,ak ⟨rfl,rfl,rfl⟩⟩
  by_cases f:c=92
  .subst f;exact⟨1,by simp[gN,cO]⟩
  by_cases a:c=47
  .subst a;exact⟨2,by simp[gN,cO]⟩
  by_cases g:c=98
  .subst g;exact⟨3,by simp[gN,cO]⟩
  by_cases h:c=102
  .subst h;exact⟨4,by simp[gN,cO]⟩
  by_cases i:c=110
  .subst i;exact⟨5,by simp[gN,cO]⟩
  by_cases j:c=114
  .subst j;exact⟨6,by simp[gN,cO]⟩
  by_cases l:c=116
  .subst l;exact⟨7,by simp[gN,cO]⟩
  exact⟨8,by simp[gN,cO,b,f,a,g,h,i,j,l]⟩
 obtain⟨k,d⟩:=d
 have b:∀{x:UInt8},c≠x->¬((x.toNat:Nat):Int)=(c.toNat:Int)/\(((x.toNat:Nat):Int)==(c.toNat:Int))=Q:=λo=>by
  have a:∀x:UInt8,c≠x->¬((x.toNat:Nat):Int)=(c.toNat:Int):=λx d e=>d (kb (by omega));exact⟨a _ o,by simpa using a _ o⟩
 have p:(((⟨#[34,92,47,98,102,110,114,116]⟩:ByteArray)[0].toNat:Nat):Int)=34:=rfl;have q:(((⟨#[34,92,47,8,12,10,13,9]⟩:ByteArray)[0].toNat:Nat):Int)=34:=rfl;have r:(((⟨#[34,92,47,98,102,110,114,116]⟩:ByteArray)[1].toNat:Nat):Int)=92:=rfl;have s:(((⟨#[34,92,47,8,12,10,13,9]⟩:ByteArray)[1].toNat:Nat):Int)=92:=rfl;have t:(((⟨#[34,92,47,98,102,110,114,116]⟩:ByteArray)[2].toNat:Nat):Int)=47:=rfl;have u:(((⟨#[34,92,47,8,12,10,13,9]⟩:ByteArray)[2].toNat:Nat):Int)=47:=rfl;have v:(((⟨#[34,92,47,98,102,110,114,116]⟩:ByteArray)[3].toNat:Nat):Int)=98:=rfl;have y:(((⟨#[34,92,47,8,12,10,13,9]⟩:ByteArray)[3].toNat:Nat):Int)=8:=rfl;have z:(((⟨#[34,92,47,98,102,110,114,116]⟩:ByteArray)[4].toNat:Nat):Int)=102:=rfl;have B:(((⟨#[34,92,47,8,12,10,13,9]⟩:ByteArray)[4].toNat:Nat):Int)=12:=rfl;have D:(((⟨#[34,92,47,98,102,110,114,116]⟩:ByteArray)[5].toNat:Nat):Int)=110:=rfl;have F:(((⟨#[34,92,47,8,12,10,13,9]⟩:ByteArray)[5].toNat:Nat):Int)=10:=rfl;have G:(((⟨#[34,92,47,98,102,110,114,116]⟩:ByteArray)[6].toNat:Nat):Int)=114:=rfl;have K:(((⟨#[34,92,47,8,12,10,13,9]⟩:ByteArray)[6].toNat:Nat):Int)=13:=rfl;have N:(((⟨#[34,92,47,98,102,110,114,116]⟩:ByteArray)[7].toNat:Nat):Int)=116:=rfl;have P:(((⟨#[34,92,47,8,12,10,13,9]⟩:ByteArray)[7].toNat:Nat):Int)=9:=rfl;rcases d with⟨rfl,rfl,a⟩|⟨rfl,rfl,a⟩|⟨rfl,rfl,a⟩|⟨rfl,rfl,a⟩|⟨rfl,rfl,a⟩|⟨rfl,rfl,a⟩|⟨rfl,rfl,a⟩|⟨rfl,rfl,a⟩|⟨rfl,⟨f,g,h,i,j,l,m,n⟩,a⟩
 case inr.inr.inr.inr.inr.inr.inr.inr=>
  rw[a];have R:((34:Int)==(c.toNat:Int))=Q:=(b f).2;have b1:((92:Int)==(c.toNat:Int))=Q:=(b g).2;have b2:((47:Int)==(c.toNat:Int))=Q:=(b h).2;have b3:((98:Int)==(c.toNat:Int))=Q:=(b i).2;have b4:((102:Int)==(c.toNat:Int))=Q:=(b j).2;have T:((110:Int)==(c.toNat:Int))=Q:=(b l).2;have V:((114:Int)==(c.toNat:Int))=Q:=(b m).2;have W:((116:Int)==(c.toNat:Int))=Q:=(b n).2;clear a b f g h i j l m n;go_enter func176,ntmps176;go_wp2_with fail;refine fv 9 ?_
  iterate 9 (rw[fw];go_wp2_with fail)
  go_ret;exact⟨rfl,rfl⟩
 all_goals
  rw[a];clear a b;go_enter func176,ntmps176;go_wp2_with fail;refine fv 9 ?_
  iterate 9 (try(rw[fw];go_wp2_with fail))
  go_ret;exact⟨rfl,rfl⟩
