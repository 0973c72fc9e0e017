/-
  The program, one part of its walk. Conditions: none.
-/
import Derived.Test.YtakkmiomhackiaaGreatDoorBf06
import Derived.Test.YtakkmiomhackiaaGreatDoorBf07
import Derived.StillTailTactics
import Derived.Laws.Runes
set_option linter.all false
set_option maxRecDepth 100000
set_option maxHeartbeats 16000000
open Go.Proofs.Tryz
open Array renaming length_toList->ao
open Bool renaming false->U,true->Z
open ByteArray renaming size_append->dh
open Except renaming error->eh,ok->fc
open Go renaming Addr->bu,Calls->af,Ending->ck,TypeId->cg,Value->O,World->X,bodyPost_ret->aj,bytesRow->em,grownCap->ct,heap_alloc_new->ei,lt_of_block->fa,maxLen->cj,results->ak
open Go.Addr renaming add->gd
open Go.Ending renaming returned->Q
open Go.Fn renaming func->cv
open Go.IntKind renaming i32->H,i64->J,u64->bz,u8->dj,wrap_i32->cr,wrap_i64->av,wrap_u8->ek
open Go.Lib renaming toList_data->fk,trimLeftB->fh,trimRightB->ej
open Go.Lit renaming string->dy
open Go.Obj renaming cells->D
open Go.Proofs renaming intOf->co
open Go.Proofs.Tryz renaming func142->cw,func202->bm,func203->ba,func204->eo,ntmps142->cz,ntmps202->bp,ntmps203->bc,ntmps204->ep,prog->T,results177->bw,results209->di,results229->fm,underlying263->eu,underlying3->ev,underlying9->fz
open Go.Proofs.YtakkmiomhackiaaGreatDoor.Keeps renaming A0->dl,A8->ah
open Go.RowKit renaming Below->bk,wrap32->bx
open Go.RowKit.Below renaming refl->fg
open Go.Utf8 renaming encode->fu,valid->fv
open Go.Value renaming agg->ai,bool->E,func->cu,int->I,nilIface->fw,pointer->bj,slice->Y,string->au,tuple->ag
open Go.World renaming drewN->fe
open Go.World.ownsMap renaming lookup_int->gj,store->gk
open List renaming dropWhile_sublist->fi,flatten_cons->dm,foldl_append->ft,foldl_cons->fq,getElem?_append_left->du,getElem?_append_right->dv,getElem?_eq_getElem->dx,getElem?_eq_some_iff->dw,getElem?_map->gc,length_append->dp,length_map->ga,length_reverse->fj,map_append->gh,mem_cons_of_mem->et,mem_cons_self->dq,mem_map->ge
open Nat renaming add_mul->dt,le_refl->aw,le_succ->ar,le_trans->bh,lt_of_lt_of_le->ez,mul_le_mul_right->ee,sub_mul->ew
open Option renaming none->S,some->N
open Or renaming inl->ac,inr->ae
namespace Go.Proofs.YtakkmiomhackiaaGreatDoor
open Go.RowKit
variable {v:O}{a d i:Nat}
section
def oE{s:Nat}:∀{a:List (List O)},(∀c∈a,c.length=s)->a.flatten.length=a.length*s
 | [],_=>by simp
 | c::a,h=>by
  rw[dm,dp,oE (λx b=>h x (et _ b)),h c (dq ..),List.length_cons,dt];omega
def pH{s:Nat}:∀{a:List (List O)},(∀c∈a,c.length=s)->∀{i j:Nat}{c:List O},a[i]?=N c->j<s->a.flatten[i*s+j]?=c[j]?
 | [],_,_,_,_,hi,_=>by simp at hi
 | d::a,h,0,j,c,hi,b=>by
  simp at hi;subst hi;rw[dm,Nat.zero_mul,Nat.zero_add,du (by rw[h d (dq ..)];exact b)]
 | d::a,h,i+1,j,c,hi,b=>by
  have e:=h d (dq ..);rw[dm,dv (by rw[e,dt];omega),e,show(i+1)*s+j-s=i*s+j by rw[dt];omega];exact pH (λx f=>h x (et _ f)) (by simpa using hi) b
def dV(a:List (List O))(c:List O):(a++ [c]).flatten=a.flatten++c:=by simp
def eQ(b:Int)(a:Bool)(c:Nat)(s:ByteArray)(V K:O):List O:= [I J b,E a,I bz c,au s,V,K]
def gQ:O:=Y S 0 0
inductive ValAt(F:Nat->Prop)(w:X):List O->Tr->Prop
 | null:ValAt F w (eQ 1 U 0 ⟨#[]⟩ gQ gQ) .null
 | flag (b:Bool):ValAt F w (eQ 2 b 0 ⟨#[]⟩ gQ gQ) (.flag b)
 | num (x:Nat):ValAt F w (eQ 3 U x ⟨#[]⟩ gQ gQ) (.num x)
 | text (s:List UInt8):ValAt F w (eQ 4 U 0 ⟨s.toArray⟩ gQ gQ) (.text s)
 | list (V:O) (css:List (List O)) (l:List Tr) (hw:aQ 6 34 w V l.length css.flatten) (hF:∀k,V.ownBlock=N k->F k) (hl:css.length=l.length)
  (ht:∀(i:Nat)(c:List O)(t:Tr),css[i]?=N c->l[i]?=N t->ValAt F w c t):ValAt F w (eQ 5 U 0 ⟨#[]⟩ V gQ) (.list l)
 | object (V K:O) (css:List (List O)) (keys:List (List UInt8)) (l:List Tr) (hw:aQ 6 34 w V l.length css.flatten) (hF:∀k,V.ownBlock=N k->F k) (hk:Win 9 encS w K keys) (hKF:∀k,K.ownBlock=N k->F k) (hl:css.length=l.length) (hkl:keys.length=l.length)
  (ht:∀(i:Nat)(c:List O)(t:Tr),css[i]?=N c->l[i]?=N t->ValAt F w c t):ValAt F w (eQ 6 U 0 ⟨#[]⟩ V K) (.object keys l)
def fC(w:X)(k:Nat):Prop:=∃(c:Array O)(a:cg),w.heap[k]?=N (D c a (0,0))/\a≠34/\a≠9
def fC.of{w:X}{b:Nat}{c:Array O}{e:cg}(h:w.heap[b]?=N (D c e (0,0)))(d:e≠34)(a:e≠9):fC w b:=⟨c,e,h,d,a⟩
def aQ.E0{s e n:Nat}{w:X}{d:List O}(h:aQ s e w v n d){k:Nat}(a:v.ownBlock=N k):∃c:Array O,w.heap[k]?=N (D c e (0,0)):=by
 rcases h.2 with⟨rfl,_⟩|⟨g,off,cap,b,rfl,f,_⟩
 .cases a
 .cases a;exact⟨_,f⟩
section
variable {F G:Nat->Prop} {w w':X} {c:List O} {t:Tr}
def aQ.F6{s n:Nat}{b:List O}(h:aQ s 34 w v n b)(f:Keeps G w w')(d:∀k,v.ownBlock=N k->G k->fC w k):aQ s 34 w' v n b:=
 h.A2 f λk e g=>by
  obtain⟨c,m,j,i,_⟩:=d k e g;obtain⟨l,a⟩:=h.E0 e;rw[j]at a;cases a;exact i rfl
def Win.F6{l:List Oo}(h:Win 9 encS w v l)(d:Keeps G w w')(b:∀k,v.ownBlock=N k->G k->fC w k):Win 9 encS w' v l:=
 h.A2 d λk e g=>by
  obtain⟨c,m,i,_,f⟩:=b k e g;obtain⟨j,a⟩:=h.E0 e;rw[i]at a;cases a;exact f rfl
def ValAt.A2(h:ValAt F w c t)(m:Keeps G w w')(i:∀k,F k->k<w.heap.size->G k->fC w k):ValAt F w' c t:=by
 induction h with
 | null=>exact .null
 | flag b=>exact .flag b
 | num x=>exact .num x
 | text s=>exact .text s
 | list V a l f d n q o=>exact .list V a l (f.F6 m λk e=>i k (d k e) (f.lt e)) d n o
 | object V K a keys l f d p g n j q o=>exact .object V K a keys l (f.F6 m λk e=>i k (d k e) (f.lt e)) d (p.F6 m λk e=>i k (g k e) (p.lt e)) g n j o
def ValAt.mono(h:ValAt F w c t)(i:∀k,F k->k<w.heap.size->G k):ValAt G w c t:=by
 induction h with
 | null=>exact .null
 | flag b=>exact .flag b
 | num x=>exact .num x
 | text s=>exact .text s
 | list V a l d g j p m=>exact .list V a l d (λk e=>i k (g k e) (d.lt e)) j m
 | object V K a keys l d g o n j f p m=>exact .object V K a keys l d (λk e=>i k (g k e) (d.lt e)) o (λk e=>i k (n k e) (o.lt e)) j f m
def ValAt.A7(h:ValAt F w c t):∃(i:Int)(v:Bool)(r:Nat)(s:ByteArray)(a:Option bu)(n m:Nat)(b:Option bu)(p q:Nat),c=eQ i v r s (Y a n m) (Y b p q):=by
 cases h with
 | null=>exact⟨_,_,_,_,_,_,_,_,_,_,rfl⟩
 | flag b=>exact⟨_,_,_,_,_,_,_,_,_,_,rfl⟩
 | num x=>exact⟨_,_,_,_,_,_,_,_,_,_,rfl⟩
 | text s=>exact⟨_,_,_,_,_,_,_,_,_,_,rfl⟩
 | list V e l f o u j=>
  obtain⟨a,c,rfl⟩:=f.A7;exact⟨_,_,_,_,_,_,_,_,_,_,rfl⟩
 | object V K e keys l f o k y u g j=>
  obtain⟨a,c,rfl⟩:=f.A7;obtain⟨b,d,rfl⟩:=k.A7;exact⟨_,_,_,_,_,_,_,_,_,_,rfl⟩
def ValAt.O4(h:ValAt F w c t):c.length=6:=by cases h<;>rfl
end
def l5(F:Nat->Prop)(w:X)(a:List (List O))(l:List Tr):Prop:=a.length=l.length/\∀(i:Nat)(c:List O)(t:Tr),a[i]?=N c->l[i]?=N t->ValAt F w c t
section
variable {F G:Nat->Prop} {w w':X} {css:List (List O)} {l:List Tr}
def l5.A2(h:l5 F w css l)(b:Keeps G w w')(a:∀k,F k->k<w.heap.size->G k->fC w k):l5 F w' css l:=⟨h.1,λi c t e d=>(h.2 i c t e d).A2 b a⟩
def l5.mono(h:l5 F w css l)(a:∀k,F k->k<w.heap.size->G k):l5 G w css l:=⟨h.1,λi c t d b=>(h.2 i c t d b).mono a⟩
def l5.nil(F:Nat->Prop)(w:X):l5 F w [] []:=⟨rfl,λi c t a=>by simp at a⟩
def l5.Q5(h:l5 F w css l):∀c∈css,c.length=6:=by
 intro c b;obtain⟨i,hi⟩:=List.getElem?_of_mem b;have a:i<l.length:=by rw[<-h.1];exact(dw.1 hi).1
 exact(h.2 i c _ hi (dx a)).O4
def l5.J8{c:List O}{t:Tr}(h:l5 F w css l)(f:ValAt F w c t):l5 F w (css++ [c]) (l++ [t]):=by
 refine⟨by simp[h.1],λi x y a b=>?_⟩
 by_cases hi:i<css.length
 .rw[du hi]at a;rw[du (by have:=h.1;omega)]at b;exact h.2 i x y a b
 .rw[dv (by omega)]at a;rw[dv (by have:=h.1;omega)]at b
  have e:i-css.length=0:=by
   have:=(dw.1 a).1;simp at this;omega
  have d:i-l.length=0:=by have:=h.1;omega
  rw[e]at a;rw[d]at b;simp at a b;subst a;subst b;exact f
end
def aJs:List (List UInt8)->DataW Unit
 | []=>.map []
 | k::r=>(aJs r).put (dy k) (.lit (.int J 1))
def aCV:∀r,Maps.IsMap (aJs r)
 | []=>Maps.isMap_empty
 | k::r=>(aCV r).put _ _
def aGG{k:Oo}(z:DataW Unit):∀(r:List Oo),(aJs r).atKey (dy k) z=if k∈r then .lit (.int J 1)else z
 | []=>rfl
 | x::r=>by
  unfold aJs
  by_cases h:k=x
  .subst h;rw[Maps.atKey_put_same (aCV r) (show WideAt.IsKeyLit (dy _)from trivial)];simp
  .rw[Maps.atKey_put_other (by simpa using h),aGG z r];simp[h]
def dY(w:X)(b:Nat)(r:List (List UInt8)):Prop:=w.ownsMap T 9 (plainElem T 3) b r.length (aJs r)
section
variable {w:X} {b:Nat} {r:List (List UInt8)} {k:List UInt8}
def dY.P5(h:dY w b r)(f:k.length<=cj):(Instr.lookup 263 (.map (N b)) (encS k) U).run T w=.ok (I J (if k∈r then 1 else 0)) w:=by
 obtain⟨c,d,a,_⟩:=gj h qP eu ev (aJq w) (aET k f);rw[aGG]at a
 by_cases e:k∈r
 .rw[if_pos e]at a⊢;cases a;exact d
 .rw[if_neg e]at a⊢;cases a;exact d
def dY.C9(h:dY w b r)(c:r.length<=4194304)(a:k.length<=cj):∃w',(Instr.mapUpdate 263 (.map (N b)) (encS k) (I J 1)).run T w=.ok () w'/\dY w' b (k::r)/\w.mapTurned w' b:=
 gk h qP eu (by unfold cj;omega) (aET k a) (plainElem_int ev (aMh 1 (by omega)))
def dY.N0(w:X):dY (w.alloc (.map #[] 0)) w.heap.size []:=World.ownsMap_made w _ _ _
def dY.A2{F:Nat->Prop}{w':X}(h:dY w b r)(c:Keeps F w w')(g:¬F b):dY w' b r:=by
 obtain⟨f,a,e,d⟩:=h;exact⟨f,a,c.B7 e g,d⟩
def dY.F6{G:Nat->Prop}{w':X}(h:dY w b r)(f:Keeps G w w')(e:G b->fC w b):dY w' b r:=
 h.A2 f λg=>by
  obtain⟨c,l,i,_⟩:=e g;obtain⟨k,a,d,j⟩:=h;rw[i]at d;cases d
def dY.ne{g:Nat}{c:Array O}{k:cg}(h:dY w b r)(f:w.heap[g]?=N (D c k (0,0))):b≠g:=by
 intro e;obtain⟨j,a,d,i⟩:=h;rw[e,f]at d;cases d
end
section
variable {s e n:Nat} {w:X} {g off cap:Nat} {cs:List O}
def aQ.take(h:aQ s e w (Y (g,off) n cap) n cs){k:Nat}(m:k<=n):aQ s e w (Y (g,off) k cap) k (cs.take (k*s)):=by
 rcases h with⟨i,⟨c,_⟩|⟨q,d,f,b,c,l,r,o,p,hi⟩⟩
 .cases c
 .cases c;have:=ee s m;exact⟨by rw[List.length_take,i];omega,ae ⟨g,off,cap,b,rfl,l,by omega,o,p,λj u a=>hi j u (by rw[List.getElem?_take]at a;split at a;exact a;cases a)⟩⟩
def aQ.M5(h:aQ s e w (Y (g,off) n cap) n cs){k:Nat}(m:k<=n):aQ s e w (Y (g,off+k*s) (n-k) (cap-k)) (n-k) (cs.drop (k*s)):=by
 rcases h with⟨i,⟨b,_⟩|⟨q,c,d,a,b,l,o,r,t,hi⟩⟩
 .cases b
 .cases b;have p:=ee s (bh m o);refine⟨by rw[List.length_drop,i,ew],ae ⟨g,off+k*s,cap-k,a,rfl,l,by omega,by rw[ew];omega,by omega,λj u f=>?_⟩⟩;rw[List.getElem?_drop]at f;rw[Nat.add_assoc];exact hi _ u f
def aQ.B5(h:aQ s e w (Y (g,off) n cap) n cs)(j:Nat)(u:O):aQ s e (w.setCell ⟨g,off+j,S⟩ u) (Y (g,off) n cap) n (cs.set j u):=by
 rcases h with⟨m,⟨f,_⟩|⟨t,k,l,d,f,p,o,q,r,hi⟩⟩
 .cases f
 .cases f;refine⟨by simp[m],ae ⟨g,off,cap,d.setIfInBounds (off+j) u,rfl,aB p u,o,by simpa using q,r,λi x a=>?_⟩⟩;rw[Array.getElem?_setIfInBounds];rw[List.getElem?_set]at a
  by_cases b:j=i
  .subst b;rw[if_pos rfl]at a⊢;split at a
   .rename_i c;cases a;rw[m]at c;have:=ee s o;rw[if_pos (by omega)]
   .cases a
  .rw[if_neg b]at a;rw[if_neg (by omega)];exact hi i x a
def aQ.F0(h:aQ s e w (Y (g,off) n cap) n cs)(o:Nat):w.frozen? ⟨g,o,S⟩=U:=by
 rcases h with⟨_,⟨a,_⟩|⟨i,b,c,d,a,f,_⟩⟩
 .cases a
 .cases a;exact free_at f o
def aQ.block(h:aQ s e w (Y (g,off) n cap) n cs):∃a,w.heap[g]?=N (D a e (0,0)):=by
 rcases h with⟨_,⟨b,_⟩|⟨i,c,d,a,b,f,_⟩⟩
 .cases b
 .cases b;exact⟨a,f⟩
def aQ.some(h:aQ s e w v (n+1) cs):∃g off cap,v=Y (N ⟨g,off,S⟩) (n+1) cap:=by
 rcases h with⟨_,⟨_,b⟩|⟨g,off,cap,a,rfl,_⟩⟩
 .omega
 .exact⟨g,off,cap,rfl⟩
end
end
section
def frC(o:Bool)(K:O)(m:Nat)(V:O):List O:= [E o,K,.map (N m),V]
structure jZ(lo hi:Nat)(w:X)(o:Bool)(K:O)(m:Nat)(V:O)(css:List (List O))(f:RFr):Prop where
 i:o=f.object
 a:Win 9 encS w K f.a
 h:∀k,K.ownBlock=N k->lo<=k/\k<hi
 d:dY w m f.a.reverse
 g:lo<=m/\m<hi
 b:aQ 6 34 w V f.b.length css.flatten
 e:∀k,V.ownBlock=N k->lo<=k/\k<hi
 c:l5 (λk=>lo<=k/\k<hi/\V.ownBlock≠N k/\K.ownBlock≠N k/\k≠m) w css f.b
def jZ.A2{hi:Nat}{w w':X}{o:Bool}{K V:O}{m:Nat}{a:List (List O)}{f:RFr}{G:Nat->Prop}(h:jZ d hi w o K m V a f)(b:Keeps G w w')(c:∀k,d<=k->k<hi->G k->fC w k):jZ d hi w' o K m V a f:=
 ⟨h.i,h.a.F6 b λk e=>c k (h.h k e).1 (h.h k e).2,h.h,h.d.F6 b (c m h.g.1 h.g.2),h.g,h.b.F6 b λk e=>c k (h.e k e).1 (h.e k e).2,h.e,h.c.A2 b λk e _=>c k e.1 e.2.1⟩
inductive eR(w:X):Nat->List (List O)->List RFr->Nat->Prop
 | nil (lo hi:Nat) (h:lo<=hi):eR w lo [] [] hi
 | snoc {lo mid hi:Nat} {pcs:List (List O)} {fs:List RFr} (h:eR w lo pcs fs mid) (o:Bool) (K:O) (m:Nat) (V:O) (css:List (List O)) (f:RFr) (hf:jZ mid hi w o K m V css f):eR w lo (pcs++ [frC o K m V]) (fs++ [f]) hi
section
variable {w w':X} {lo hi:Nat} {pcs:List (List O)} {fs:List RFr}
def eR.le(h:eR w lo pcs fs hi):lo<=hi:=by
 induction h with
 | nil _ h=>exact h
 | snoc _ o K m V a f b c=>have:=b.g;omega
def eR.A2{G:Nat->Prop}(h:eR w lo pcs fs hi)(g:Keeps G w w')(d:∀k,lo<=k->k<hi->G k->fC w k):eR w' lo pcs fs hi:=by
 induction h with
 | nil _ h=>exact .nil _ _ h
 | snoc h o K m V a f c i=>
  have l:=h.le;have j:=c.g;exact .snoc (i λk e b=>d k e (by omega)) o K m V a f (c.A2 g λk e b=>d k (by omega) b)
def eR.O4(h:eR w lo pcs fs hi):pcs.length=fs.length/\∀c∈pcs,c.length=4:=by
 induction h with
 | nil=>exact⟨rfl,by simp⟩
 | snoc h o K m V d f e b=>
  refine⟨by simp[b.1],λc a=>?_⟩;rcases List.mem_append.1 a with a|a
  .exact b.2 c a
  .simp at a;subst a;rfl
def eR.P6{f:RFr}{b:List RFr}(h:eR w lo pcs fs hi)(g:fs=b++ [f]):∃i c o K m V a,pcs=i++ [frC o K m V]/\eR w lo i b c/\jZ c hi w o K m V a f:=by
 cases h with
 | nil=>simp at g
 | snoc h o K m V a j d=>
  obtain⟨rfl,e⟩:=List.append_inj' g rfl;cases e;exact⟨_,_,o,K,m,V,a,rfl,h,d⟩
end
def rdC(s:ByteArray)(d i j:Nat)(P:O)(a bytes:Nat)(f:Int)(g:Bool)(c:Nat)(h:ByteArray)(V K:O)(no b e:Int):Array O:=
 #[s,d,i,j,P,a,bytes,f,g,I bz c,h,V,K,no,b,e]
structure oF(w:X)(rb:Nat)(P:O)(pcs:List (List O))(dc:List O)(r:Rr)(c:Nat):Prop where
 le:c<=w.heap.size
 a:aQ 4 265 w P r.e.length pcs.flatten
 b:∀k,P.ownBlock=N k->rb<=k
 e:eR w rb pcs r.e c
 done:r.a=6->ValAt (λk=>rb<=k) w dc r.done
def oF.A2{w w':X}{P:O}{b:List (List O)}{f:List O}{r:Rr}{G:Nat->Prop}(h:oF w d P b f r a)(c:Keeps G w w')(g:∀k,k<w.heap.size->G k->fC w k)(i:∀k,P.ownBlock=N k->¬G k):oF w' d P b f r a:=
 ⟨bh h.le c.size,h.a.A2 c i,h.b,h.e.A2 c λk _ e=>g k (ez e h.le),λe=>(h.done e).A2 c λk _ e=>g k e⟩
def aU(w:X)(g:Nat)(s:ByteArray)(d i:Nat)(r:Rr)(b:Nat):Prop:=
 ∃P a e h f l a1 k j a2 m c,w.heap[g]?=N (D (rdC s d i r.a P r.g r.bytes e h f l (Y a1 k j) (Y a2 m c) 0 0 0) 172 (0,0))/\oF w g P a (eQ e h f l (Y a1 k j) (Y a2 m c)) r b
def aU.A2{w w':X}{m:Nat}{s:ByteArray}{r:Rr}{G:Nat->Prop}(h:aU w m s d i r a)(j:Keeps G w w')(c:∀k,k<w.heap.size->¬G k):aU w' m s d i r a:=by
 obtain⟨P,b,o,t,q,x,a1,v,u,a2,p,n,l,f⟩:=h;exact⟨P,b,o,t,q,x,a1,v,u,a2,p,n,j.B7 l (c _ (fa l)),f.A2 j (λk e g=>absurd g (c k e)) λk e=>c k (f.a.lt e)⟩
def oF.N9{w w':X}{P:O}{b:List (List O)}{f:List O}{r:Rr}{c:Array O}(h:oF w d P b f r a)(i:w.heap[d]?=N (D c 172 (0,0)))(j:Keeps (λk=>k=d) w w'):oF w' d P b f r a:=
 h.A2 j (λk _ e=>by subst e;exact .of i (by decide) (by decide)) λk e g=>by
  subst g;exact h.a.ne i (by decide) e
def qB(w:X)(h:Nat)(no b:Int):Prop:=
 ∃s d i o P a bytes e j g n a1 m k a2 f c l,i<=1073741824/\w.heap[h]?=N (D (rdC s d i o P a bytes e j g n (Y a1 m k) (Y a2 f c) no b l) 172 (0,0))
def dF{w:X}{b:Nat}{r i l a m d c j s e k g p n q f:O}{t:cg}(h:w.heap[b]?=N (D #[r,i,l,a,m,d,c,j,s,e,k,g,p,n,q,f] t (0,0))):
 (w.cell? b=N r/\w.cell? ⟨b,1,S⟩=N i/\w.cell? ⟨b,2,S⟩=N l/\w.cell? ⟨b,3,S⟩=N a/\w.cell? ⟨b,4,S⟩=N m/\w.cell? ⟨b,5,S⟩=N d/\w.cell? ⟨b,6,S⟩=N c/\w.cell? ⟨b,7,S⟩=N j)/\
 (w.cell? ⟨b,8,S⟩=N s/\w.cell? ⟨b,9,S⟩=N e/\w.cell? ⟨b,10,S⟩=N k/\w.cell? ⟨b,11,S⟩=N g/\w.cell? ⟨b,12,S⟩=N p/\w.cell? ⟨b,13,S⟩=N n/\w.cell? ⟨b,14,S⟩=N q/\w.cell? ⟨b,15,S⟩=N f)/\∀o,w.frozen? ⟨b,o,S⟩=U:=
 ⟨⟨aA h,aA h,aA h,aA h,aA h,aA h,aA h,aA h⟩,⟨aA h,aA h,aA h,aA h,aA h,aA h,aA h,aA h⟩,free_at h⟩
end
def sG(w:X)(b:Nat)(no a f:Int)(s:ByteArray)(d i t:Nat)(P:O)(c bytes:Nat)(g:Int)(n:Bool)(m:Nat)(r:ByteArray)(V K:O)
 (h:w.heap[b]?=N (D (rdC s d i t P c bytes g n m r V K 0 0 0) 172 (0,0))):af T 76 #[bj b,no,a,f] w λe w'=>
 e=Q (ag #[])/\Keeps (λk=>k=b) w w'/\w'.heap[b]?=N (D (rdC s d i t P c bytes g n m r V K no a f) 172 (0,0)):=by
 have l:Keeps (λk=>k=b) w (((w.setCell ⟨b,13,S⟩ (I J no)).setCell ⟨b,14,S⟩ (I J a)).setCell ⟨b,15,S⟩ (I J f)):=
  (((ah (λk=>k=b) w).A3 (p:=⟨b,13,S⟩) (ac rfl) _).A3 (p:=⟨b,14,S⟩) (ac rfl) _).A3 (p:=⟨b,15,S⟩) (ac rfl) _
 have q:=aB (o:=15) (aB (o:=14) (aB (o:=13) h (I J no)) (I J a)) (I J f);obtain⟨_,⟨_,_,_,_,_,v,x,u⟩,y⟩:=dF h;have j:=A (And.intro l q);clear l q h;go_enter func76,ntmps76;go_wp2
 go_end0
 exact⟨rfl,j.o.1,j.o.2⟩
def eP(w:X)(b:Nat)(s:ByteArray)(d i c:Nat)(r:Rr)(h:aU w b s d i r c)(hi:i<=1073741824)(no a f:Int):af T 76 #[bj b,no,a,f] w λe w'=>
 e=Q (ag #[])/\Keeps (λk=>k=b) w w'/\qB w' b no a:=by
 obtain⟨P,l,p,u,t,y,a1,x,v,a2,q,o,j,-⟩:=h;exact(sG w b no a f _ _ _ _ _ _ _ _ _ _ _ _ _ j).mono λe w' ⟨m,g,n⟩=>⟨m,g,_,_,_,_,_,_,_,_,_,_,_,_,_,_,_,_,_,f,hi,n⟩
def Keeps.L4{F:Nat->Prop}{w w1 w2:X}(h:Keeps F w w1)(a:w2.heap=w1.heap)(e:w2.os=w1.os)(c:w2.tape=w1.tape)(d:w2.output=w1.output):Keeps F w w2:=
 ⟨e.trans h.os,c.trans h.tape,d.trans h.output,by rw[a];exact h.size,λk b f=>by rw[a];exact h.block k b f⟩
def aU.C3{w w':X}{b:Nat}{s:ByteArray}{r:Rr}(h:aU w b s d i r a)(c:Keeps (λ_=>False) w w'):aU w' b s d i r a:=h.A2 c λ_ _=>id
def aL1(w:X)(a:Nat)(s:ByteArray)(d i b:Nat)(o:Except Nat Rr)(e:ck)(w':X):Prop:=Keeps (λk=>k=a) w w'/\match o with
 | .error no=>e=Q (E U)/\qB w' a no i
 | .ok r=>e=Q (E Z)/\aU w' a s d i r b
def sH(w:X)(g:Nat)(s:ByteArray)(d i j:Nat)(r:Rr)(z:aU w g s d i r j)(hi:i<=1073741824)(hd:d<=512)(hp:r.e.length<=512)(F:r.g<=65536):
 af T 142 #[bj g] w λe w'=>aL1 w g s d i j (r.B9 d) e w':=by
 have l:=A (λ(W:X)(c:Keeps (λ_=>False) w W)(no:Int)=>eP W g s d i j r (z.A2 c λ_ _=>id) hi no i i);obtain⟨P,t,G,K,L,R,a1,V,m1,a2,n2,m2,f,a⟩:=z;obtain⟨pa,pc,rfl⟩:=a.a.A7;have B:=A f;have u:=A a;obtain⟨⟨-,q1,C,q3,q4,q5,-,-⟩,_,qf⟩:=dF f;have b:r.B9 d=if r.a≠0/\r.a≠1 then eh 120 else if d<=r.e.length then eh 121 else if 65536<=r.g then eh 3 else fc {r with g:=r.g+1}:=rfl
 rw[b];clear f a b
 by_cases f:r.a≠0/\r.a≠1
 .rw[if_pos f];have n:(((r.a:Nat):Int)!=0)=Z:=by simp;omega
  have v:(((r.a:Nat):Int)!=1)=Z:=by simp;omega
  clear f;go_enter cw,cz;go_wp2
  go_still_tail 9,(by kernel_rfl)
  go_wp2_with fail;refine(l.o _ (ah _ w).B0 120).mono ?_;rintro e w2 ⟨rfl,c,b⟩;have h:=A (And.intro c b);clear c b;go_wp2;go_ret;exact⟨(ah _ w).B0.same h.o.1,rfl,h.o.2⟩
 .rw[if_neg f];have x:(((r.a:Nat):Int)!=0)=U\/((((r.a:Nat):Int)!=0)=Z/\(((r.a:Nat):Int)!=1)=U):=by simp;omega
  clear f
  by_cases q:d<=r.e.length
  .rw[if_pos q];have e3:(d:Int)<=(r.e.length:Int):=by omega
   clear q;rcases x with n|⟨n,v⟩
   all_goals
    go_enter cw,cz;go_wp2
    go_quiet (fail)
    go_wp2_with fail;generalize m:fe w _=W;have y:W.cell? ⟨g,2,S⟩=N (I J i):=by rw[<-m];exact C
    have f:=A (show Keeps (λ_=>False) w W by rw[<-m];exact(ah _ w).L4 rfl rfl rfl rfl);clear m
    go_still_tail 9,(by kernel_rfl)
    go_wp2_with fail;refine(l.o _ f.o.B0 121).mono ?_;rintro e w2 ⟨rfl,c,b⟩;have h:=A (And.intro c b);clear c b;go_wp2;go_ret;exact⟨(f.o.B0.mono λ_ z=>z.elim).same h.o.1,rfl,h.o.2⟩
  .rw[if_neg q];have e3:¬(d:Int)<=(r.e.length:Int):=by omega
   clear q
   by_cases q:65536<=r.g
   .rw[if_pos q];have e4:(65536:Int)<=(r.g:Int):=by omega
    clear q;rcases x with n|⟨n,v⟩
    all_goals
     go_enter cw,cz;go_wp2
     go_quiet (fail)
     go_wp2_with fail;generalize m:fe w _=W;have y:W.cell? ⟨g,2,S⟩=N (I J i):=by rw[<-m];exact C
     have f:=A (show Keeps (λ_=>False) w W by rw[<-m];exact(ah _ w).L4 rfl rfl rfl rfl);clear m
     go_still_tail 9,(by kernel_rfl)
     go_wp2_with fail;refine(l.o _ f.o.B0 3).mono ?_;rintro e w2 ⟨rfl,c,b⟩;have h:=A (And.intro c b);clear c b;go_wp2;go_ret;exact⟨(f.o.B0.mono λ_ z=>z.elim).same h.o.1,rfl,h.o.2⟩
   .rw[if_neg q];obtain⟨m,b⟩:∃m,(fc {r with g:=r.g+1}:Except Nat Rr)=m:=⟨_,rfl⟩;rw[b];have h:=A b;clear b;have e4:decide ((65536:Int)<=(r.g:Int))=U:=decide_eq_false (by omega);have y:J.wrap ((r.g:Int)+1)=((r.g+1:Nat):Int):=by rw[av];omega
    have f:=aB (o:=5) B.o (I J ((r.g+1:Nat):Int));have c:=(ah (λk=>k=g) w).A3 (p:=⟨g,5,S⟩) (ac rfl) (I J ((r.g+1:Nat):Int));have a:=u.o.N9 B.o c;have b:=A (And.intro f (And.intro c a));clear q f c a F;rcases x with n|⟨n,v⟩
    all_goals
     go_enter cw,cz;go_wp2
     go_quiet (fail)
     go_wp2;go_ret;have c:=b.o.2.1;have a:=b.o.2.2;rw[<-h.o];refine⟨c.L4 rfl rfl rfl rfl,rfl,aU.C3 (w:=w.setCell ⟨g,5,S⟩ (I J ((r.g+1:Nat):Int))) ?_ ((ah _ _).L4 rfl rfl rfl rfl)⟩;exact⟨_,t,G,K,L,R,a1,V,m1,a2,n2,m2,b.o.1,a.le,a.a,a.b,a.e,a.done⟩
def Keeps.own{b:Nat}{w w1:X}(h:Keeps (λk=>k=b) w w1)(o:Nat)(u:O):Keeps (λk=>k=b) w (w1.setCell ⟨b,o,S⟩ u):=h.A3 (p:=⟨b,o,S⟩) (ac rfl) u
abbrev aJt(b:Int)(c:Bool)(a:Nat)(s:ByteArray)(V K:O):O:=ai #[b,c,I bz a,s,V,K]
def xM(w:X)(b:Nat)(s:ByteArray)(d i:Nat)(r:Rr)(e:ck)(w':X):Prop:=e=Q (ag #[])/\bk b w w'/\∃a,aU w' b s d i r a
def aJu(w:X)(f:Nat)(s:ByteArray)(d i l:Nat)(r:Rr)(a0:aU w f s d i r l)(u:Int)(v:Bool)(x:Nat)(y:ByteArray)(a:Option bu)(n m:Nat)(b:Option bu)(p q:Nat)(t:Tr)(hv:ValAt (λk=>l<=k) w (eQ u v x y (Y a n m) (Y b p q)) t)(K:r.e= []):
 af T 144 #[bj f,aJt u v x y (Y a n m) (Y b p q)] w λe w'=>xM w f s d i (r.C9 t) e w':=by
 obtain⟨P,L,g2,g3,g4,g5,a1,n1,m1,a2,n2,m2,z,h⟩:=a0;obtain⟨pa,pc,rfl⟩:=h.a.A7;have R:r.e.length=0:=by rw[K];rfl
 rw[R]at z;have j:r.C9 t={r with done:=t,a:=6}:=by unfold Rr.C9;rw[K];rfl
 rw[j];have V:=fa z;obtain⟨W,F⟩:∃W,((((((w.setCell ⟨f,7,S⟩ (I J u)).setCell ⟨f,8,S⟩ (E v)).setCell ⟨f,9,S⟩ (I bz x)).setCell ⟨f,10,S⟩ (au y)).setCell ⟨f,11,S⟩ (Y a n m)).setCell ⟨f,12,S⟩ (Y b p q)).setCell ⟨f,3,S⟩ (I J 6)=W:=⟨_,rfl⟩
 have hs:W.heap[f]?=N (D (rdC s d i 6 (Y pa r.e.length pc) r.g r.bytes u v x y (Y a n m) (Y b p q) 0 0 0) 172 (0,0)):=by
  rw[<-F,R];exact aB (o:=3) (aB (o:=12) (aB (o:=11) (aB (o:=10) (aB (o:=9) (aB (o:=8) (aB (o:=7) z _) _) _) _) _) _) _
 have G:Keeps (λk=>k=f) w W:=by
  rw[<-F];exact(((((((ah (λk=>k=f) w).own _ _).own _ _).own _ _).own _ _).own _ _).own _ _).own _ _
 have c:=h.N9 z G;have B:=h.e.le;have C:ValAt (λk=>f<=k) W (eQ u v x y (Y a n m) (Y b p q)) t:=(hv.A2 G λk _ _ e=>by subst e;exact .of z (by decide) (by decide)).mono λk e _=>bh B e
 have g:∀W2,Keeps (λ_=>False) W W2->xM w f s d i {r with done:=t,a:=6} (Q (ag #[])) W2:=λW2 h2=>
  ⟨rfl,(G.trans h2 λ_ a0=>a0.elim).C6 (Nat.le_of_lt V) λk e=>by omega,l,aU.C3 ⟨_,L,u,v,x,y,a,n,m,b,p,q,hs,c.le,c.a,c.b,c.e,λ_=>C⟩ h2⟩
 rw[<-F]at g;obtain⟨⟨-,-,-,q3,q4,-,-,q7⟩,⟨q8,q9,qa,qb,qc,-,-,-⟩,qz⟩:=dF z;obtain⟨x0,x1,x2,x3,x4,x5,-⟩:=bJ (ei w (D #[u,v,I bz x,y,Y a n m,Y b p q] 34));have HF:=A g;clear j R z h hv K F hs G c C g B;unfold aJt;go_enter func144,ntmps144;go_wp2
 go_end0
 exact HF.o _ ((ah _ _).A6 _)
def kE(b:Nat):Pc Nat->O
 | .cut=>ag #[I J 0,ai #["",I J 0,I J 0,I J 0,E Z]]
 | .bad no a=>ag #[I J 0,ai #["",I J 0,no,I J ((b+a:Nat):Int),E U]]
 | .ok n=>ag #[n,ai #["",I J 0,I J 0,I J 0,E U]]
def aAQ{c:UInt8}{v:Nat}(h:hexOf c=N v):v<16:=by
 unfold hexOf at h;split at h
 .injection h;omega
 .split at h
  .injection h;omega
  .split at h
   .injection h;omega
   .cases h
def pJ(w:X)(s:ByteArray)(f:Nat)(i:Bool)(ha:f<=s.size+16)(hs:s.size<=2147483648):af T 177 #[s,f,i] w λe w'=>
 e=Q (kE f (cX i 4 0 (s.data.toList.drop f)))/\bk w w w':=by
 obtain⟨R,b⟩:∃R,cX i 4 0 (s.data.toList.drop f)=R:=⟨_,rfl⟩;rw[b];have HR:=A b;have HH:=A (λ(W:X)(c:UInt8)=>aJz W c);have h3:=A (λ(W:X)(no a:Nat)=>mA W no a);clear b;have r:(w.alloc (D #["",I J 0,I J 0,I J 0,E U] 200)).heap[w.heap.size]?=N (D #["",I J 0,I J 0,I J 0,E U] 200 (0,0)):=ei w _;have hb:=(fg w w).alloc (aw _) (D #["",I J 0,I J 0,I J 0,E U] 200);have h7:f<=2147483664:=by omega
 go_enter func177,ntmps177;go_wp2_with fail;generalize w.alloc (D #["",I J 0,I J 0,I J 0,E U] 200)=w1 at*
 go_loopw [9,8] (λv x wr=>∃k n:Nat,v=I J k/\x=I J n/\k<=4/\n<16^k/\M (cX i (4-k) n (s.data.toList.drop (f+k))=R)/\w1=wr) (λv _ _=>4-(co v).toNat)
 case atStart=>exact⟨0,0,rfl,rfl,by decide,by decide,HR,rfl⟩
 case round=>
  obtain⟨k,n,rfl,rfl,h8,b,HK,rfl⟩:=hrel;obtain⟨p,hp⟩:∃p,f+k=p:=⟨_,rfl⟩;have HN:=A b;clear b
  by_cases hk:k<4
  .have q1:(k:Int)<4:=by omega
   have q2:J.wrap ((f:Int)+(k:Int))=(p:Int):=by rw[av];omega
   have b:=HK.o;obtain⟨m,hm⟩:∃m,4-k=m+1:=⟨3-k,by omega⟩;have g8:3-m=k:=by omega
   rw[hm,hp]at b
   by_cases g9:p<s.size
   .have e1:¬(s.size:Int)<=(p:Int):=by omega
    have e2:(p:Int)<(s.size:Int):=by omega
    rw[bA g9,cX,g8]at b;have o:=A (λW=>HH.o W s[p]);cases l:hexOf s[p]with
    | none=>
     rw[l]at b o;have b:Pc.bad (if i then 93 else 92) k=R:=b
     subst b;have t:=A hp;clear HK HR hm g8 hp l HN;have V:(((k:Int)==0)=Z/\((k:Int)==1)=U)\/(((k:Int)==0)=U/\((k:Int)==1)=Z)\/(((k:Int)==0)=U/\((k:Int)==1)=U):=by simp;omega
     have h2:n=13\/((n:Int)==13)=U:=by simp;omega
     cases i with
     | true=>
      have q:M (∀W:X,af T 156 #[I J 93,I J p] W λe w'=>e=Q (ai #["",I J 0,I J 93,I J (p:Int),E U])/\bk W W w'):=λW=>h3.o W 93 p
      rcases V with⟨u,g⟩|⟨u,g⟩|⟨u,g⟩
      all_goals
       clear h2;go_wp2_with fail;refine(o.o _).mono ?_;rintro e w2 ⟨rfl,rfl⟩;go_wp2_with fail;refine(q.o _).mono ?_;rintro e w3 ⟨rfl,d⟩;have y:=A (keep r d);have z:=A (chain hb d);obtain⟨c0,c1,c2,c3,c4,cf⟩:=cells5 (keep r d);clear d u g
       try clear h2
       go_wp2;obtain⟨P,B⟩:=aS (au ⟨#[]⟩) (I J 0) (I J 93) (I J (p:Int)) (E U) y.o z.o (aw _);have h:=A B;obtain⟨C,F,G,K,L,_⟩:=cells5 P;exact aj (v:=ag #[I J 0,ai #["",I J 0,I J 93,I J (p:Int),E U]]) (by simp[ak,bw,go_sem,C,F,G,K,L]) rfl ⟨by rw[<-t.o];simp[kE],h.o⟩
     | false=>
      have q:M (∀W:X,af T 156 #[I J 92,I J p] W λe w'=>e=Q (ai #["",I J 0,I J 92,I J (p:Int),E U])/\bk W W w'):=λW=>h3.o W 92 p
      rcases V with⟨-,g⟩|⟨-,g⟩|⟨-,g⟩<;>rcases h2 with rfl|h2
      all_goals
       go_wp2_with fail;refine(o.o _).mono ?_;rintro e w2 ⟨rfl,rfl⟩;go_wp2_with fail;refine(q.o _).mono ?_;rintro e w3 ⟨rfl,d⟩;have y:=A (keep r d);have z:=A (chain hb d);obtain⟨c0,c1,c2,c3,c4,cf⟩:=cells5 (keep r d);clear d g
       try clear h2
       go_wp2;obtain⟨P,B⟩:=aS (au ⟨#[]⟩) (I J 0) (I J 92) (I J (p:Int)) (E U) y.o z.o (aw _);have h:=A B;obtain⟨C,F,G,K,L,_⟩:=cells5 P;exact aj (v:=ag #[I J 0,ai #["",I J 0,I J 92,I J (p:Int),E U]]) (by simp[ak,bw,go_sem,C,F,G,K,L]) rfl ⟨by rw[<-t.o];simp[kE],h.o⟩
    | some v=>
     rw[l]at b o;have hv:=aAQ l;have b:(if gV i k n v then Pc.bad 93 k else cX i m (16*n+v) (s.data.toList.drop (p+1)))=R:=b;have h9:n<4096:=ez HN.o (bh (Nat.pow_le_pow_right (by decide) (show k<=3 by omega)) (by decide));have h5:=A (show 16*n+v<16^(k+1) by have:=HN.o;rw[Nat.pow_succ];omega);have HM:=A (show 4-(k+1)=m/\f+(k+1)=p+1 from⟨by omega,by omega⟩);have t:=A hp;have q:M (∀W:X,af T 156 #[I J 93,I J p] W λe w'=>e=Q (ai #["",I J 0,I J 93,I J (p:Int),E U])/\bk W W w'):=λW=>h3.o W 93 p
     have h6:decide ((v:Int)<0)=U:=decide_eq_false (by omega);clear HK HR hp l hm g8 HN;cases i with
     | true=>
      have hw:((((k:Int)==0)=Z/\((v:Int)!=13)=Z\/((k:Int)==0)=U/\((k:Int)==1)=Z/\decide ((v:Int)<12)=Z)/\gV Z k n v=Z)\/
       ((((k:Int)==0)=Z/\((k:Int)==1)=U/\((v:Int)!=13)=U\/((k:Int)==0)=U/\((k:Int)==1)=Z/\decide ((v:Int)<12)=U\/((k:Int)==0)=U/\((k:Int)==1)=U)/\gV Z k n v=U):=by
       by_cases u:k=0
       .by_cases l:v=13
        .exact ae ⟨ac ⟨by simp[u],by simp[u],by simp[l]⟩,by simp[gV,u,l]⟩
        .exact ac ⟨ac ⟨by simp[u],by simp;omega⟩,by simp[gV,u,l]⟩
       .by_cases g:k=1
        .by_cases V:v<12
         .exact ac ⟨ae ⟨by simp[g],by simp[g],by simp;omega⟩,by simp[gV,g,V]⟩
         .exact ae ⟨ae (ac ⟨by simp[g],by simp[g],by simp;omega⟩),by simp[gV,g,V]⟩
        .exact ae ⟨ae (ae ⟨by simp[u],by simp;omega⟩),by simp[gV,u,g]⟩
      rcases hw with⟨j,u⟩|⟨j,u⟩
      .rcases j with⟨x1,x2⟩|⟨x1,x2,x3⟩
       all_goals
        rw[u,if_pos rfl]at b;subst b;clear u
        try clear j
        go_wp2_with fail;refine(o.o _).mono ?_;rintro e w2 ⟨rfl,rfl⟩;go_wp2_with fail;refine(q.o _).mono ?_;rintro e w3 ⟨rfl,d⟩;have y:=A (keep r d);have z:=A (chain hb d);obtain⟨c0,c1,c2,c3,c4,cf⟩:=cells5 (keep r d);clear d h6
        try clear x1
        try clear x2
        try clear x3
        go_wp2;obtain⟨P,B⟩:=aS (au ⟨#[]⟩) (I J 0) (I J 93) (I J (p:Int)) (E U) y.o z.o (aw _);have h:=A B;obtain⟨C,F,G,K,L,_⟩:=cells5 P;exact aj (v:=ag #[I J 0,ai #["",I J 0,I J 93,I J (p:Int),E U]]) (by simp[ak,bw,go_sem,C,F,G,K,L]) rfl ⟨by rw[<-t.o];simp[kE],h.o⟩
      .rcases j with⟨x1,x2,x3⟩|⟨x1,x2,x3⟩|⟨x1,x2⟩
       all_goals
        rw[u,if_neg (by decide)]at b;have h4:=A b;clear u b;go_wp2_with fail;refine(o.o _).mono ?_;rintro e w2 ⟨rfl,rfl⟩;go_wp2_with fail;exact⟨⟨k+1,16*n+v,by go_num,by go_num,by omega,h5.o,by rw[HM.o.1,HM.o.2];exact h4,trivial⟩,by simp[co];omega⟩
     | false=>
      have hw:((((k:Int)==1)=Z/\((n:Int)==13)=Z/\decide ((12:Int)<=(v:Int))=Z)/\gV U k n v=Z)\/
       ((((k:Int)==1)=Z/\((n:Int)==13)=Z/\decide ((12:Int)<=(v:Int))=U\/((k:Int)==1)=Z/\((n:Int)==13)=U\/((k:Int)==1)=U)/\gV U k n v=U):=by
       by_cases g:k=1
       .by_cases l:n=13
        .by_cases V:12<=v
         .exact ac ⟨⟨by simp[g],by simp[l],by simp;omega⟩,by simp[gV,g,l,V]⟩
         .exact ae ⟨ac ⟨by simp[g],by simp[l],by simp;omega⟩,by simp[gV,g,l,V]⟩
        .exact ae ⟨ae (ac ⟨by simp[g],by simp;omega⟩),by simp[gV,g,l]⟩
       .exact ae ⟨ae (ae (by simp;omega)),by simp[gV,g]⟩
      rcases hw with⟨⟨x1,x2,x3⟩,u⟩|⟨j,u⟩
      .skip
       all_goals
        rw[u,if_pos rfl]at b;subst b;clear u
        try clear j
        go_wp2_with fail;refine(o.o _).mono ?_;rintro e w2 ⟨rfl,rfl⟩;go_wp2_with fail;refine(q.o _).mono ?_;rintro e w3 ⟨rfl,d⟩;have y:=A (keep r d);have z:=A (chain hb d);obtain⟨c0,c1,c2,c3,c4,cf⟩:=cells5 (keep r d);clear d h6
        try clear x1
        try clear x2
        try clear x3
        go_wp2;obtain⟨P,B⟩:=aS (au ⟨#[]⟩) (I J 0) (I J 93) (I J (p:Int)) (E U) y.o z.o (aw _);have h:=A B;obtain⟨C,F,G,K,L,_⟩:=cells5 P;exact aj (v:=ag #[I J 0,ai #["",I J 0,I J 93,I J (p:Int),E U]]) (by simp[ak,bw,go_sem,C,F,G,K,L]) rfl ⟨by rw[<-t.o];simp[kE],h.o⟩
      .rcases j with⟨x1,x2,x3⟩|⟨x1,x2⟩|x1
       all_goals
        rw[u,if_neg (by decide)]at b;have h4:=A b;clear u b;go_wp2_with fail;refine(o.o _).mono ?_;rintro e w2 ⟨rfl,rfl⟩;go_wp2_with fail;exact⟨⟨k+1,16*n+v,by go_num,by go_num,by omega,h5.o,by rw[HM.o.1,HM.o.2];exact h4,trivial⟩,by simp[co];omega⟩
   .have e1:(s.size:Int)<=(p:Int):=by omega
    rw[cY g9]at b;have b:Pc.cut=R:=b;subst b;clear hm g8 HK HR;obtain⟨c0,c1,c2,c3,c4,cf⟩:=cells5 r;have y:=A r;have z:=A hb;go_wp2;obtain⟨P,B⟩:=aS (au ⟨#[]⟩) (I J 0) (I J 0) (I J 0) (E Z) y.o z.o (aw _);have h:=A B;obtain⟨C,F,G,K,L,_⟩:=cells5 P;exact aj (v:=kE f .cut) (by simp[ak,bw,go_sem,kE,C,F,G,K,L]) rfl ⟨rfl,h.o⟩
  .obtain rfl:k=4:=by omega
   have b:=HK.o;rw[Nat.sub_self,cX]at b;have q1:¬((4:Nat):Int)<4:=by omega
   subst b;clear HK HR hp;obtain⟨c0,c1,c2,c3,c4,cf⟩:=cells5 r;have y:=A r;have z:=A hb;go_wp2;obtain⟨P,B⟩:=aS (au ⟨#[]⟩) (I J 0) (I J 0) (I J 0) (E U) y.o z.o (aw _);have h:=A B;obtain⟨C,F,G,K,L,_⟩:=cells5 P;exact aj (v:=kE f (.ok n)) (by simp[ak,bw,go_sem,kE,C,F,G,K,L]) rfl ⟨rfl,h.o⟩
def fV(d:Dml):O:=ai #[d.a,au ⟨d.b.toArray⟩,d.c]
def kM(neg:Bool)(b:ByteArray)(e:Int)(w:X)(L:b.size<=1073741824)(P: -4611686018427387904<=e)(F:e<=4611686018427387904):
 af T 229 #[ai #[neg,b,e]] w λr w'=>r=Q (fV (cB neg b.data.toList e))/\bk w w w':=by
 have k:=λw=>Tryz.D5 b 48 (by decide) w
 have m:(fh b.data.toList 48).length<=b.size:=by
  have:=(fi (λx:UInt8=>x==48) (l:=b.data.toList)).length_le;rw[ao]at this;exact this
 unfold cB;generalize fh b.data.toList 48=V at*;obtain⟨t,h⟩:∃t:ByteArray,(⟨V.toArray⟩:ByteArray)=t:=⟨_,rfl⟩;have o:V=t.data.toList:=by rw[<-h]
 simp only[h]at k;clear h;subst o;have d:t.data.toList.length=t.size:=ao;have y:t.size<=b.size:=by omega
 have g:=λw=>Tryz.E6 t 48 (by decide) w (by omega)
 have i:(ej t.data.toList 48).length<=t.size:=by
  unfold ej;rw[fj];have:=(fi (λx:UInt8=>x==48) (l:=t.data.toList.reverse)).length_le;rw[fj,ao]at this;exact this
 generalize ej t.data.toList 48=R at*;obtain⟨u,j⟩:∃u:ByteArray,(⟨R.toArray⟩:ByteArray)=u:=⟨_,rfl⟩;have f:R=u.data.toList:=by rw[<-j]
 simp only[j]at g;clear j;subst f;have c:u.data.toList.length=u.size:=ao;have B:u.size<=t.size:=by omega
 rw[d,c];have p:=A k;have s:=A g;clear c d m i k g;obtain⟨-,-,q⟩:=fU w (D #[neg,b,e] 339) (D #[E U,"",I J 0] 339);have C:=A q;clear q
 by_cases a:u.data.toList= []
 .have n:u.toList.isEmpty=Z:=by rw[fk,a];rfl
  rw[if_pos a];clear a;go_enter func229,ntmps229;go_wp2_with fail;refine(p.o _).mono ?_;rintro r w1 ⟨rfl,rfl⟩;go_wp2_with fail;refine(s.o _).mono ?_;rintro r w1 ⟨rfl,rfl⟩;go_wp2_with fail;exact aj (v:=fV ⟨U,[],0⟩) (by simp[ak,fm,go_sem,fV]) rfl ⟨rfl,(C.o)⟩
 .have n:u.toList.isEmpty=U:=by
   rw[fk];cases K:u.data.toList with
   | nil=>exact absurd K a
   | cons x r=>rfl
  rw[if_neg a];clear a;have G:J.wrap (e+(t.size:Int))=e+(t.size:Int):=by rw[av];omega
  have z:J.wrap (e+(t.size:Int)-(u.size:Int))=e+(t.size:Int)-(u.size:Int):=by rw[av];omega
  go_enter func229,ntmps229;go_wp2_with fail;refine(p.o _).mono ?_;rintro r w1 ⟨rfl,rfl⟩;go_wp2_with fail;refine(s.o _).mono ?_;rintro r w1 ⟨rfl,rfl⟩;go_wp2_with fail;exact aj (v:=fV ⟨neg,u.data.toList,e+t.size-u.size⟩) (by simp[ak,fm,go_sem,fV]) rfl ⟨rfl,(fU _ _ _).2.2⟩
def aLw(h:35184372088832<=a)(l:Oo):l.foldl dD a=a:=by
 induction l with
 | nil=>rfl
 | cons c l b=>rw[fq,show dD a c=a from if_neg (by omega)];exact b
def aA3{l:Oo}(e:a<=351843720888329)(b:∀c∈l,c.toNat<=57):l.foldl dD a<=351843720888329:=by
 induction l generalizing a with
 | nil=>exact e
 | cons c l d=>
  rw[fq];refine d ?_ (λx f=>b x (by simp[f]));have:=b c (by simp);unfold dD;split<;>omega
def aKd{l:Oo}(h:i<l.length):(l.take (i+1)).foldl dD 0=dD ((l.take i).foldl dD 0) l[i]:=by
 rw[List.take_add_one,dx h,ft];rfl
def aKe(neg h:Bool)(g be f:ByteArray)(w:X)(hs:g.size+be.size<=1073741824)(b:∀c∈f.data.toList,48<=c.toNat/\c.toNat<=57)(V:f.size<=1073741824):
 af T 209 #[ai #[neg,g,be,h,f]] w λr w'=>r=Q (fV (dA ⟨neg,g.data.toList,be.data.toList,h,f.data.toList⟩))/\bk w w w':=by
 have R:=A b;clear b;go_enter func209,ntmps209;go_wp2_with fail
 go_loop [3,4] (λa i=>∃k:Nat,k<=f.size/\i=I J k/\a=I J ((f.data.toList.take k).foldl dD 0:Nat)) (λ_ i=>f.size-(co i).toNat)
 case atStart=>exact⟨0,by omega,rfl,rfl⟩
 case round=>
  obtain⟨k,-,rfl,rfl⟩:=hrel;have o:=aA3 (a:=0) (l:=f.data.toList.take k) (by omega) (λc W=>(R.o c (List.mem_of_mem_take W)).2)
  by_cases q:k<f.size
  .by_cases F:(f.data.toList.take k).foldl dD 0<35184372088832
   .have j:=R.o f[k] (Array.getElem_mem_toList q)
    have b:(((f.data.toList.take (k+1)).foldl dD 0:Nat):Int)=10*(((f.data.toList.take k).foldl dD 0:Nat):Int)+(((f[k].toNat:Nat):Int)-48):=by
     rw[aKd (by rw[ao];exact q),dD,if_pos F];have:(f.data.toList[k]'(by rw[ao];exact q))=f[k]:=rfl;rw[this];omega
    have e:=A b;clear b;obtain⟨a,s⟩:∃a,(f.data.toList.take k).foldl dD 0=a:=⟨_,rfl⟩;simp only[s]at*;clear s;have t:(a:Int)<35184372088832:=by omega
    obtain⟨dg,b⟩:∃d,f[k].toNat=d:=⟨_,rfl⟩;simp only[b]at j e;go_wp2_with fail;refine⟨⟨k+1,by omega,by go_num,congrArg (I J) e.o.symm⟩,by simp[co];omega⟩
   .have G:fH f.data.toList=(f.data.toList.take k).foldl dD 0:=by
     unfold fH
     conv=>lhs;rw[<-List.take_append_drop k f.data.toList,ft]
     exact aLw (by omega) _
    have K:=A G;clear G;obtain⟨a,s⟩:∃a,(f.data.toList.take k).foldl dD 0=a:=⟨_,rfl⟩;simp only[s]at*;clear s;have t:¬(a:Int)<35184372088832:=by omega
    cases h with
    | false=>
     have u:J.wrap ((a:Int)-(be.size:Int))=(a:Int)-(be.size:Int):=by rw[av];omega
     go_wp2_with fail;have b:(g++be).data.toList=g.data.toList++be.data.toList:=by simp
     have e:cB neg (g++be).data.toList ((a:Int)-(be.size:Int))=dA ⟨neg,g.data.toList,be.data.toList,U,f.data.toList⟩:=by
      rw[b];unfold dA;simp only[K.o,ao];rfl
     have j:=λw=>(kM neg (g++be) ((a:Int)-(be.size:Int)) w (by rw[dh];omega) (by omega) (by omega))
     simp only[e]at j;clear b e;obtain⟨⟨x,y,z⟩,m⟩:∃d,dA ⟨neg,g.data.toList,be.data.toList,U,f.data.toList⟩=d:=⟨_,rfl⟩;simp only[m]at j;have B:=A m;clear m;refine(j _).mono ?_;rintro r w2 ⟨rfl,o⟩;obtain⟨-,p,n,-⟩:=after2 o;obtain⟨C,c1,c2,L⟩:=cells3 p;clear p o;unfold fV;go_wp2_with fail;exact aj (v:=fV ⟨x,y,z⟩) (by simp[ak,di,go_sem,fV,C,c1,c2]) rfl ⟨by rw[B.o],((n.setCell (ar _) _).setCell (ar _) _).setCell (ar _) _⟩
    | true=>
     have P:J.wrap (-(a:Int))= -(a:Int):=by rw[av];omega
     have u:J.wrap (-(a:Int)-(be.size:Int))= -(a:Int)-(be.size:Int):=by rw[av];omega
     go_wp2_with fail;have b:(g++be).data.toList=g.data.toList++be.data.toList:=by simp
     have e:cB neg (g++be).data.toList (-(a:Int)-(be.size:Int))=dA ⟨neg,g.data.toList,be.data.toList,Z,f.data.toList⟩:=by
      rw[b];unfold dA;simp only[K.o,ao];rfl
     have j:=λw=>(kM neg (g++be) (-(a:Int)-(be.size:Int)) w (by rw[dh];omega) (by omega) (by omega))
     simp only[e]at j;clear b e;obtain⟨⟨x,y,z⟩,m⟩:∃d,dA ⟨neg,g.data.toList,be.data.toList,Z,f.data.toList⟩=d:=⟨_,rfl⟩;simp only[m]at j;have B:=A m;clear m;refine(j _).mono ?_;rintro r w2 ⟨rfl,o⟩;obtain⟨-,p,n,-⟩:=after2 o;obtain⟨C,c1,c2,L⟩:=cells3 p;clear p o;unfold fV;go_wp2_with fail;exact aj (v:=fV ⟨x,y,z⟩) (by simp[ak,di,go_sem,fV,C,c1,c2]) rfl ⟨by rw[B.o],((n.setCell (ar _) _).setCell (ar _) _).setCell (ar _) _⟩
  .have G:fH f.data.toList=(f.data.toList.take k).foldl dD 0:=by
    rw[List.take_of_length_le (by rw[ao];exact Nat.not_lt.1 q)];rfl
   have K:=A G;clear G;obtain⟨a,s⟩:∃a,(f.data.toList.take k).foldl dD 0=a:=⟨_,rfl⟩;simp only[s]at*;clear s;cases h with
   | false=>
    have u:J.wrap ((a:Int)-(be.size:Int))=(a:Int)-(be.size:Int):=by rw[av];omega
    go_wp2_with fail;have b:(g++be).data.toList=g.data.toList++be.data.toList:=by simp
    have e:cB neg (g++be).data.toList ((a:Int)-(be.size:Int))=dA ⟨neg,g.data.toList,be.data.toList,U,f.data.toList⟩:=by
     rw[b];unfold dA;simp only[K.o,ao];rfl
    have j:=λw=>(kM neg (g++be) ((a:Int)-(be.size:Int)) w (by rw[dh];omega) (by omega) (by omega))
    simp only[e]at j;clear b e;obtain⟨⟨x,y,z⟩,m⟩:∃d,dA ⟨neg,g.data.toList,be.data.toList,U,f.data.toList⟩=d:=⟨_,rfl⟩;simp only[m]at j;have B:=A m;clear m;refine(j _).mono ?_;rintro r w2 ⟨rfl,o⟩;obtain⟨-,p,n,-⟩:=after2 o;obtain⟨C,c1,c2,L⟩:=cells3 p;clear p o;unfold fV;go_wp2_with fail;exact aj (v:=fV ⟨x,y,z⟩) (by simp[ak,di,go_sem,fV,C,c1,c2]) rfl ⟨by rw[B.o],((n.setCell (ar _) _).setCell (ar _) _).setCell (ar _) _⟩
   | true=>
    have P:J.wrap (-(a:Int))= -(a:Int):=by rw[av];omega
    have u:J.wrap (-(a:Int)-(be.size:Int))= -(a:Int)-(be.size:Int):=by rw[av];omega
    go_wp2_with fail;have b:(g++be).data.toList=g.data.toList++be.data.toList:=by simp
    have e:cB neg (g++be).data.toList (-(a:Int)-(be.size:Int))=dA ⟨neg,g.data.toList,be.data.toList,Z,f.data.toList⟩:=by
     rw[b];unfold dA;simp only[K.o,ao];rfl
    have j:=λw=>(kM neg (g++be) (-(a:Int)-(be.size:Int)) w (by rw[dh];omega) (by omega) (by omega))
    simp only[e]at j;clear b e;obtain⟨⟨x,y,z⟩,m⟩:∃d,dA ⟨neg,g.data.toList,be.data.toList,Z,f.data.toList⟩=d:=⟨_,rfl⟩;simp only[m]at j;have B:=A m;clear m;refine(j _).mono ?_;rintro r w2 ⟨rfl,o⟩;obtain⟨-,p,n,-⟩:=after2 o;obtain⟨C,c1,c2,L⟩:=cells3 p;clear p o;unfold fV;go_wp2_with fail;exact aj (v:=fV ⟨x,y,z⟩) (by simp[ak,di,go_sem,fV,C,c1,c2]) rfl ⟨by rw[B.o],((n.setCell (ar _) _).setCell (ar _) _).setCell (ar _) _⟩
def uR(o:Option Nat)(e:ck):Prop:=match o with
 | some v=>e=Q (I H v)
 | none=>e=Q (I H (-1))
def pV(c:UInt8)(w:X):af T 202 #[I dj c.toNat] w λe w'=>uR (hexOf c) e/\w'=w:=by
 obtain⟨n,k⟩:∃n,c.toNat=n:=⟨_,rfl⟩;have p:hexOf c=if 48<=n/\n<=57 then N (n-48)else if 97<=n/\n<=102 then N (n-87)else if 65<=n/\n<=70 then N (n-55)else S:=by unfold hexOf;rw[k]
 have q:n<256:=by rw[<-k];exact c.toNat_lt
 rw[k,p];clear k p;have r:(n<48)\/(48<=n/\n<=57)\/(57<n/\n<65)\/(65<=n/\n<=70)\/(70<n/\n<97)\/(97<=n/\n<=102)\/(102<n):=by omega
 rcases r with h|h|h|h|h|h|h
 .rw[if_neg (by omega),if_neg (by omega),if_neg (by omega)];have b:¬(48:Int)<=(n:Int):=by omega
  have a:¬(97:Int)<=(n:Int):=by omega
  have f:¬(65:Int)<=(n:Int):=by omega
  clear h;go_enter bm,bp;go_wp2;go_ret;exact⟨rfl,rfl⟩
 .rw[if_pos (by omega)];have b:(48:Int)<=(n:Int):=by omega
  have d:(n:Int)<=57:=by omega
  have a:¬(97:Int)<=(n:Int):=by omega
  have f:¬(65:Int)<=(n:Int):=by omega
  have o:dj.wrap ((n:Int)-48)=(n:Int)-48:=by rw[ek];omega
  have i:H.wrap ((n:Int)-48)=(n:Int)-48:=by rw[cr];omega
  have j:M (((n-48:Nat):Int)=(n:Int)-48):=A (by omega);clear h;go_enter bm,bp;go_wp2;go_ret;exact⟨by show Q _=Q _;rw[j.o];rfl,rfl⟩
 .rw[if_neg (by omega),if_neg (by omega),if_neg (by omega)];have b:(48:Int)<=(n:Int):=by omega
  have d:¬(n:Int)<=57:=by omega
  have a:¬(97:Int)<=(n:Int):=by omega
  have f:¬(65:Int)<=(n:Int):=by omega
  clear h;go_enter bm,bp;go_wp2;go_ret;exact⟨rfl,rfl⟩
 .rw[if_neg (by omega),if_neg (by omega),if_pos (by omega)];have b:(48:Int)<=(n:Int):=by omega
  have d:¬(n:Int)<=57:=by omega
  have a:¬(97:Int)<=(n:Int):=by omega
  have f:(65:Int)<=(n:Int):=by omega
  have g:(n:Int)<=70:=by omega
  have o:dj.wrap ((n:Int)-65)=(n:Int)-65:=by rw[ek];omega
  have i:H.wrap ((n:Int)-65)=(n:Int)-65:=by rw[cr];omega
  have l:H.wrap ((n:Int)-65+10)=(n:Int)-65+10:=by rw[cr];omega
  have j:M (((n-55:Nat):Int)=(n:Int)-65+10):=A (by omega);clear h;go_enter bm,bp;go_wp2;go_ret;exact⟨by show Q _=Q _;rw[j.o];rfl,rfl⟩
 .rw[if_neg (by omega),if_neg (by omega),if_neg (by omega)];have b:(48:Int)<=(n:Int):=by omega
  have d:¬(n:Int)<=57:=by omega
  have a:¬(97:Int)<=(n:Int):=by omega
  have f:(65:Int)<=(n:Int):=by omega
  have g:¬(n:Int)<=70:=by omega
  clear h;go_enter bm,bp;go_wp2;go_ret;exact⟨rfl,rfl⟩
 .rw[if_neg (by omega),if_pos (by omega)];have b:(48:Int)<=(n:Int):=by omega
  have d:¬(n:Int)<=57:=by omega
  have a:(97:Int)<=(n:Int):=by omega
  have m:(n:Int)<=102:=by omega
  have g:¬(n:Int)<=70:=by omega
  have o:dj.wrap ((n:Int)-97)=(n:Int)-97:=by rw[ek];omega
  have i:H.wrap ((n:Int)-97)=(n:Int)-97:=by rw[cr];omega
  have l:H.wrap ((n:Int)-97+10)=(n:Int)-97+10:=by rw[cr];omega
  have j:M (((n-87:Nat):Int)=(n:Int)-97+10):=A (by omega);clear h;go_enter bm,bp;go_wp2;go_ret;exact⟨by show Q _=Q _;rw[j.o];rfl,rfl⟩
 .rw[if_neg (by omega),if_neg (by omega),if_neg (by omega)];have b:(48:Int)<=(n:Int):=by omega
  have d:¬(n:Int)<=57:=by omega
  have a:(97:Int)<=(n:Int):=by omega
  have m:¬(n:Int)<=102:=by omega
  have f:(65:Int)<=(n:Int):=by omega
  have g:¬(n:Int)<=70:=by omega
  clear h;go_enter bm,bp;go_wp2;go_ret;exact⟨rfl,rfl⟩
def lW{n:Nat}{k:Int}(h:¬(n:Int)=k):¬((n:Int)=k)/\((n:Int)==k)=U/\((n:Int)!=k)=Z:=⟨h,by simpa using h,by simpa using h⟩
def eH(b a c v:Nat):Bool:=
 if b≠0/\a=0 then v≠13 else if b≠0/\a=1 then v<12 else b=0&&a=1&&c=13&&12<=v
def aIt{w:X}{b:Nat}{l k i g m n j o c f e d a p:O}{q:cg}(h:w.heap[b]?=N (D #[l,k,i,g,m,n,j,o,c,f,e,d,a,p] q (0,0))):
 w.cell? ⟨b,8,S⟩=N c/\w.cell? ⟨b,9,S⟩=N f/\w.cell? ⟨b,10,S⟩=N e/\w.cell? ⟨b,11,S⟩=N d/\w.cell? ⟨b,12,S⟩=N a:=⟨aA h,aA h,aA h,aA h,aA h⟩
def zK(w:X)(b dg a hi v:Nat)(y r t m u p o s z q x:O)(h:w.heap[b]?=N (D #[y,r,t,m,u,p,o,s,z,q,dg,I H a,I H hi,x] 228 (0,0))):
 af T 203 #[bj (N ⟨b,8,S⟩),I H v] w λe w'=>e=Q (E (eH hi dg a v))/\w'=w:=by
 obtain⟨-,-,P,R,F⟩:=aIt h;clear h
 by_cases c:hi=0
 .subst c
  by_cases f:dg=1
  .subst f
   by_cases d:a=13
   .subst d
    by_cases g:12<=v
    .have j:(12:Int)<=(v:Int):=by omega
     rw[show eH 0 1 13 v=Z by simp[eH,g]];go_enter ba,bc;go_wp2;go_ret;exact⟨rfl,rfl⟩
    .have j:¬(12:Int)<=(v:Int):=by omega
     rw[show eH 0 1 13 v=U by simp[eH,g]];go_enter ba,bc;go_wp2;go_ret;exact⟨rfl,rfl⟩
   .obtain⟨-,l,-⟩:=lW (n:=a) (k:=13) (by omega);rw[show eH 0 1 a v=U by simp[eH,d]];clear d;go_enter ba,bc;go_wp2;go_ret;exact⟨rfl,rfl⟩
  .obtain⟨-,l,-⟩:=lW (n:=dg) (k:=1) (by omega);rw[show eH 0 dg a v=U by simp[eH,f]];clear f;go_enter ba,bc;go_wp2;go_ret;exact⟨rfl,rfl⟩
 .obtain⟨-,C,G⟩:=lW (n:=hi) (k:=0) (by omega)
  by_cases f:dg=0
  .subst f
   by_cases d:v=13
   .subst d;rw[show eH hi 0 a 13=U by simp[eH,c]];clear c;go_enter ba,bc;go_wp2;go_ret;exact⟨rfl,rfl⟩
   .obtain⟨-,-,K⟩:=lW (n:=v) (k:=13) (by omega);rw[show eH hi 0 a v=Z by simp[eH,c,d]];clear c d;go_enter ba,bc;go_wp2;go_ret;exact⟨rfl,rfl⟩
  .obtain⟨B,V,L⟩:=lW (n:=dg) (k:=0) (by omega)
   by_cases i:dg=1
   .subst i
    by_cases g:v<12
    .have j:(v:Int)<12:=by omega
     rw[show eH hi 1 a v=Z by simp[eH,c,g]];clear c;go_enter ba,bc;go_wp2;go_ret;exact⟨rfl,rfl⟩
    .have j:¬(v:Int)<12:=by omega
     rw[show eH hi 1 a v=U by simp[eH,c,g]];clear c;go_enter ba,bc;go_wp2;go_ret;exact⟨rfl,rfl⟩
   .obtain⟨-,l,-⟩:=lW (n:=dg) (k:=1) (by omega);rw[show eH hi dg a v=U by simp[eH,c,f,i]];clear c f i;go_enter ba,bc;go_wp2;go_ret;exact⟨rfl,rfl⟩
def aAz(r:Nat)(b:fM r)(w:X):af T 242 #[I H r] w λe w'=>e=Q (E Z)/\w'=w:=by
 have c:(0:Int)<=(r:Int):=by omega
 rcases b with h|⟨g,d⟩
 .have a:(r:Int)<55296:=by omega
  go_enter func242,ntmps242;go_wp2;go_ret;exact⟨rfl,rfl⟩
 .have a:¬(r:Int)<55296:=by omega
  have i:(57343:Int)<(r:Int):=by omega
  have f:(r:Int)<=1114111:=by omega
  go_enter func242,ntmps242;go_wp2;go_ret;exact⟨rfl,rfl⟩
def aD2{r:Nat}(d:fM r):(fu (r:Int))=⟨(aT r).toArray⟩:=by
 have b:fv (r:Int)=Z:=by
  unfold fv;rcases d with h|⟨f,e⟩
  .have a:(r:Int)<0xD800:=by omega
   simp[a]
  .have a:(0xE000:Int)<=(r:Int):=by omega
   have c:(r:Int)<=0x10FFFF:=by omega
   simp[a,c]
 unfold fu aT;simp only[b,if_true,Int.toNat_natCast];split
 .rfl
 .split
  .rfl
  .split
   .rfl
   .rfl
def aMb(w:X)(l:List UInt8)(e:ck)(w':X):Prop:=
 ∃g cap,e=Q (ag #[Y (N ⟨g,0,S⟩) l.length cap,fw])/\(∀i x,l[i]?=N x->w'.cell? ⟨g,i,S⟩=N (bZ x))/\bk w w w'
def zL(r:Nat)(d:fM r)(w:X):af T 224 #[I H r] w λe w'=>aMb w (aT r) e w':=by
 have l:=A (aAz r d)
 have j:∀w,(convert 21 9 (I H r)).run T w=.ok (au ⟨(aT r).toArray⟩) w:=λw=>by
  rw[run_convert_int_string w 21 9 H r (by kernel_rfl) fz,aD2 d]
 obtain⟨s,g⟩:∃s:ByteArray,(⟨(aT r).toArray⟩:ByteArray)=s:=⟨_,rfl⟩;rw[g]at j;have b:=λw=>run_bytes_of_string (P:=T) w 9 22 5 s fz underlying22 underlying5
 have k:(aT r)=s.data.toList:=by rw[<-g]
 rw[k];have c:s.data.toList.length=s.size:=ao;clear g k d;go_enter func224,ntmps224;go_wp2_with fail;refine(l.o _).mono ?_;rintro e w1 ⟨rfl,rfl⟩;go_wp2_with fail;refine aj (v:=ag #[Y w1 s.size (ct w1 s.size 0 5),fw]) (by simp[ak,results224,go_sem]) rfl ?_;refine⟨w1.heap.size,ct w1 s.size 0 5,by rw[c],λi x h=>?_,?_⟩
 .have a:i<s.data.size:=by have:=(dw.1 h).1;simpa using this
  have f:s.data[i]=x:=by
   rw[dx (by simpa using a)]at h
   simpa using h
  have m:=ei w1 (D (em s (ct w1 s.size 0 5)) 5 ((em s (ct w1 s.size 0 5)).size,(em s (ct w1 s.size 0 5)).size+1))
  show(w1.alloc _).cell? ⟨w1.heap.size,i,S⟩=_
  rw[cell_any m,bytesRow_at s _ i a,f]
 .exact((fg _ _).alloc (aw _) _).drew
def aG0(w:X)(b:Nat)(a:O)(l:List UInt8)(c:O->Array O)(e:ck)(w':X):Prop:=e=Q (ag #[])/\∃g off cap,w'.heap[b]?=N (D (c (Y (N ⟨g,off,S⟩) l.length cap)) 228 (0,0))/\
 Win 5 bZ w' (Y (N ⟨g,off,S⟩) l.length cap) l/\(a.ownBlock=N g\/w.heap.size<=g)/\Keeps (λk=>k=b\/a.ownBlock=N k) w w'
def aF3(w:X)(b dg a:Nat)(n g j q l d c i o f m:O)(h:w.heap[b]?=N (D #[n,g,j,q,l,d,c,i,o,f,dg,I H a,I H 0,m] 228 (0,0)))(t:55296<=a)(r:a<=56319):
 af T 204 #[bj b] w λe w'=>e=Q (ag #[])/\w'.heap[b]?=N (D #[n,g,j,cu (cv 223) #[] #[],l,d,c,i,o,f,dg,I H a,I H a,m] 228 (0,0))/\Keeps (λk=>k=b) w w':=by
 obtain⟨-,-,-,x,-,-,-,-,-,-,-,v,s,-,y⟩:=aN h;have B:=A h;have z:(55296:Int)<=(a:Int):=by omega
 have u:(a:Int)<=56319:=by omega
 clear h;go_enter eo,ep;go_wp2_with fail;exact aj (results_none rfl _ _ _) rfl ⟨rfl,aB (aB B.o _) _,((ah (λk=>k=b) w).A3 (p:=⟨b,12,S⟩) (ac rfl) _).A3 (p:=⟨b,3,S⟩) (ac rfl) _⟩
def aIu(w:X)(b dg a:Nat)(v0 v1 v2 v3 v4 v5 v6 v7 v8 c vd:O)(l:Oo)(x:w.heap[b]?=N (D #[v0,v1,v2,v3,v4,v5,v6,v7,v8,c,dg,I H a,I H 0,vd] 228 (0,0)))(r:¬(55296<=a/\a<=56319))(i:fM a)
 (f:Win 5 bZ w c l)(n:l.length<=1073741824):
 af T 204 #[bj b] w λe w'=>aG0 w b c (l++aT a) (λv=> #[v0,v1,v2,cu (cv 138) #[] #[],v4,v5,v6,v7,v8,v,dg,I H a,I H 0,vd]) e w':=by
 obtain⟨-,-,-,-,-,-,-,-,-,t,-,W,cc,-,-⟩:=aN x;obtain⟨ta,tc,B⟩:=f.A7;have C:=A (f.ne x (by decide));have a0:=A x;have HW:=A f.M7;have HE:=A (zL a i);have G:=A (aw w.heap.size);have K:=A (ah (λk=>k=b\/c.ownBlock=N k) w);have d:=fS a;obtain⟨R,o⟩:∃R,aT a=R:=⟨_,rfl⟩;rw[o]at HE d⊢;obtain⟨m,q⟩:∃m,R.length=m+1:=⟨R.length-1,by omega⟩;have g7:m<=3:=by omega
 have L:=A q;have HL:=A n;have h:(a:Int)<55296\/((55296:Int)<=(a:Int)/\¬(a:Int)<=56319):=by unfold fM at i;omega
 clear x f i o d q n r;subst B;rcases h with h|⟨h,z⟩
 focus
  have f:¬(55296:Int)<=(a:Int):=by omega
 all_goals
  go_enter eo,ep;go_wp2_with fail;refine(HE.o _).mono ?_;rintro e w1 ⟨g1,r,rfl,f,i⟩;have n:=keep a0.o i;obtain⟨-,-,-,-,-,-,-,-,-,d9,-,-,-,-,-⟩:=aN n;have P:=A n;have s:=A i;have V:=A (HW.o.A2 (F:=λ_=>False) (dl _ i) (λ_ _=>id));have o:=A f;rw[L.o];clear n i f t W cc
  go_wp2_with (at_builtin;refine bC zJ rfl _ _ rfl rfl V.o g1 (m+1) r (R.map bZ) rfl ?_ ?_ ?_ ?_ ?_ ?_ ?_)
  .rw[ga,L.o];omega
  .intro j u i;rw[gc]at i;cases f:R[j]? with
   | none=>rw[f]at i;cases i
   | some y=>
    rw[f]at i;simp at i;subst i;have n:(⟨g1,0,S⟩:bu).add j=⟨g1,j,S⟩:=by unfold gd;split<;>simp_all
    rw[n];exact o.o j y f
  .intro u f;rw[ge]at f;obtain⟨y,_,rfl⟩:=f;rfl
  .omega
  .have:=HL.o;omega
  .have:=HL.o;unfold cj;omega
  intro g off cap w2 n t q;have f:=n;rw[<-gh]at f;have f:=f.E8;have i:=q.B7 P.o (λe=>C.o e);have W:=A f;have g3:=A (n.ne i (by decide));have g4:=A t;have g5:=A q;have g6:=A i;obtain⟨-,-,-,q3,-,-,-,-,-,q9,-,-,-,-,qf⟩:=aN i;clear n f i t q d9;go_wp2
  go_end0
  have f:Keeps (λk=>k=b) w2 ((w2.setCell ⟨b,9,S⟩ (Y (g,off) (l.length+(m+1)) cap)).setCell ⟨b,3,S⟩ (cu (cv 138) #[] #[])):=((ah (λk=>k=b) w2).A3 (p:=⟨b,9,S⟩) (ac rfl) _).A3 (p:=⟨b,3,S⟩) (ac rfl) _;have d:(l++R).length=l.length+(m+1):=by rw[dp,L.o]
  refine⟨rfl,g,off,cap,?_,?_,g4.o.imp id (λx=>bh G.o (bh s.o.size x.1)),?_⟩
  .rw[d];exact aB (aB g6.o _) _
  .rw[d];exact W.o.A2 f (λk e i=>g3.o (e.trans (congrArg N i)))
  .exact((K.o.same (dl _ s.o)).same (g5.o.mono (λk x=>ae x))).same (f.mono (λk x=>ac x))
def aF4(w:X)(b dg a hi:Nat)(v0 v1 v2 v3 v4 v5 v6 v7 v8 c vd:O)(l:Oo)(C:w.heap[b]?=N (D #[v0,v1,v2,v3,v4,v5,v6,v7,v8,c,dg,I H a,I H hi,vd] 228 (0,0)))(h1:55296<=hi)(h2:hi<=56319)(h3:56320<=a)(h4:a<=57343)
 (i:Win 5 bZ w c l)(r:l.length<=1073741824):
 af T 204 #[bj b] w λe w'=>aG0 w b c (l++aT (65536+(hi-55296)*1024+a-56320)) (λv=> #[v0,v1,v2,cu (cv 138) #[] #[],v4,v5,v6,v7,v8,v,dg,I H a,I H 0,vd]) e w':=by
 obtain⟨-,-,-,-,-,-,-,-,-,c9,-,cb,cc,-,cf⟩:=aN C;obtain⟨ta,tc,K⟩:=i.A7;have x:fM (65536+(hi-55296)*1024+a-56320):=ae (by omega);have q:=aB C (o:=12) (I H 0);simp only[List.setIfInBounds_toArray,List.set_cons_zero,List.set_cons_succ]at q;have s:=A (i.ne C (by decide));have a0:=A (show((w.setCell ⟨b,12,S⟩ (I H 0)).drew).heap[b]?=_ from q);have f:Keeps (λk=>k=b) w (w.setCell ⟨b,12,S⟩ (I H 0)).drew:=((ah (λk=>k=b) w).A3 (p:=⟨b,12,S⟩) (ac rfl) _).B0;have HW:=A (i.A2 f (λk e L=>s.o (e.trans (congrArg N L)))).M7;have P:=A (zL _ x);have V:=A f.size;have W:=A (f.mono (G:=λk=>k=b\/c.ownBlock=N k) (λk e=>ac e));have d:=fS (65536+(hi-55296)*1024+a-56320);obtain⟨R,z⟩:∃R,aT (65536+(hi-55296)*1024+a-56320)=R:=⟨_,rfl⟩;rw[z]at P d⊢;obtain⟨m,B⟩:∃m,R.length=m+1:=⟨R.length-1,by omega⟩;have h0:m<=3:=by omega
 have HM:=A B;have HL:=A r;obtain⟨-,-,n3⟩:=lW (n:=hi) (k:=0) (by omega)
 have t:=A (show bx (bx (bx (65536+bx (bx ((hi:Int)-55296)*1024))+(a:Int))-56320)=((65536+(hi-55296)*1024+a-56320:Nat):Int) by
  unfold bx;omega)
 obtain⟨rr,h⟩:∃rr,65536+(hi-55296)*1024+a-56320=rr:=⟨_,rfl⟩;rw[h]at P t;clear C q f i x z d B r h1 h2 h3 h4 h;subst K;go_enter eo,ep;go_wp2;go_region;rw[t.o];go_wp2_with fail;refine(P.o _).mono ?_;rintro e w1 ⟨g1,x,rfl,f,h⟩;have i:=keep a0.o h;obtain⟨-,-,-,-,-,-,-,-,-,d9,-,-,-,-,-⟩:=aN i;have g3:=A i;have z:=A h;have g4:=A (HW.o.A2 (F:=λ_=>False) (dl _ h) (λ_ _=>id));have q:=A f;rw[HM.o];clear i h f c9 cb cc cf
 go_wp2_with (at_builtin;refine bC zJ rfl _ _ rfl rfl g4.o g1 (m+1) x (R.map bZ) rfl ?_ ?_ ?_ ?_ ?_ ?_ ?_)
 .rw[ga,HM.o];omega
 .intro j u h;rw[gc]at h;cases f:R[j]? with
  | none=>rw[f]at h;cases h
  | some y=>
   rw[f]at h;simp at h;subst h;have i:(⟨g1,0,S⟩:bu).add j=⟨g1,j,S⟩:=by unfold gd;split<;>simp_all
   rw[i];exact q.o j y f
 .intro u f;rw[ge]at f;obtain⟨y,_,rfl⟩:=f;rfl
 .omega
 .have:=HL.o;omega
 .have:=HL.o;unfold cj;omega
 intro g off cap w2 i B r;have f:=i;rw[<-gh]at f;have f:=f.E8;have h:=r.B7 g3.o (λe=>s.o e);have g5:=A f;have g6:=A (i.ne h (by decide));have g7:=A B;have g8:=A r;have g9:=A h;obtain⟨-,-,-,q3,-,-,-,-,-,q9,-,-,-,-,qf⟩:=aN h;clear i f h B r d9;go_wp2
 go_end0
 have f:Keeps (λk=>k=b) w2 ((w2.setCell ⟨b,9,S⟩ (Y (g,off) (l.length+(m+1)) cap)).setCell ⟨b,3,S⟩ (cu (cv 138) #[] #[])):=((ah (λk=>k=b) w2).A3 (p:=⟨b,9,S⟩) (ac rfl) _).A3 (p:=⟨b,3,S⟩) (ac rfl) _;have d:(l++R).length=l.length+(m+1):=by rw[dp,HM.o]
 refine⟨rfl,g,off,cap,?_,?_,g7.o.imp id (λC=>bh V.o (bh z.o.size C.1)),?_⟩
 .rw[d];exact aB (aB g9.o _) _
 .rw[d];exact g5.o.A2 f (λk e L=>g6.o (e.trans (congrArg N L)))
 .exact((W.o.same (dl _ z.o)).same (g8.o.mono (λk C=>ae C))).same (f.mono (λk C=>ac C))
