/-
  The program, one part of its walk. Conditions: none.
-/
import Derived.Test.YtakkmiomhackiaaGreatDoorTd23
import Derived.Test.YtakkmiomhackiaaGreatDoorTd26
import Derived.Test.YtakkmiomhackiaaGreatDoorTd29
set_option linter.all false
set_option maxRecDepth 100000
set_option maxHeartbeats 16000000
open Go.Proofs.Tryz
open Bool renaming false->aj,true->ae
open Go renaming Calls->E,Value->V,World->J
open Go.Ending renaming returned->ag
open Go.FloatKind renaming f64->av
open Go.Instr renaming typeAssert->bm
open Go.IntKind renaming i64->S
open Go.Obj renaming cells->Y
open Go.Proofs.Tryz renaming prog->K
open Go.Proofs.YtakkmiomhackiaaGreatDoor.Fr renaming list->az
open Go.Proofs.YtakkmiomhackiaaGreatDoor.Keeps renaming A1->af,A3->bx
open Go.Proofs.YtakkmiomhackiaaGreatDoor.Ps renaming C7->ar,E2->bu,F4->bj
open Go.Value renaming bool->ah,float->au,iface->ai,int->O,nilIface->bs,pointer->Z,slice->ak,string->H,tuple->ac
open List renaming getElem?_append_left->ao,getElem?_append_right->ba,getElem?_eq_some_iff->bh,length_nil->bk,map_cons->bp
open Nat renaming le_refl->bc,le_trans->bw,lt_of_lt_of_le->aw,not_lt->X,sub_self->bg
open Option renaming none->U,some->I
open Or renaming inl->N,inr->W
namespace Go.Proofs.YtakkmiomhackiaaGreatDoor
open Go.RowKit
section
inductive LS|at_(x:Lx)(dn:Bool)|dead(pl st:Nat)(errV:V)
def lC(F:Nat->Prop)(w:J)(b:Nat)(toks:List Tok):LS->Prop
 | .at_ x c=>cE F w b x c toks
 | .dead pl st a=>dR F w b pl st a toks
section
variable {F G:Nat->Prop} {w w':J} {b:Nat} {toks:List Tok} {s:LS}
theorem lC.J6(h:lC F w b toks s):F b:=by cases s<;>exact h.1
theorem lC.lt(h:lC F w b toks s):∀k,F k->k<w.heap.size:=by cases s<;>exact h.2.1
theorem lC.B6(h:lC F w b toks s)(c:Keeps G w w')(a:∀k,F k->¬G k):lC F w' b toks s:=by
 cases s with
 | at_ x e=>exact cE.B6 h c a
 | dead pl st d=>exact dR.B6 h c a
end
theorem aCL(F:Nat->Prop)(w:J)(b:Nat)(t:Tok)(toks:List Tok)(s:LS)(B:lC F w b (t::toks) s)(T:toks.length<=999):
 E K 111 #[Z (I ⟨b,0,U⟩)] w λe w'=>e=ag (ac #[bS t,ah ae])/\lC F w' b toks s/\Keeps (λk=>k=b) w w':=by
 have o:(toks.map bS).length<=1000:=by simp;omega
 obtain⟨G,r,u⟩:∃G r,bS t=ai G r:=by cases t<;>exact⟨_,_,rfl⟩
 cases s with
 | at_ x dn=>
  obtain⟨v,h,p,y,i,c,n,q,C⟩:=B;have d:=q.1;rw[bp,u]at d;rw[u];refine(aAb w b _ _ _ _ _ _ _ _ _ _ _ _ _ c G r (toks.map bS) n d o).mono ?_;rintro e w' ⟨rfl,g,off,cap,j,l,z,a⟩;refine⟨rfl,⟨v,λk m=>aw (h k m) a.size,p,y,i,_,j,⟨by simpa using l,λk e=>by cases e;exact q.2 _ z⟩,⟨λB=>?_,λB=>?_⟩⟩,a⟩
  .have A:=C.raw B;exact⟨A.1.A0 a (λk e a=>A.1.ne n (by decide) (e.trans (congrArg I a))),A.2⟩
  .obtain⟨A,f,pl,P,D,Q,R⟩:=C.text B;exact⟨⟨A.1.A0 a (λk e a=>A.1.ne n (by decide) (e.trans (congrArg I a))),A.2⟩,f,pl,P,D.A0 a (oB D n (by decide)),Q,R⟩
 | dead pl st i=>
  obtain⟨v,h,p,y,A,C,D,P,Q,R,vb,vc,c,n,q⟩:=B;have d:=q.1;rw[bp,u]at d;rw[u];refine(aAb w b _ _ _ _ _ _ _ _ _ _ _ _ _ c G r (toks.map bS) n d o).mono ?_;rintro e w' ⟨rfl,g,off,cap,j,l,z,a⟩;exact⟨rfl,⟨v,λk m=>aw (h k m) a.size,_,_,_,_,_,_,_,_,_,_,_,j,⟨by simpa using l,λk e=>by cases e;exact q.2 _ z⟩⟩,a⟩
theorem aA4(F:Nat->Prop)(w:J)(b:Nat)(s:LS)(h:lC F w b [] s):
 E K 111 #[Z (I ⟨b,0,U⟩)] w λe w'=>e=ag (ac #[bs,ah aj])/\w'=w:=by
 cases s with
 | at_ x r=>
  obtain⟨-,-,k,l,i,d,f,g,-⟩:=h;obtain⟨a,c,rfl⟩:=g.1.A8;exact aAa w b _ _ _ _ _ _ _ _ _ _ _ _ _ a c f
 | dead pl st j=>
  obtain⟨-,-,t,m,v,n,q,z,o,u,p,y,d,f,g⟩:=h;obtain⟨a,c,rfl⟩:=g.1.A8;exact aAa w b _ _ _ _ _ _ _ _ _ _ _ _ _ a c f
def jI(Q:Nat->Prop)(w:J)(v:V):Fr->Prop
 | .list m=>∃b,v=ai 272 (Z (I ⟨b,0,U⟩))/\w.heap[b]?=I (Y #[O S m] 274 (0,0))/\Q b
 | .object keys=>∃b c a,v=ai 275 (Z (I ⟨b,0,U⟩))/\w.heap[b]?=I (Y #[a,.map (I c)] 278 (0,0))/\Q b/\fC Q 9 encS w a keys/\(keys= []->a=ak U 0 0)/\eU w c keys.reverse/\Q c
structure eH(F:Nat->Prop)(w:J)(v:V)(pile:List Fr)(vals:List V):Prop where
 lt:∀k,F k->k<w.heap.size
 win:fC F 281 id w v vals
 len:vals.length=pile.length
 frames:∃Q:Nat->Nat->Prop,(∀i k,Q i k->F k/\v.ownBlock≠I k)/\(∀i j k,Q i k->Q j k->i=j)/\∀(i:Nat)(u:V)(fr:Fr),vals[i]?=I u->pile[i]?=I fr->jI (Q i) w u fr
theorem jI.A0{Q G:Nat->Prop}{w w':J}{v:V}{j:Fr}(h:jI Q w v j)(d:Keeps G w w')(c:∀k,Q k->¬G k):jI Q w' v j:=by
 cases j with
 | list m=>obtain⟨b,i,f,a⟩:=h;exact⟨b,i,d.C4 f (c b a),a⟩
 | object k=>
  obtain⟨b,l,q,i,f,a,g,o,p,n⟩:=h;exact⟨b,l,q,i,d.C4 f (c b a),a,⟨g.1.A0 d (λk e=>c k (g.2 k e)),g.2⟩,o,p.A0 d (c l n),n⟩
theorem eH.A0{F G:Nat->Prop}{w w':J}{v:V}{pile:List Fr}{a:List V}(h:eH F w v pile a)(b:Keeps G w w')(d:∀k,F k->¬G k):eH F w' v pile a:=by
 obtain⟨Q,f,g,o⟩:=h.frames;exact⟨λk c=>aw (h.lt k c) b.size,⟨h.win.1.A0 b λk e=>d k (h.win.2 k e),h.win.2⟩,h.len,Q,f,g,λi u l n m=>(o i u l n m).A0 b (λk j=>d k (f i k j).1)⟩
theorem eH.E0(w:J):eH (λ_=>False) w (ak U 0 0) [] []:=⟨λ_ h=>h.elim,.E0 _ _ _ _,rfl,λ_ _=>False,λ_ _ h=>h.elim,λ_ _ _ h=>h.elim,λi u b a=>by simp at a⟩
theorem eH.L4{F:Nat->Prop}{w:J}{v:V}{a:List Fr}{r:Fr}{b:List V}(h:eH F w v (a++ [r]) b):
 ∃(Q:Nat->Prop)(u:V),(∀k,Q k->F k/\v.ownBlock≠I k)/\b[a.length]?=I u/\jI Q w u r/\
  ∀(w':J)(G:Nat->Prop)(l:Fr),Keeps G w w'->(∀k,G k->F k->Q k)->jI (Since Q w w') w' u l->eH (Since F w w') w' v (a++ [l]) b:=by
 obtain⟨Q,f,q,C⟩:=h.frames;have o:b.length=a.length+1:=by rw[h.len];simp
 obtain⟨u,A⟩:∃u,b[a.length]?=I u:=⟨_,List.getElem?_eq_getElem (by omega)⟩;refine⟨Q a.length,u,f _,A,C _ u r A (by simp),λw' G l y D t=>?_⟩;refine⟨aF h.lt y.size,⟨h.win.1.A0 y λk e x=>(f _ k (D k x (h.win.2 k e))).2 e,λk e=>N (h.win.2 k e)⟩,by simp[o],λi k=>if i=a.length then Since (Q a.length) w w' k else Q i k,?_,?_,?_⟩
 .intro i k c
  try simp only[]at c
  split at c
  .rcases c with c|c
   .exact⟨N (f _ k c).1,(f _ k c).2⟩
   .exact⟨W c,λe=>absurd (h.win.1.lt e) (X.2 c.1)⟩
  .exact⟨N (f i k c).1,(f i k c).2⟩
 .intro i j k hi d
  try simp only[]at hi d
  split at hi
  .split at d
   .omega
   .rcases hi with hi|hi
    .rename_i P B;rw[P];exact q _ _ k hi d
    .exact absurd (h.lt k (f j k d).1) (X.2 hi.1)
  .split at d
   .rcases d with d|d
    .rename_i P B;rw[B];exact q _ _ k hi d
    .exact absurd (h.lt k (f i k hi).1) (X.2 d.1)
   .exact q i j k hi d
 .intro i R m g s
  by_cases hi:i=a.length
  .subst hi;rw[A]at g;cases g;rw[ba (bc _),bg]at s;cases s;simp only[if_pos];exact t
  .have p:i<a.length:=by
    have:=(bh.1 g).1;omega
   rw[ao p]at s;have z:(a++ [r])[i]?=I m:=by rw[ao p];exact s
   have n:=(C i R m g z).A0 y (λk c x=>hi (q i a.length k c (D k x (f i k c).1)))
   simpa only[if_neg hi]using n
theorem eH.M7{F G:Nat->Prop}{w w':J}{v l:V}{pile:List Fr}{a:List V}{u:V}{x:Fr}(h:eH F w v pile a)(t:Keeps G w w')(D:∀k,G k->F k->v.ownBlock=I k)(y:Win 281 id w' l (a++ [u]))
 (c:∀k,l.ownBlock=I k->v.ownBlock=I k\/w.heap.size<=k)(p:jI (λk=>w.heap.size<=k/\k<w'.heap.size/\l.ownBlock≠I k) w' u x):eH (Since F w w') w' l (pile++ [x]) (a++ [u]):=by
 obtain⟨Q,f,z,C⟩:=h.frames;have d:=h.len;refine⟨aF h.lt t.size,⟨y,λk e=>(c k e).elim (λe=>N (h.win.2 k e)) (λs=>W ⟨s,y.lt e⟩)⟩,by simp[d],λi k=>if i=a.length then(w.heap.size<=k/\k<w'.heap.size/\l.ownBlock≠I k)else Q i k,?_,?_,?_⟩
 .intro i k b
  try simp only[]at b
  split at b
  .exact⟨W ⟨b.1,b.2.1⟩,b.2.2⟩
  .refine⟨N (f i k b).1,λe=>?_⟩;rcases c k e with e|e
   .exact(f i k b).2 e
   .exact absurd (h.lt k (f i k b).1) (X.2 e)
 .intro i j k hi g
  try simp only[]at hi g
  split at hi
  .split at g
   .omega
   .exact absurd (h.lt k (f j k g).1) (X.2 hi.1)
  .split at g
   .exact absurd (h.lt k (f i k hi).1) (X.2 g.1)
   .exact z i j k hi g
 .intro i B q n o
  by_cases hi:i=a.length
  .subst hi;rw[ba (bc _),bg]at n;rw[d,ba (bc _),bg]at o;cases n;cases o;simp only[if_pos];exact p
  .have r:i<a.length:=by
    have:=(bh.1 n).1;simp at this;omega
   rw[ao r]at n;rw[ao (by omega)]at o;have m:=(C i B q n o).A0 t (λk b A=>(f i k b).2 (D k A (f i k b).1))
   simpa only[if_neg hi]using m
theorem eH.T9{F:Nat->Prop}{w:J}{g off n cap:Nat}{b:List Fr}{q:Fr}{a:List V}(h:eH F w (ak (I ⟨g,off,U⟩) (n+1) cap) (b++ [q]) a)(s:n=b.length):eH F w (ak (I ⟨g,off,U⟩) n cap) b (a.take n):=by
 obtain⟨Q,j,p,r⟩:=h.frames;have l:a.length=b.length+1:=by rw[h.len];simp
 subst s;refine⟨h.lt,⟨h.win.1.B0 (by omega),λk e=>h.win.2 k (by cases e;rfl)⟩,by rw[List.length_take];omega,Q,λi k f=>⟨(j i k f).1,λe=>(j i k f).2 (by cases e;rfl)⟩,p,λi u d o m=>?_⟩;have c:=(bh.1 m).1;rw[List.getElem?_take,if_pos c]at o;exact r i u d o (by rw[ao c];exact m)
structure j6(F:Nat->Prop)(p:Nat)(FL FM FP:Nat->Prop):Prop where
 lex:∀k,FL k->F k
 maker:∀k,FM k->F k
 pile:∀k,FP k->F k
 self:F p/\¬FL p/\¬FM p/\¬FP p
 lm:∀k,FL k->¬FM k
 lp:∀k,FL k->¬FP k
 mp:∀k,FM k->¬FP k
section
variable {F FL FM FP:Nat->Prop} {p:Nat} {w w':J}
theorem j6.N3(h:j6 F p FL FM FP)(d:p<w.heap.size)(e:∀k,FM k->k<w.heap.size)(f:∀k,FP k->k<w.heap.size):j6 (Since F w w') p (Since FL w w') FM FP:=
 ⟨λk a=>a.elim (λc=>N (h.lex k c)) W,λk a=>N (h.maker k a),λk a=>N (h.pile k a),⟨N h.self.1,λa=>a.elim h.self.2.1 (λh=>absurd d (X.2 h.1)),h.self.2.2.1,h.self.2.2.2⟩,
  λk a b=>a.elim (λc=>h.lm k c b) (λc=>absurd (e k b) (X.2 c.1)),λk a b=>a.elim (λc=>h.lp k c b) (λc=>absurd (f k b) (X.2 c.1)),h.mp⟩
theorem j6.P1(h:j6 F p FL FM FP)(d:p<w.heap.size)(f:∀k,FL k->k<w.heap.size)(e:∀k,FP k->k<w.heap.size):j6 (Since F w w') p FL (Since FM w w') FP:=
 ⟨λk a=>N (h.lex k a),λk a=>a.elim (λb=>N (h.maker k b)) W,λk a=>N (h.pile k a),⟨N h.self.1,h.self.2.1,λa=>a.elim h.self.2.2.1 (λh=>absurd d (X.2 h.1)),h.self.2.2.2⟩,
  λk a c=>c.elim (λb=>h.lm k a b) (λb=>absurd (f k a) (X.2 b.1)),h.lp,λk a c=>a.elim (λb=>h.mp k b c) (λb=>absurd (e k c) (X.2 b.1))⟩
theorem j6.K5(h:j6 F p FL FM FP)(d:p<w.heap.size)(f:∀k,FL k->k<w.heap.size)(e:∀k,FM k->k<w.heap.size):j6 (Since F w w') p FL FM (Since FP w w'):=
 ⟨λk a=>N (h.lex k a),λk a=>N (h.maker k a),λk a=>a.elim (λb=>N (h.pile k b)) W,⟨N h.self.1,h.self.2.1,h.self.2.2.1,λa=>a.elim h.self.2.2.2 (λh=>absurd d (X.2 h.1))⟩,
  h.lm,λk a c=>c.elim (λb=>h.lp k a b) (λb=>absurd (f k a) (X.2 b.1)),λk a c=>c.elim (λb=>h.mp k a b) (λb=>absurd (e k a) (X.2 b.1))⟩
theorem j6.O3(h:j6 F p FL FM FP):j6 (Since F w w') p FL FM FP:=
 ⟨λk a=>N (h.lex k a),λk a=>N (h.maker k a),λk a=>N (h.pile k a),⟨N h.self.1,h.self.2⟩,h.lm,h.lp,h.mp⟩
end
def dJ(x:Ps)(b c:Nat)(a:V):Array V:= #[O S x.depth,O S x.place,Z (I ⟨b,0,U⟩),Z (I ⟨c,0,U⟩),a,O S x.want,O S x.nodes,O S x.bytes,bs,ah aj]
def aG(F:Nat->Prop)(w:J)(p:Nat)(x:Ps)(s:LS)(toks:List Tok):Prop:=
 (∀k,F k->k<w.heap.size)/\∃c f e g d a b,j6 F p c f e/\w.heap[p]?=I (Y (dJ x g d a) 136 (0,0))/\lC c w g toks s/\cI f w d x.items/\eH e w a x.pile b
def gX(w:J)(p:Nat):Prop:=∃f e c b g h d i a j,w.heap[p]?=I (Y #[f,e,c,b,g,h,d,i,a,j] 136 (0,0))
theorem aG.H8{F:Nat->Prop}{w:J}{p:Nat}{x:Ps}{s:LS}{toks:List Tok}(h:aG F w p x s toks):gX w p:=by
 obtain⟨_,_,_,_,_,_,_,_,_,a,_⟩:=h;exact⟨_,_,_,_,_,_,_,_,_,_,a⟩
def dH(F:Nat->Prop)(w:J)(p:Nat)(s:LS)(toks:List Tok)(o:Out)(e:Ending)(w':J):Prop:=
 Keeps F w w'/\match o with
 | .error (no,a)=>e=bR no a/\gX w' p
 | .ok y=>e=ag (ac #[])/\aG (Since F w w') w' p y s toks
end
section
section
variable {F FL FM FP:Nat->Prop} {w w':J} {p lb mb:Nat} {x y:Ps} {s:LS} {toks:List Tok} {pileV:V} {vals:List V}
theorem oC(c:∀k,F k->k<w.heap.size)(b:j6 F p FL FM FP)(j:lC FL w lb toks s)(g:cI FM w mb x.items)(l:eH FP w pileV x.pile vals)(a:Keeps (λk=>k=p) w w')(i:w'.heap[p]?=I (Y (dJ y lb mb pileV) 136 (0,0)))
 (hi:y.items=x.items)(d:y.pile=x.pile):Keeps F w w'/\aG (Since F w w') w' p y s toks:=by
 have f:Keeps F w w':=a.A6 λk e=>e▸b.self.1
 refine⟨f,aF c a.size,FL,FM,FP,lb,mb,pileV,vals,b.O3,i,j.B6 a (λk h e=>b.self.2.1 (e▸h)),?_,?_⟩
 .rw[hi];exact g.B6 a (λk h e=>b.self.2.2.1 (e▸h))
 .rw[d];exact l.A0 a (λk h e=>b.self.2.2.2 (e▸h))
theorem mV(b:eH FP w pileV x.pile vals):∃a cap,pileV=ak a x.pile.length cap:=by
 obtain⟨a,c,h⟩:=b.win.1.A8;exact⟨a,c,by rw[h,b.len]⟩
theorem gX.A0{G:Nat->Prop}(h:gX w p)(a:Keeps G w w')(m:¬G p):gX w' p:=by
 obtain⟨g,f,d,c,i,j,e,k,b,l,n⟩:=h;exact⟨g,f,d,c,i,j,e,k,b,l,a.C4 n m⟩
end
theorem aG.B6{F G:Nat->Prop}{w w':J}{p:Nat}{x:Ps}{s:LS}{toks:List Tok}(h:aG F w p x s toks)(c:Keeps G w w')(e:∀k,F k->¬G k):aG F w' p x s toks:=by
 obtain⟨f,i,t,o,q,m,a,b,d,l,n,j,r⟩:=h;exact⟨λk g=>aw (f k g) c.size,i,t,o,q,m,a,b,d,c.C4 l (e p d.self.1),n.B6 c (λk h=>e k (d.lex k h)),j.B6 c (λk h=>e k (d.maker k h)),r.A0 c (λk h=>e k (d.pile k h))⟩
theorem aG.A6{F G:Nat->Prop}{w:J}{p:Nat}{x:Ps}{s:LS}{toks:List Tok}(h:aG F w p x s toks)(d:∀k,F k->G k)(e:∀k,G k->k<w.heap.size):aG G w p x s toks:=by
 obtain⟨_,f,q,m,n,j,b,c,a,i,l,g,o⟩:=h;exact⟨e,f,q,m,n,j,b,c,⟨λk h=>d k (a.lex k h),λk h=>d k (a.maker k h),λk h=>d k (a.pile k h),⟨d p a.self.1,a.self.2⟩,a.lm,a.lp,a.mp⟩,i,l,g,o⟩
theorem aG.lt{F:Nat->Prop}{w:J}{p:Nat}{x:Ps}{s:LS}{toks:List Tok}(h:aG F w p x s toks):∀k,F k->k<w.heap.size:=h.1
theorem aG.M8{F:Nat->Prop}{w:J}{p:Nat}{x:Ps}{s:LS}{toks:List Tok}(h:aG F w p x s toks):F p:=by
 obtain⟨_,_,_,_,_,_,_,_,a,_⟩:=h;exact a.self.1
theorem aG.A5{F:Nat->Prop}{w w':J}{p:Nat}{x:Ps}{s:LS}{toks:List Tok}(h:aG F w p x s toks)(a:Below w.heap.size w w'):aG F w' p x s toks:=h.B6 (af (λ_=>False) a) (λ_ _=>id)
theorem sZ(F:Nat->Prop)(w:J)(p:Nat)(x:Ps)(s:LS)(toks:List Tok)(d:Nat)(h:aG F w p x s toks)(D:x.nodes<=65536):
 E K 117 #[Z (I ⟨p,0,U⟩),O S d] w λe w'=>cH e/\dH F w p s toks (x.D0 d) e w':=by
 have k:=h;obtain⟨i,z,G,B,C,A,j,o,v,g,u,r,q⟩:=h;obtain⟨a,cap,rfl⟩:=mV q;unfold Ps.D0
 by_cases l:x.want≠0/\x.want≠1
 .rw[if_pos l];refine(aAZ w p x.want d _ _ _ _ _ _ _ _ _ g l).mono ?_;rintro e w' ⟨rfl,c⟩;exact⟨W ⟨_,_,rfl⟩,af F c,rfl,k.H8.A0 (af (λ_=>False) c) id⟩
 rw[if_neg l];have m:x.want=0\/x.want=1:=by omega
 by_cases f:x.pile.length=x.depth
 .rw[if_pos f];have b:=g;unfold dJ at b;rw[f]at b;refine(aCG w p x.depth x.want d cap a _ _ _ _ _ _ _ b m).mono ?_;rintro e w' ⟨rfl,c⟩;exact⟨W ⟨_,_,rfl⟩,af F c,rfl,k.H8.A0 (af (λ_=>False) c) id⟩
 rw[if_neg f]
 by_cases n:x.nodes=65536
 .rw[if_pos n];have b:=g;unfold dJ at b;rw[n]at b;refine(aEu w p x.depth x.want d x.pile.length cap a _ _ _ _ _ _ b m f).mono ?_;rintro e w' ⟨rfl,c⟩;exact⟨W ⟨_,_,rfl⟩,af F c,rfl,k.H8.A0 (af (λ_=>False) c) id⟩
 rw[if_neg n];refine(aJc w p x.depth x.want x.nodes d x.pile.length cap a _ _ _ _ _ _ g m f (by omega)).mono ?_;rintro e w' ⟨rfl,b,t⟩;have:=oC (y:={x with nodes:=x.nodes+1}) i v u r q t b rfl rfl;exact⟨N rfl,this.1,rfl,this.2⟩
theorem aEB(F:Nat->Prop)(w:J)(p:Nat)(x:Ps)(s:LS)(toks:List Tok)(c:UInt8)(h:aG F w p x s toks)(t:x.nodes<=65536):
 E K 84 #[Z (I ⟨p,0,U⟩),O .u8 ((c.toNat:Nat):Int)] w λe w'=>cH e/\dH F w p s toks (x.E2 c) e w':=by
 by_cases d:c=34/\(x.want=2\/x.want=3)
 .have f:x.E2 c=.ok x:=by unfold bu;rw[if_pos d]
  rw[f];have n:=h;obtain⟨j,m,v,q,r,o,b,g,-,l,-,-,-⟩:=h;obtain⟨i,d⟩:=d;refine(aEw w p x.want _ _ _ _ _ _ _ _ _ c l i d).mono ?_;rintro e w' ⟨rfl,a⟩;exact⟨N rfl,af F a,rfl,(n.A5 a).A6 (λk h=>N h) (aF j a.size)⟩
 .have f:x.E2 c=x.D0 x.place:=by unfold bu;rw[if_neg d]
  rw[f];have u:=sZ F w p x s toks x.place h t;obtain⟨-,m,v,q,r,o,b,g,-,l,-,-,-⟩:=h;refine aA0 w p x.place x.want _ _ _ _ _ _ _ _ c _ l ?_ (u.mono λe w' h=>⟨h.1,h⟩)
  by_cases i:c=34
  .exact W ⟨λe=>d ⟨i,N e⟩,λe=>d ⟨i,W e⟩⟩
  .exact N i
theorem aAe(F:Nat->Prop)(w:J)(p:Nat)(x:Ps)(s:LS)(toks:List Tok)(l:List UInt8)(a:Nat)(h:aG F w p x s toks)(k:x.bytes<=1073741824)(u:l.length<=1073741824):
 E K 149 #[Z (I ⟨p,0,U⟩),H ⟨l.toArray⟩,O S a] w λe w'=>cH e/\dH F w p s toks (x.F4 l a) e w':=by
 obtain⟨f,z,D,B,C,A,g,m,t,o,r,n,v⟩:=h;have b:(⟨l.toArray⟩:ByteArray).size=l.length:=by show l.toArray.size=_;simp
 refine(aG1 w p x.bytes a ⟨l.toArray⟩ _ _ _ _ _ _ _ _ _ o k (by rw[b];exact u)).mono ?_;rintro e w' ⟨j,i,c,q⟩;rw[b]at j i c;unfold bj;have:=oC (y:={x with bytes:=x.bytes+l.length}) f t r n v q c rfl rfl
 by_cases d:2097152<x.bytes+l.length
 .rw[if_pos d];exact⟨W ⟨_,_,i d⟩,this.1,i d,this.2.H8⟩
 .rw[if_neg d];exact⟨N (j (by omega)),this.1,j (by omega),this.2⟩
theorem pA(l:List Fr):l= []\/∃i a,l=i++ [a]:=by
 rcases List.eq_nil_or_concat l with h|⟨i,a,h⟩
 .exact N h
 .exact W ⟨i,a,by simpa using h⟩
theorem oS(F:Nat->Prop)(w:J)(p:Nat)(x:Ps)(s:LS)(toks:List Tok)(a0:aG F w p x s toks)(hm:∀m,az m∈x.pile->m<=1073741824)(hl:x.pile.length<=1048576):
 E K 151 #[Z (I ⟨p,0,U⟩)] w λe w'=>e=ag (ac #[])/\Keeps F w w'/\aG (Since F w w') w' p x.C7 s toks:=by
 obtain⟨q,FL,FM,FP,lb,mb,pileV,r,i,hb,T,hM,t⟩:=a0;rcases pA x.pile with f|⟨h,fr,b⟩
 .obtain⟨a,cap,rfl⟩:=mV t;have d:=hb;unfold dJ at d;rw[f,bk]at d;refine(aG2 w p cap a _ _ _ _ _ _ _ _ _ d).mono ?_;rintro e w' ⟨rfl,l,j⟩
  have c:x.C7={x with want:=6}:=by
   have o:more x.pile=x.pile:=by rw[f];rfl
   unfold ar;rw[if_pos f,o]
  rw[c];have:=oC (y:={x with want:=6}) q i T hM t j (by rw[f,bk];exact l) rfl rfl;exact⟨rfl,this.1,this.2⟩
 .have hlen:r.length=h.length+1:=by rw[t.len,b];simp
  have B:=t;rw[b]at B;obtain⟨a1,u,hQ,hu,C,z⟩:=B.L4;obtain⟨a,cap,D⟩:=mV t;rw[b,List.length_append,List.length_cons,bk,Nat.zero_add]at D;subst D;have v:=t.win.1
  obtain⟨g,off,hga⟩:∃g off,a=I ⟨g,off,U⟩:=by
   rcases v with⟨l,_⟩|⟨g,off,n,A,l,_⟩
   .cases l
   .injection l with h1 _ _;exact⟨g,off,h1⟩
  subst hga;have l:w.cell? ⟨g,off+h.length,U⟩=I u:=v.B5 hu;have G:g≠p:=λe=>i.self.2.2.2 (e▸t.win.2 g rfl)
  have P:h.length<=1048576:=by rw[b]at hl;simp at hl;omega
  cases fr with
  | object k=>
   obtain⟨n,A,Q,rfl,-,-,-⟩:=C
   have c:x.C7={x with want:=5}:=by
    have o:more x.pile=x.pile:=by rw[b];simp[more]
    unfold ar;rw[if_neg (by rw[b];simp),o]
   rw[c];refine(aEv w p g off h.length cap n _ _ _ _ _ _ _ _ _ hb l G P).mono ?_;rintro e w' ⟨rfl,d,j⟩;have:=oC (y:={x with want:=5}) q i T hM t j d rfl rfl;exact⟨rfl,this.1,this.2⟩
  | list m=>
   obtain⟨n,rfl,hfb,o⟩:=C;have A:FP n:=(hQ n o).1;have hm1:m<=1073741824:=hm m (by rw[b];simp)
   have c:x.C7={x with want:=5,pile:=h++ [az (m+1)]}:=by
    unfold ar;rw[if_neg (by rw[b];simp),b];simp[more]
   rw[c];refine(aJd w p g off h.length cap n m _ _ _ _ _ _ _ _ _ hb l G hfb P hm1).mono ?_;rintro e w' ⟨rfl,d,Q,j⟩;have R:Keeps F w w':=j.A6 λk e=>e.elim (λe=>e▸i.self.1) (λe=>e▸i.pile n A)
   have hd:∀(a1:Nat->Prop),¬a1 p->¬a1 n->∀k,a1 k->¬(k=p\/k=n):=λa1 h1 h2 k j e=>e.elim (λe=>h1 (e▸j)) (λe=>h2 (e▸j))
   refine⟨rfl,R,aF q R.size,FL,FM,Since FP w w',lb,mb,_,r,i.K5 (q p i.self.1) T.lt hM.2.1,d,T.B6 j (hd FL i.self.2.1 (λa0=>i.lp n a0 A)),hM.B6 j (hd FM i.self.2.2.1 (λa0=>i.mp n a0 A)),?_⟩;exact z w' _ (az (m+1)) j (λk hg hF=>hg.elim (λe=>absurd (e▸hF) i.self.2.2.2) (λe=>e▸o)) ⟨n,rfl,Q,N o⟩
end
section
structure pY(x:Ps)(n:Nat):Prop where
 many:∀m,az m∈x.pile->m<=n
 len:x.pile.length<=1048576
section
variable {F FL FM FP:Nat->Prop} {w w':J} {p lb mb:Nat} {x y:Ps} {s:LS} {toks:List Tok} {pileV:V} {vals:List V}
theorem kN(b:∀k,F k->k<w.heap.size)(a:j6 F p FL FM FP)(i:w.heap[p]?=I (Y (dJ x lb mb pileV) 136 (0,0)))(f:lC FL w lb toks s)(g:eH FP w pileV x.pile vals)(c:Keeps FM w w')(j:∀k,FM k->k<w.heap.size){items:List Tr}(d:cI (Since FM w w') w' mb items):
 Keeps F w w'/\aG (Since F w w') w' p {x with items:=items} s toks:=
 ⟨c.A6 a.maker,aF b c.size,FL,Since FM w w',FP,lb,mb,pileV,vals,a.P1 (b p a.self.1) f.lt g.lt,c.C4 i a.self.2.2.1,f.B6 c a.lm,d,g.A0 c λk h e=>a.mp k e h⟩
end
theorem aG.F8{F:Nat->Prop}{w w1 w2:J}{p:Nat}{x:Ps}{s:LS}{toks:List Tok}(h:aG (Since (Since F w w1) w1 w2) w2 p x s toks)(g:w.heap.size<=w1.heap.size)(f:w1.heap.size<=w2.heap.size)(e:∀k,F k->k<w.heap.size):aG (Since F w w2) w2 p x s toks:=by
 obtain⟨_,i,u,q,r,n,b,c,a,l,o,j,t⟩:=h;have d:∀k,Since (Since F w w1) w1 w2 k->Since F w w2 k:=λk m=>m.B9 g f
 exact⟨aF e (bw g f),i,u,q,r,n,b,c,⟨λk h=>d k (a.lex k h),λk h=>d k (a.maker k h),λk h=>d k (a.pile k h),⟨d p a.self.1,a.self.2⟩,a.lm,a.lp,a.mp⟩,l,o,j,t⟩
theorem aEC(F:Nat->Prop)(w:J)(p:Nat)(x:Ps)(s:LS)(toks:List Tok)(b:Nat)(i:gM b)(q:aG F w p x s toks)(c:pY x 1073741824)(j:x.items.length<=1048576):
 E K 114 #[Z (I ⟨p,0,U⟩),ai 107 (au av b)] w λe w'=>e=ag (ac #[])/\Keeps F w w'/\aG (Since F w w') w' p (ar {x with items:=iO x.items b}) s toks:=by
 have r:∀w:J,(bm (ai 107 (au av b)) 39 102 ae).run K w=.ok (ac #[.agg #[],ah aj]) w:=λ_=>by kernel_rfl
 have t:∀w:J,(bm (ai 107 (au av b)) 39 104 ae).run K w=.ok (ac #[ah aj,ah aj]) w:=λ_=>by kernel_rfl
 have u:∀w:J,(bm (ai 107 (au av b)) 39 107 ae).run K w=.ok (ac #[au av b,ah ae]) w:=λ_=>by kernel_rfl
 obtain⟨a,P,y,Q,R,z,k,o,h,f,m,g,n⟩:=q;obtain⟨-,-,-,A,-,-,-,-,-,-,-⟩:=bX f;have B:=L ((aF1 y w z x.items b i g j).mono (R':=λe w1=>(∃v,e=ag v)/\Keeps F w w1/\aG (Since F w w1) w1 p {x with items:=iO x.items b} s toks) λe w1 ⟨C,D,G⟩=>⟨C,kN a h f m n D g.2.1 G⟩);have d:=L (λw1(q:aG (Since F w w1) w1 p {x with items:=iO x.items b} s toks)=>oS (Since F w w1) w1 p _ s toks q c.many c.len);have l:=L a;clear a h f m g n;go_enter func114,ntmps114;go_wp2_with fail;refine(B.o).mono ?_;rintro e w1 ⟨⟨v,rfl⟩,a,f⟩;have g:=L a;have m:=L (d.o w1 f);clear a f A;go_wp2_with fail;refine(m.o).mono ?_;rintro e w2 ⟨rfl,a,f⟩;have h:=L a;have n:=L f;clear a f;go_wp2_with fail
 go_end0
 exact⟨rfl,g.o.B7 h.o,n.o.F8 g.o.size h.o.size l.o⟩
theorem aED(F:Nat->Prop)(w:J)(p:Nat)(x:Ps)(s:LS)(toks:List Tok)(a b:Nat)(l:List UInt8)(hr:aT l=ae)(hl:l.length<=1073741824)(h:aG F w p x s toks)(A:pY x 1073741824)(B:x.items.length<=1048576)(C:x.bytes<=1073741824)(hw:x.want≠2/\x.want≠3):
 E K 113 #[Z (I ⟨p,0,U⟩),.agg #[O S a,O S b,H ⟨l.toArray⟩]] w λe w'=>cH e/\dH F w p s toks (x.F7 a l) e w':=by
 have D:x.F7 a l=(x.F4 l a).map λp=>ar {p with items:=gC p.items l}:=by unfold Ps.F7;rw[if_pos hw]
 rw[D];have r:Keeps (λ_=>False) w (w.alloc (Y #[O S a,O S b,H ⟨l.toArray⟩] 241)):=(bx _ w).A4 _;have t:=h.lt;have f:=h.M8;have T:=h.B6 r (λ_ _=>id);have e2:((x.want:Int)!=2)=ae:=by simp;omega
 have e3:((x.want:Int)!=3)=ae:=by simp;omega
 have j:=L (aAe F _ p x s toks l a T C hl);have P:=L r;have HLT:=L t;have hB:¬F w.heap.size:=λhf=>absurd (t _ hf) (Nat.lt_irrefl _)
 have hc5:(w.alloc (Y #[O S a,O S b,H ⟨l.toArray⟩] 241)).cell? ⟨p,5,U⟩=I (O S x.want):=by
  obtain⟨_,FL,FM,FP,lb,mb,m,y,-,Q,-,-,-⟩:=T;rw[aA Q];rfl
 have hf5:∀o,(w.alloc (Y #[O S a,O S b,H ⟨l.toArray⟩] 241)).frozen? ⟨p,o,U⟩=aj:=by
  obtain⟨_,FL,FM,FP,lb,mb,m,y,-,Q,-,-,-⟩:=T;exact free_at Q
 have c:=heap_alloc_new w (Y #[O S a,O S b,H ⟨l.toArray⟩] 241);have HB:=L hB;have z:=L c;have b0:(w.alloc (Y #[O S a,O S b,H ⟨l.toArray⟩] 241)).cell? ⟨w.heap.size,0,U⟩=I (O S a):=aA c;have b2:(w.alloc (Y #[O S a,O S b,H ⟨l.toArray⟩] 241)).cell? ⟨w.heap.size,2,U⟩=I (H ⟨l.toArray⟩):=aA c;have HR:=L hr;have HPO:=L A;have HIT:=L B;have HSF:=L f;obtain⟨sv,u⟩:∃sv:ByteArray,(⟨l.toArray⟩:ByteArray)=sv:=⟨_,rfl⟩;rw[u]at j P hc5 hf5 z b0 b2⊢;have HSV:=L u
 by_cases d:2097152<x.bytes+l.length
 .have n:x.F4 l a=.error (3,a):=by unfold bj;rw[if_pos d]
  rw[n]at j⊢;clear D r h T hw t hB c hr hl A B C f u n d;go_enter func113,ntmps113;go_wp2_with fail;refine(j.o).mono ?_;rintro e w2 ⟨-,i,g⟩;obtain⟨R,q⟩:=g;have HK:=L ((P.o.A6 (G:=F) (λ_ h=>h.elim)).B8 i);have HD:=L q;clear i q;have q:=L R;unfold bR at R;subst R;go_wp2_with fail;exact⟨rfl,W ⟨_,_,rfl⟩,HK.o,rfl,HD.o⟩
 .have n:x.F4 l a=.ok {x with bytes:=x.bytes+l.length}:=by unfold bj;rw[if_neg d]
  rw[n]at j⊢;have HBIG:=L d;clear D r h T hw t hB c hr hl A B C f u n d;go_enter func113,ntmps113;go_wp2_with fail;refine(j.o).mono ?_;rintro e w2 ⟨T,i,g⟩;obtain⟨R,A⟩:=g;subst R;have t:Keeps F w w2:=(P.o.A6 (G:=F) (λ_ h=>h.elim)).B8 i;have n:=i.C4 z.o HB.o;obtain⟨-,FL,FM,FP,lb,mb,m,y,q,Q,hL,hM,hP⟩:=A;obtain⟨-,-,-,d3,-,-,-,-,-,-,-⟩:=bX Q;have x2:w2.cell? ⟨w.heap.size,2,U⟩=I (H sv):=aA n;have u:=aDq FM w2.drew mb x.items l HR.o (by have:=HBIG.o;omega) (hM.B6 ((bx (λ_=>False) w2).A9) (λ_ _=>id)) HIT.o;rw[HSV.o]at u;have r:∀k,Since F w w2 k->k<w2.heap.size:=aF HLT.o t.size;have d:∀k,Since F (w.alloc (Y #[O S a,O S b,H sv] 241)) w2 k->Since F w w2 k:=λk h=>h.elim N (λh=>W ⟨bw (by simp) h.1,h.2⟩)
  have B:j6 (Since F w w2) p FL FM FP:=⟨λk h=>d k (q.lex k h),λk h=>d k (q.maker k h),λk h=>d k (q.pile k h),⟨N HSF.o,q.self.2⟩,q.lm,q.lp,q.mp⟩
  have HMT:=L (u.mono (R':=λe f=>(∃v,e=ag v)/\Keeps (Since F w w2) w2 f/\aG (Since (Since F w w2) w2 f) f p {x with bytes:=x.bytes+l.length,items:=gC x.items l} s toks) λe f ⟨R,c,hm3⟩=>by
   have C:Keeps FM w2 f:=⟨c.os,c.tape,c.output,c.size,c.block⟩;have:=kN (x:={x with bytes:=x.bytes+l.length}) r B Q hL hP C hM.2.1 hm3;exact⟨R,this⟩)
  have C:=L (λf(h:aG (Since (Since F w w2) w2 f) f p {x with bytes:=x.bytes+l.length,items:=gC x.items l} s toks)=>oS _ f p _ s toks h HPO.o.many HPO.o.len);have D:=L t;clear T i t n q Q hL hM hP u r d B b0 b2 hc5 hf5;go_wp2_with fail
  go_region_with (go_at_call 150;refine(HMT.o).mono ?_;rintro e f ⟨⟨v,rfl⟩,c,d⟩)
  all_goals
   have i:=L c;have r:=L (C.o f d);clear c d;go_wp2_with fail;refine(r.o).mono ?_;rintro e u ⟨rfl,c,d⟩;have n:=L c;have t:=L d;clear c d;go_wp2_with fail;refine bodyPost_ret (results_none rfl _ _ _) rfl ?_;have q:=D.o.B7 i.o;have d:∀k,Since (Since F w w2) w2 f k->Since F w f k:=λk h=>h.B9 D.o.size i.o.size
   have c:Keeps F w u:=q.B7 (n.o.A6 d);exact⟨N rfl,c,rfl,t.o.A6 (λk h=>Since.B9 (F:=F) (w:=w) (w1:=f) (w2:=u) (h.elim (λh=>N (d k h)) W) q.size n.o.size) (aF HLT.o c.size)⟩
end
end Go.Proofs.YtakkmiomhackiaaGreatDoor
