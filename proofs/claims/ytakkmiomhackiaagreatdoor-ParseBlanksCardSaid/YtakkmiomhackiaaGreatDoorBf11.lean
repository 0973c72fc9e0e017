/-
  The program, one part of its walk. Conditions: none.
-/
import Derived.Test.YtakkmiomhackiaaGreatDoorBf10
set_option linter.all false
set_option maxRecDepth 100000
set_option maxHeartbeats 16000000
open Go.Proofs.Tryz
open Bool renaming true->av
open Go renaming Addr->ao,Calls->ae,Value->T,World->H,below_drewN->cj,bodyPost_ret->ar,cell_of_one->h,free_of_one->bc,heap_alloc_new->ba,info_parts->eo,lt_of_block->fc,maxLen->aj,results->au
open Go.Ending renaming returned->aw
open Go.IntKind renaming i64->S,u64->bu,wrap_i64->ak,wrap_u64->fh
open Go.Obj renaming cells->U
open Go.Proofs renaming intOf->ac
open Go.Proofs.Tryz renaming func187->dp,func201->di,ntmps187->dq,ntmps201->dj,prog->E,results199->cv,underlying50->em
open Go.Proofs.YtakkmiomhackiaaGreatDoor.Keeps renaming A0->dy
open Go.Proofs.YtakkmiomhackiaaGreatDoor.Row renaming A7->bw,nil->cw
open Go.Proofs.YtakkmiomhackiaaGreatDoor.Tr renaming object->fg
open Go.RowKit renaming Below->Z
open Go.RowKit.Below renaming heap_alloc->dt,refl->Q
open Go.Value renaming agg->C,int->V,pointer->dx,slice->I
open Go.World renaming block_lt_of_cell?->fa,cell?_alloc_lt->ep
open Int renaming natCast_zero->dh
open List renaming drop_eq_nil_of_le->du,getD->af,getElem?_eq_getElem->bz,getElem?_eq_none->cz,getLast?_cons_cons->ej,length_cons->ck,length_take->cr,mem_of_mem_take->ei,replicate->bx
open Nat renaming add_zero->ez,div_div_eq_div_mul->cu,div_eq_of_lt->ev,div_le_div_right->et,eq_zero_or_pos->co,le_mul_of_pos_right->fe,le_of_not_lt->dl,le_refl->G,le_trans->bh,lt_of_le_of_lt->cg,lt_of_lt_of_le->ek,lt_or_ge->dm,lt_trichotomy->eu,min_eq_left->ct,mod_lt->eh,mul_add->bj,mul_assoc->ai,mul_comm->bm,mul_le_mul_left->ew,pow_add->dv,pow_le_pow_right->bp,pow_pos->dw,pow_succ->ah,strongRecOn->ee,zero_le->ag
open Option renaming none->O,some->J
open Or renaming inr->bk
namespace Go.Proofs.YtakkmiomhackiaaGreatDoor
open Go.RowKit
def m4{c d:UInt8}(a hi:Nat)(e:128<=a)(b:hi<=191)(g:128<=d.toNat->d.toNat<=191->(aJ c d=av<->a<=d.toNat/\d.toNat<=hi)):aJ c d=(decide (a<=d.toNat)&&decide (d.toNat<=hi)):=by
 by_cases i:d.toNat<128\/191<d.toNat
 .have:aJ c d=false:=by unfold aJ;rw[if_pos i]
  rw[this];symm;rw[Bool.and_eq_false_iff];simp only[decide_eq_false_iff_not];omega
 .have f:=g (by omega) (by omega);rw[Bool.eq_iff_iff,f];simp
def aEZ{c d:UInt8}(m:1<(aC c).a):aJ c d=(aC c).B9 1 d:=by
 have l:∀f:Form,f.B9 1 d=(decide (f.low<=d.toNat)&&decide (d.toNat<=f.h)):=λf=>by unfold Form.B9;rw[if_pos rfl]
 rw[l];rcases uA c (by omega)with⟨-,g⟩|⟨j,g,e⟩|⟨j,g,e⟩|⟨j,g,e⟩
 .omega
 .rw[e];refine m4 128 191 (by omega) (by omega) λk i=>?_
  unfold aJ;rw[if_neg (by omega),if_neg (by omega),if_neg (by omega),if_neg (by omega),if_neg (by omega)];simp;omega
 .rw[e];simp only;refine m4 _ _ (by split<;>omega) (by split<;>omega) λk i=>?_
  unfold aJ;rw[if_neg (by omega)]
  by_cases a:c.toNat=224
  .rw[if_pos a,if_pos a,if_neg (by omega)];simp;omega
  .rw[if_neg a,if_neg a]
   by_cases b:c.toNat=237
   .rw[if_pos b,if_pos b];simp;omega
   .rw[if_neg b,if_neg b,if_neg (by omega),if_neg (by omega)];simp;omega
 .rw[e];simp only;refine m4 _ _ (by split<;>omega) (by split<;>omega) λk i=>?_
  unfold aJ;rw[if_neg (by omega),if_neg (by omega),if_neg (by omega)]
  by_cases a:c.toNat=240
  .rw[if_pos a,if_pos a,if_neg (by omega)];simp;omega
  .rw[if_neg a,if_neg a]
   by_cases b:c.toNat=244
   .rw[if_pos b,if_pos b];simp;omega
   .rw[if_neg b,if_neg b];simp;omega
end Go.Proofs.YtakkmiomhackiaaGreatDoor
namespace Go.Proofs.YtakkmiomhackiaaGreatDoor.Fig
def val:List Nat->Nat
 | []=>0
 | x::a=>x+10000*val a
def figs(n:Nat):List Nat:=if a:n=0 then []else n%10000::figs (n/10000)
termination_by n
decreasing_by omega
def figs_zero:figs 0= []:=by rw[figs];simp
def figs_pos{n:Nat}(a:n≠0):figs n=n%10000::figs (n/10000):=by rw[figs];simp[a]
def val_figs(n:Nat):val (figs n)=n:=by
 induction n using ee with
 | ind n a=>
  by_cases b:n=0
  .subst b;rw[figs_zero];rfl
  .rw[figs_pos b];simp only[val];rw[a (n/10000) (by omega)];omega
def Small(l:List Nat):Prop:=∀x∈l,x<10000
def small_figs(n:Nat):Small (figs n):=by
 induction n using ee with
 | ind n b=>
  by_cases c:n=0
  .subst c;rw[figs_zero];intro x a;cases a
  .rw[figs_pos c];intro x a;rcases List.mem_cons.1 a with rfl|a
   .exact eh _ (by decide)
   .exact b (n/10000) (by omega) x a
def small_cons{x:Nat}{l:List Nat}:Small (x::l)<->x<10000/\Small l:=by
 unfold Small;simp
def small_take{l:List Nat}(b:Small l)(n:Nat):Small (l.take n):=λx a=>b x (ei a)
def val_append(a b:List Nat):val (a++b)=val a+10000^a.length*val b:=by
 induction a with
 | nil=>simp[val]
 | cons x a c=>simp only[List.cons_append,val,c,ck,ah];rw[bj,<-ai,bm 10000 (10000^a.length)];omega
def val_lt{l:List Nat}(d:Small l):val l<10000^l.length:=by
 induction l with
 | nil=>simp[val]
 | cons x l a=>
  obtain⟨c,b⟩:=small_cons.1 d;have:=a b;simp only[val,ck,ah]
  omega
def figs_val{l:List Nat}(n:Small l)(c:l.getLast?≠J 0):figs (val l)=l:=by
 induction l with
 | nil=>exact figs_zero
 | cons x l d=>
  obtain⟨m,e⟩:=small_cons.1 n;have k:(x+10000*val l)/10000=val l:=by omega
  have i:(x+10000*val l)%10000=x:=by omega
  have g:x+10000*val l≠0:=by
   intro g;have b:x=0:=by omega
   have a:val l=0:=by omega
   cases l with
   | nil=>subst b;exact c rfl
   | cons y j=>
    have f:=d e (by simpa[ej]using c);rw[a,figs_zero]at f;cases f
  simp only[val];rw[figs_pos g,k,i];cases l with
  | nil=>simp[val,figs_zero]
  | cons y j=>rw[d e (by simpa[ej]using c)]
def figs_take{l:List Nat}(p:Small l){k:Nat}(d:k<=l.length)(n:∀i,k<=i->l.getD i 0=0)(a:k=0\/l.getD (k-1) 0≠0):
 figs (val l)=l.take k:=by
 have f:val l=val (l.take k):=by
  have e:=val_append (l.take k) (l.drop k);rw[List.take_append_drop]at e
  have j:val (l.drop k)=0:=by
   have:∀m:List Nat,(∀i,m.getD i 0=0)->val m=0:=by
    intro m;induction m with
    | nil=>intro _;rfl
    | cons y m g=>intro c;simp only[val];rw[g (λi=>by simpa using c (i+1))];have:=c 0;simp at this;omega
   refine this _ (λi=>?_);have:=n (k+i) (by omega)
   simpa[af,List.getElem?_drop]using this
  rw[j]at e;simpa using e
 rw[f];refine figs_val (small_take p k) ?_;rcases a with rfl|a
 .simp
 .intro b;rcases co k with rfl|o
  .simp at b
  .rw[List.getLast?_eq_getElem?,cr,ct d,List.getElem?_take,if_pos (by omega)]at b;exact a (by simp[af,b])
def figs_length_le{n k:Nat}(c:n<10000^k):(figs n).length<=k:=by
 induction k generalizing n with
 | zero => have : n = 0 := by simpa using c
           subst this;simp[figs_zero]
 | succ k b=>
  by_cases a:n=0
  .subst a;simp[figs_zero]
  .rw[figs_pos a];simp only[ck];have:=b (n:=n/10000) (by rw[ah]at c;exact Nat.div_lt_of_lt_mul (by rw[bm];exact c));omega
def lt_of_figs_length{n k:Nat}(a:(figs n).length<=k):n<10000^k:=by
 have:=val_lt (small_figs n);rw[val_figs]at this;exact ek this (bp (by decide) a)
def figs_getD(n i:Nat):(figs n).getD i 0=n/10000^i%10000:=by
 induction i generalizing n with
 | zero=>
  by_cases b:n=0
  .subst b;simp[figs_zero]
  .rw[figs_pos b];simp
 | succ i a=>
  by_cases b:n=0
  .subst b;simp[figs_zero]
  .rw[figs_pos b];have:(n%10000::figs (n/10000)).getD (i+1) 0=(figs (n/10000)).getD i 0:=by simp[af]
   rw[this,a,cu,ah,bm 10000]
end Go.Proofs.YtakkmiomhackiaaGreatDoor.Fig
namespace Go.Proofs.YtakkmiomhackiaaGreatDoor
open Go.RowKit
abbrev encI(x:Nat):T:=V S x
def Fgs(w:H)(v:T)(l:List Nat):Prop:=Row 0 3 encI w v l
def aCZ:Elem 50 3 8:=⟨em,by
 have e:(E.info? 3).map (λi=>(i.zero,i.size,i.bytes))=J (J (V S 0),1,8):=by kernel_rfl
 obtain⟨i,c,a,d,b⟩:=eo e;exact⟨i,_,c,a,d,b,rfl⟩⟩
def aL4:aIS 50 3 8 (encI 0):=⟨em,by
 have e:(E.info? 3).map (λi=>(i.zero,i.size,i.bytes))=J (J (V S 0),1,8):=by kernel_rfl
 obtain⟨i,c,a,d,b⟩:=eo e;exact⟨i,c,a,d,b,rfl⟩⟩
def Fgs.A4{w w':H}{v:T}{l:List Nat}(b:Fgs w v l)(a:Z w w w'):Fgs w' v l:=Row.A4 b a
def Fgs.A6{w:H}{v:T}{l:List Nat}(a:Fgs w v l)(o:Obj):Fgs (w.alloc o) v l:=Row.A6 a o
def Fgs.B0{w:H}{v:T}{l:List Nat}(a:Fgs w v l):Fgs w.drew v l:=a
def Fgs.B5{w:H}{v:T}{l:List Nat}(e:Fgs w v l){b:Nat}{c:Array T}{f:TypeId}(d:w.heap[b]?=J (U c f (0,0)))(a:f≠3)(o:Nat)(u:T):Fgs (w.setCell ⟨b,o,O⟩ u) v l:=Row.B5 e d a o u
def Fgs.B6{w:H}{v:T}{l:List Nat}(f:Fgs w v l):(v=I O 0 0/\l= [])\/
 ∃g cap,v=I (J ⟨g,0,O⟩) l.length cap/\g<w.heap.size/\l.length<=cap/\cap<=aj/\∀i,i<l.length->w.cell? ⟨g,i,O⟩=J (V S (l.getD i 0:Nat)):=by
 rcases Row.B6 f with f|⟨g,cap,c,_,d,e,b,_,a⟩
 .exact .inl f
 .exact bk ⟨g,cap,c,d,e,b,λi hi=>a i _ (by rw[af,bz hi];rfl)⟩
def qR(w:H)(n:Nat)(e:Ending)(w':H):Prop:=∃a k c,e=aw (C #[I a k c])/\Fgs w' (I a k c) (Fig.figs n)/\Z w w w'
def aHx(B:Nat)(v:T)(l:List Nat)(w:H)(F:Fig.Small l)(P:Row B 3 encI w v l):ae E 199 #[v] w λe w'=>
 ∃a k c,e=aw (C #[I a k c])/\Row B 3 encI w' (I a k c) (Fig.figs (Fig.val l))/\Z w w w':=by
 rcases Fgs.B6 (P.D6 (ag _))with⟨rfl,rfl⟩|⟨g,cap,rfl,y,N,L,b⟩
 .go_enter func199,ntmps199;go_wp2;refine wp_loop_rounds 1 ?_;rw[rounds_succ];go_wp2;refine ar (v:=C #[()]) (by simp[au,cv,go_sem]) rfl ⟨_,_,_,rfl,?_,?_⟩
  .simp only[Fig.val,Fig.figs_zero];exact cw _ _ _ _
  .exact(Q _ _).alloc (G _) _
 .have r:l.length<=9223372036854775807:=by unfold aj at L;omega
  go_enter func199,ntmps199;go_wp2
  go_loop [3] (λn=>∃k:Nat,k<=l.length/\n=V S k/\∀i,k<=i->l.getD i 0=0) (λn=>(ac n).toNat)
  case atStart=>exact⟨l.length,G _,rfl,λi hi=>by simp[af,cz hi]⟩
  case round=>
   obtain⟨k,o,rfl,s⟩:=hrel;have t:=A s;clear s
   have d:∀m,m<=l.length->m=k->(k=0\/l.getD (k-1) 0≠0)->Row B 3 encI w (I g m cap) (Fig.figs (Fig.val l)):=by
    intro m z e D;subst e;rw[Fig.figs_take F o t.o D];exact P.take o
   have j:=A d;clear d
   by_cases p:k=0
   .subst p;simp only[dh]at*;go_wp2;refine ar (v:=C #[I g 0 cap]) (by simp[au,cv,go_sem]) rfl ⟨_,_,_,rfl,?_,?_⟩
    .exact(j.o 0 (by omega) rfl (by simp)).A4 ((Q _ _).alloc (G _) _)
    .exact(Q _ _).alloc (G _) _
   .have u:(w.alloc (U #[()] 324)).cell? ⟨g,k-1,O⟩=J (V S (l.getD (k-1) 0:Nat)):=by
     rw[ep _ _ ⟨g,k-1,O⟩ (by simpa using y)];exact b _ (by omega)
    generalize K:l.getD (k-1) 0=x at*
    by_cases f:x=0
    .subst f;go_wp2
     refine ⟨⟨k - 1, by omega, by have : ((k - 1 : Nat) : Int) = (k : Int) - 1 := by omega
                                  rw[this],λi hi=>?_⟩,by simp[ac];omega⟩
     by_cases q:i=k-1
     .subst q;exact K
     .exact t.o i (by omega)
    .go_wp2;refine ar (v:=C #[I g k cap]) (by simp[au,cv,go_sem]) rfl ⟨_,_,_,rfl,?_,?_⟩
     .exact(j.o k o rfl (bk f)).A4 ((Q _ _).alloc (G _) _)
     .exact(Q _ _).alloc (G _) _
def aC0(v:T)(l:List Nat)(w:H)(a:Fig.Small l)(b:Fgs w v l):ae E 199 #[v] w λe w'=>qR w (Fig.val l) e w':=aHx 0 v l w a b
def aHy(a:Option ao)(k c:Nat)(l:List Nat)(i:Nat)(w:H)(t:Fgs w (I a k c) l):ae E 201 #[C #[I a k c],i] w λe w'=>e=aw (V S (l.getD i 0:Nat))/\Z w w w':=by
 rcases t.B6 with⟨n,rfl⟩|⟨g,cap,n,p,s,r,b⟩
 .injection n with j d m
  subst j d m;have hi:¬(i:Int)<0:=by omega
  go_enter di,dj;go_wp2;go_ret;exact⟨by simp,(Q _ _).alloc (G _) _⟩
 .injection n with j d m
  subst j d m
  by_cases hi:i<l.length
  .have f:(i:Int)<(l.length:Int):=by omega
   have o:(w.alloc (U #[I g l.length c] 324)).cell? ⟨g,i,O⟩=J (V S (l.getD i 0:Nat)):=by
    rw[ep _ _ ⟨g,i,O⟩ (by simpa using p)];exact b _ hi
   generalize l.getD i 0=x at*;clear b;go_enter di,dj;go_wp2;go_ret;exact⟨rfl,(Q _ _).alloc (G _) _⟩
  .have f:¬(i:Int)<(l.length:Int):=by omega
   have q:l.getD i 0=0:=by simp[af,cz (dl hi)]
   rw[q];clear b;go_enter di,dj;go_wp2;go_ret;exact⟨rfl,(Q _ _).alloc (G _) _⟩
def sM(x:Nat)(w:H)(s:x<18446744073709551616):ae E 183 #[V bu x] w λe w'=>qR w x e w':=by
 have d:(Fig.figs x).length<=5:=Fig.figs_length_le (ek s (by decide));obtain⟨L,g⟩:∃L,Fig.figs x=L:=⟨_,rfl⟩;rw[g]at d;have t:=A g;have o:=A d;clear g d;go_enter func183,ntmps183;go_wp2
 go_loopw [0,3] (λn f wr=>∃(m:Nat)(r:List Nat),n=V bu m/\m<18446744073709551616/\M (r++Fig.figs m=L)/\Row (w.heap.size+1) 3 encI wr f r/\Z (w.heap.size+1) (w.alloc (U #[()] 324)) wr) (λn _ _=>(ac n).toNat)
 case atStart=>exact⟨x,[],rfl,s,A (by rw[t.o];rfl),cw _ _ _ _,Q _ _⟩
 case round=>
  obtain⟨m,r,rfl,B,j,d,g⟩:=hrel;have y:w.heap.size+1<=wr.heap.size:=by simpa using g.size
  rcases co m with rfl|D
  .have q:r=L:=by have:=j.o;rwa[Fig.figs_zero,List.append_nil]at this
   subst q;have i:wr.heap[w.heap.size]?=J (U #[()] 324 (0,0)):=(g.block _ (by omega)).trans (ba w _);have l:Z w w wr:=((Q _ _).alloc (G _) _).trans (g.mono (by omega));obtain⟨a,c,rfl⟩:=d.A7;have p:=h i;have u:=bc i;have z:=A d;clear d j;simp only[dh];go_wp2;refine ar (v:=C #[I a r.length c]) (by simp[au,results183,go_sem,p]) rfl ⟨a,_,c,rfl,?_,l.setCell (G _) _⟩;rw[t.o];exact(z.o.D6 (ag _)).B5 i (by decide) _ _
  .have i:=Fig.figs_pos (n:=m) (by omega);have l:=j.o;rw[i]at l;have u:r.length+1<=5:=by have:=congrArg List.length l;simp at this;have:=o.o;omega
   have p:=A (show(r++ [m%10000])++Fig.figs (m/10000)=L by rw[<-l];simp);have F:S.wrap ((m:Int)%10000)=((m%10000:Nat):Int):=by rw[ak];omega
   have K:m/10000<m:=by omega
   clear l i j
   go_wp2_with (at_builtin;refine cV aCZ rfl _ _ rfl rfl (d.A6 _) ⟨wr.heap.size,0,O⟩ 1 (m%10000) rfl ?_ rfl ?_ ?_ ?_ ?_)
   .simp
   .omega
   .unfold aj;omega
   .simp;omega
   intro b cap N j i;have l:=(g.alloc (by omega) (U #[V S ((m%10000:Nat):Int)] 3)).grown i (by simp;omega) (λk z=>by have:=d.lt k z;omega);have q:=A j;clear j i d;go_wp2
   go_roundw
   case rel=>exact⟨m/10000,r++ [m%10000],by go_num,by omega,p,q.o,l⟩
   case measure=>simp[ac];omega
def aJE{n m k:Nat}(c:n/10000^(k+1)=m/10000^(k+1)):
 (n/10000^k%10000<m/10000^k%10000->n<m)/\(m/10000^k%10000<n/10000^k%10000->m<n)/\
 (n/10000^k%10000=m/10000^k%10000->n/10000^k=m/10000^k):=by
 rw[ah,<-cu,<-cu]at c;have a1:m<=n->m/10000^k<=n/10000^k:=λc=>et c
 have a2:n<=m->n/10000^k<=m/10000^k:=λc=>et c
 generalize n/10000^k=N at*;generalize m/10000^k=d at*;refine⟨λb=>?_,λb=>?_,λb=>by omega⟩
 .rcases dm n m with a|a
  .exact a
  .have:=a1 a;omega
 .rcases dm m n with a|a
  .exact a
  .have:=a2 a;omega
def sN{n m:Nat}(c:(Fig.figs n).length<(Fig.figs m).length):n<m:=by
 refine Nat.lt_of_not_le λa=>?_
 have b:=Fig.figs_length_le (cg a (Fig.lt_of_figs_length (G _)));omega
def xU(a r:Option ao)(k X c t n m:Nat)(w:H)(W:Fgs w (I a k c) (Fig.figs n))(u:Fgs w (I r X t) (Fig.figs m)):
 ae E 187 #[C #[I a k c],C #[I r X t]] w λe w'=>e=aw (V S (gG n m))/\Z w w w':=by
 obtain⟨va,vc,o⟩:=bw W;injection o with d f B
 subst d f B;obtain⟨g8,g9,o⟩:=bw u;injection o with d f B
 subst d f B;have p:Z w w ((w.alloc (U #[I a (Fig.figs n).length c] 324)).alloc (U #[I r (Fig.figs m).length t] 324)):=((Q _ _).alloc (G _) _).alloc (by simp) _;rcases eu (Fig.figs n).length (Fig.figs m).length with K|q|N
 .have P:gG n m= -1:=by have:=sN K;unfold gG;rw[if_pos this]
  rw[P];generalize (Fig.figs n).length=L at*;generalize (Fig.figs m).length=s at*;have b1:((L:Int)!=(s:Int))=av:=by simp;omega
  have b3:(L:Int)<(s:Int):=by omega
  clear W u;go_enter dp,dq;go_wp2;go_ret;exact⟨rfl,p⟩
 .have F:n/10000^(Fig.figs n).length=m/10000^(Fig.figs n).length:=by
   rw[ev (Fig.lt_of_figs_length (G _)),ev (Fig.lt_of_figs_length (by omega))]
  have Y:∀D,Z w w D->∀i,i<(Fig.figs n).length->∃g v,a=J ⟨g,0,O⟩/\r=J ⟨v,0,O⟩/\D.cell? ⟨g,i,O⟩=J (V S ((n/10000^i%10000:Nat):Int))/\D.cell? ⟨v,i,O⟩=J (V S ((m/10000^i%10000:Nat):Int)):=by
   intro D R i hi;rcases(W.A4 R).B6 with⟨_,o⟩|⟨g,cap,o,_,_,_,hc⟩
   .rw[o]at hi;simp at hi
   .rcases(u.A4 R).B6 with⟨_,b⟩|⟨v,g7,b,_,_,_,l⟩
    .rw[q,b]at hi;simp at hi
    .injection o with d f B
     injection b with z h2' h3'
     exact⟨g,v,d,z,by rw[hc i hi,Fig.figs_getD],by rw[l i (q▸hi),Fig.figs_getD]⟩
  have HX:=A Y;have HZ:=A F
  have R:(Fig.figs n).length<=aj:=by
   rcases W.B6 with⟨_,o⟩|⟨g,cap,_,_,d,f,_⟩
   .rw[o];simp
   .omega
  clear W u Y F;generalize (Fig.figs m).length=s at*;subst q;generalize (Fig.figs n).length=L at*;unfold aj at R
  have e0:S.wrap ((L:Int)-1)=(L:Int)-1:=by rw[ak];omega
  go_enter dp,dq;go_wp2
  go_loopw [5] (λi wr=>∃(k:Nat),k<=L/\i=V S ((k:Int)-1)/\M (n/10000^k=m/10000^k)/\Z w w wr/\wr.heap[w.heap.size]?=J (U #[I a L c] 324 (0,0))/\wr.heap[w.heap.size+1]?=J (U #[I r L t] 324 (0,0))) (λi _=>(ac i+1).toNat)
  case atStart=>exact⟨L,G _,rfl,HZ,p,(dt _ _ _ (by simp)).trans (ba w _),by simpa using ba (w.alloc (U #[I a L c] 324)) (U #[I r L t] 324)⟩
  case round=>
   obtain⟨k,hk,rfl,F,b,g1,Y⟩:=hrel;have k1:=h g1;have k2:=h Y;rcases co k with rfl|g7
   .have d:gG n m=0:=by have:=F.o;simp at this;subst this;simp[gG]
    have z:=A d;clear d F;go_wp2;go_ret;rw[z.o];exact⟨rfl,b⟩
   .obtain⟨j,rfl⟩:∃j,k=j+1:=⟨k-1,by omega⟩;have e1:((j+1:Nat):Int)-1=(j:Int):=by omega
    rw[e1];obtain⟨g,v,rfl,rfl,h0,h4⟩:=HX.o _ b j (by omega);have f:=aJE F.o;have h5:(j:Int)<(L:Int):=by omega
    have e2:S.wrap ((j:Int)-1)=(j:Int)-1:=by rw[ak];omega
    generalize n/10000^j%10000=x at*;generalize m/10000^j%10000=y at*;have l:=A f;clear f F e1;rcases eu x y with f|f|f
    .have d:gG n m= -1:=by unfold gG;rw[if_pos (l.o.1 f)]
     have z:=A d;have F:(x:Int)<(y:Int):=by omega
     clear d;go_wp2
     go_quiet (fail)
     go_wp2;go_ret;rw[z.o];exact⟨rfl,cj b _⟩
    .subst f;have HE:=A (l.o.2.2 rfl);have F:¬(x:Int)<(x:Int):=by omega
     clear l;go_wp2
     go_quiet (fail)
     go_wp2
     go_quiet (fail)
     go_wp2
     go_roundw
     case rel=>exact⟨j,by omega,rfl,HE,cj b _,g1,Y⟩
     case measure=>simp[ac]
    .have d:gG n m=1:=by unfold gG;rw[if_neg (by have:=l.o.2.1 f;omega),if_neg (by have:=l.o.2.1 f;omega)]
     have z:=A d;have F:¬(x:Int)<(y:Int):=by omega
     have q2:(y:Int)<(x:Int):=by omega
     clear d;go_wp2
     go_quiet (fail)
     go_wp2
     go_quiet (fail)
     go_wp2;go_ret;rw[z.o];exact⟨rfl,cj (cj b _) _⟩
 .have P:gG n m=1:=by have:=sN N;unfold gG;rw[if_neg (by omega),if_neg (by omega)]
  rw[P];generalize (Fig.figs n).length=L at*;generalize (Fig.figs m).length=s at*;have b1:((L:Int)!=(s:Int))=av:=by simp;omega
  have b3:¬(L:Int)<(s:Int):=by omega
  clear W u;go_enter dp,dq;go_wp2;go_ret;exact⟨rfl,p⟩
def aJF{l:List Nat}{p:Nat}(a:p<l.length)(y:Nat):Fig.val (l.set p y)+10000^p*l.getD p 0=Fig.val l+10000^p*y:=by
 induction l generalizing p with
 | nil=>simp at a
 | cons x l b=>
  cases p with
  | zero=>simp[Fig.val];omega
  | succ p=>
   have:=b (p:=p) (by simpa using a);simp only[List.set_cons_succ,Fig.val,ah];have e:(x::l).getD (p+1) 0=l.getD p 0:=by simp[af]
   rw[e];have d:10000^p*10000*l.getD p 0=10000*(10000^p*l.getD p 0):=by rw[bm (10000^p),ai]
   have c:10000^p*10000*y=10000*(10000^p*y):=by rw[bm (10000^p),ai]
   rw[d,c];omega
def aLe{l:List Nat}(d:Fig.Small l)(p:Nat){y:Nat}(b:y<10000):Fig.Small (l.set p y):=λx c=>by
 rcases List.mem_or_eq_of_mem_set c with a|a
 .exact d x a
 .subst a;exact b
def xV{l:List Nat}(b:Fig.Small l)(i:Nat):l.getD i 0<10000:=by
 rw[af];cases a:l[i]? with
 | none=>decide
 | some x=>exact b x (List.mem_of_getElem? a)
def aJG{l:List Nat}{i:Nat}(a:i<l.length):l[i]?=J (l.getD i 0):=by rw[af,bz a];rfl
def aJH(l:List Nat)(k:Nat):Fig.val (l.drop k)=l.getD k 0+10000*Fig.val (l.drop (k+1)):=by
 rcases dm k l.length with a|a
 .rw[List.drop_eq_getElem_cons a,Fig.val,af,bz a];rfl
 .rw[du a,du (by omega),af,cz a];rfl
def aJI{l:List Nat}{j:Nat}(a:j<l.length):Fig.val (l.take (j+1))=Fig.val (l.take j)+10000^j*l.getD j 0:=by
 rw[List.take_succ_eq_append_getElem a,Fig.val_append,cr,ct (by omega),af,bz a];simp[Fig.val]
def aHz(n:Nat):Fig.val (bx n 0)=0:=by
 induction n with
 | zero=>rfl
 | succ n a=>rw[List.replicate_succ,Fig.val,a]
def aE0(n:Nat):Fig.Small (bx n 0):=λx a=>by rw[(List.mem_replicate.1 a).2];decide
def aHA{v a P c D x y o X R:Nat}(b:a+P*o=v+P*(X%10000))(f:v+P*c+P*(x*(y+10000*D))=R)(d:X=o+x*y+c):a+P*10000*(X/10000)+P*10000*(x*D)=R:=by
 have e:P*(X%10000)+P*(10000*(X/10000))=P*o+P*(x*y)+P*c:=by rw[<-bj,Nat.mod_add_div,d,bj,bj]
 rw[bj x,bj P,show x*(10000*D)=10000*(x*D)from Nat.mul_left_comm _ _ _]at f;rw[ai P,ai P];omega
def aJJ{v P c j k a R:Nat}(i:v+10000^(j+k)*c+P=R)(f:R<10000^(j+1+a))(b:0<c):k<=a:=by
 refine dl λd=>?_
 have g:10000^(j+1+a)<=10000^(j+k):=bp (by decide) (by omega);have e:10000^(j+k)*1<=10000^(j+k)*c:=ew _ b;omega
def j4(a a':Option ao)(k k' c c' n m:Nat)(w:H)(a1:Fgs w (I a k c) (Fig.figs n))(b:Fgs w (I a' k' c') (Fig.figs m))(hl:(Fig.figs n).length<=1048576)(m6:(Fig.figs m).length<=1048576):
 ae E 185 #[C #[I a k c],C #[I a' k' c']] w λe w'=>qR w (n*m) e w':=by
 obtain⟨va,vc,he⟩:=bw a1;injection he with u s t
 subst u s t;obtain⟨m7,m8,he⟩:=bw b;injection he with u s t
 subst u s t;have k7:=A a1.B6;have k8:=A (λK(hx:Z w w K)=>b.A4 hx);clear a1 b;have i3:=Fig.small_figs n;have h7:=Fig.small_figs m;have b:=Fig.val_figs n;have f:=Fig.val_figs m;generalize z:Fig.figs n=l at*;generalize r:Fig.figs m=d at*;have k9:=A b;have i4:=A f;clear z r b f;have r:Z w w (((w.alloc (U #[I a l.length c] 324)).alloc (U #[I a' d.length c'] 324)).alloc (U #[()] 324)):=(((Q _ _).alloc (G _) _).alloc (by simp) _).alloc (by simp;omega) _;have b:Z (((w.alloc (U #[I a l.length c] 324)).alloc (U #[I a' d.length c'] 324)).alloc (U #[()] 324)).heap.size (((w.alloc (U #[I a l.length c] 324)).alloc (U #[I a' d.length c'] 324)).alloc (U #[()] 324)) (((w.alloc (U #[I a l.length c] 324)).alloc (U #[I a' d.length c'] 324)).alloc (U #[()] 324)):=Q _ _;obtain⟨g1,f,z,_,_⟩:=tQ b;have G1:=A g1;have G2:=A f;have G3:=A z;clear g1 f z b;obtain⟨N,F⟩:∃N,l.length+d.length+1=N:=⟨_,rfl⟩;have z:S.wrap ((l.length:Int)+(d.length:Int))=(l.length:Int)+(d.length:Int):=by rw[ak];omega
 have D:S.wrap ((l.length:Int)+(d.length:Int)+1)=(N:Int):=by rw[ak];omega
 go_enter func185,ntmps185
 go_wp2_with (at_make;refine rO (B:=w.heap.size+3) (enc:=encI) 0 aL4 rfl _ _ rfl _ _ _ _ N N rfl rfl ?_ ?_ ?_ ?_ ?_ ?_ ?_)
 .first|rfl|omega
 .first|rfl|omega
 .omega
 .omega
 .unfold aj;omega
 .simp
 intro w1 f b;have i5:w.heap.size+3<=w1.heap.size:=by have:=b.size;simp at this;omega
 have h8:Z w w w1:=r.trans (b.mono (by omega));have i6:=A ((b.block _ (by omega)).trans G1.o);have l0:=A ((b.block _ (by omega)).trans G2.o);have l1:=A ((b.block _ (by omega)).trans G3.o);have HN:=A F;have i7:=A f;clear r b f F z D;obtain⟨a0,b⟩:∃a0,w.heap.size+1+1+1=a0:=⟨_,rfl⟩;have i8:w.heap.size+3<=a0:=by omega
 simp only[b]at i7⊢;clear b;go_wp2
 go_loopw [6] (λi wr=>∃(j:Nat)(r:List Nat),j<=l.length/\i=V S j/\Row (w.heap.size+3) 3 encI wr (I (J ⟨a0,0,O⟩) N N) r/\M (r.length=N)/\Fig.Small r/\M (Fig.val r=Fig.val (l.take j)*m)/\Z (w.heap.size+3) w1 wr) (λi _=>l.length-(ac i).toNat)
 case atStart=>exact⟨0,bx N 0,ag _,rfl,i7.o.D6 i8,A (by simp),aE0 N,A (by rw[aHz];simp[Fig.val]),Q _ _⟩
 case round=>
  obtain⟨j,r,hj,rfl,D,i9,j0,HV,f⟩:=hrel;obtain⟨wo,rfl⟩:∃wo:H,wo=wr:=⟨_,rfl⟩;have j1:=h ((f.block _ (by omega)).trans i6.o)
  by_cases h9:j<l.length
  .rcases k7.o with⟨_,hn⟩|⟨g,cap,he,hg,_,_,b⟩
   .subst hn;simp at h9
   .injection he with u s t
    have hx:=xV i3 j;have z:∀K,Z (w.heap.size+3) w1 K->K.cell? ⟨g,j,O⟩=J (V S (l.getD j 0:Nat)):=λK hb=>(hb.cell (by simp;omega)).trans ((h8.cell hg).trans (b j h9))
    subst u;clear b s t;have t:=aJI h9
    have F:Fig.val (l.take (j+1))*m<10000^(j+1+d.length):=by
     have u:=Fig.val_lt (l:=l.take (j+1)) (λy hy=>i3 y (ei hy));have s:=Fig.val_lt h7;rw[i4.o]at s;rw[cr,ct (by omega)]at u;rw[dv];exact Nat.mul_lt_mul_of_lt_of_le u (Nat.le_of_lt s) (dw (by decide))
    have b:Fig.val r+10000^(j+0)*0+10000^(j+0)*(l.getD j 0*Fig.val (d.drop 0))=Fig.val (l.take (j+1))*m:=by
     rw[t,HV.o,List.drop_zero,i4.o,Nat.mul_zero,ez,ez,Nat.add_mul,ai]
    generalize s:Fig.val (l.take (j+1))*m=R at*;have l2:=A s;clear s;generalize l.getD j 0=x at*;have HR:=A F;have l3:=A b;have l4:=A z;clear t F b z;go_wp2
    go_loopw [8,7] (λi mo wr=>∃(k L:Nat)(F:List Nat),k<=d.length+1/\i=V S k/\mo=V S L/\L<10000/\Row (w.heap.size+3) 3 encI wr (I (J ⟨a0,0,O⟩) N N) F/\M (F.length=N)/\Fig.Small F/\
     M (Fig.val F+10000^(j+k)*L+10000^(j+k)*(x*Fig.val (d.drop k))=R)/\Z (w.heap.size+3) w1 wr) (λi _ _=>d.length+1-(ac i).toNat)
    case atStart=>exact⟨0,0,r,ag _,rfl,rfl,by decide,D,i9,j0,l3,f⟩
    case round=>
     obtain⟨k,L,F,hk,rfl,rfl,m9,s,t,P,Y,b⟩:=hrel;clear D f j1;have j2:w.heap.size+3<=wr.heap.size:=bh i5 b.size;have i0:=h ((b.block _ (by omega)).trans i6.o);have i1:=h ((b.block _ (by omega)).trans l0.o)
     by_cases W:k<d.length\/0<L
     .have n0:k<=d.length:=by
       rcases W with u|u
       .omega
       .exact aJJ Y.o HR.o u
      obtain⟨q,hq⟩:∃q,j+k=q:=⟨_,rfl⟩;have j3:=Y;rw[hq]at j3;have j5:q<N:=by have:=HN.o;omega
      have j6:q<F.length:=by rw[t.o];exact j5
      have h5:wr.cell? ⟨a0,q,O⟩=J (V S (F.getD (q) 0:Nat)):=s.B3 (aJG j6);have h6:=l4.o _ b;have u:=λy=>aJF (l:=F) j6 y
      have hy:=xV h7 k;have ho:=xV P (q);have l5:a0<wr.heap.size:=fa _ _ h5;have l6:g<wr.heap.size:=fa _ _ h6;have z:∀K,Z wr wr K->ae E 201 #[C #[I a' d.length c'],k] K λe w'=>e=aw (V S (d.getD k 0:Nat))/\Z K.heap.size K w':=λK hb=>aHy _ _ _ _ _ _ (k8.o _ (h8.trans ((b.mono (by omega)).trans (hb.mono (by omega)))))
      have i2:=aJH d k;generalize d.getD k 0=y at*;generalize F.getD (q) 0=o at*;have k0:x*y<=9999*9999:=Nat.mul_le_mul (by omega) (by omega);obtain⟨p,hp⟩:∃p,x*y=p:=⟨_,rfl⟩;have j7:(x:Int)*(y:Int)=(p:Int):=by rw[<-hp];exact(Int.natCast_mul x y).symm
      have j8:=A u;have l7:=A z;have HP:=A hp;have l8:=A i2;have l9:S.wrap ((x:Int)*(y:Int))=(p:Int):=by rw[ak,j7];omega
      obtain⟨X,hX⟩:∃X,o+p+L=X:=⟨_,rfl⟩;have m1:S.wrap ((o:Int)+(p:Int))=(o:Int)+(p:Int):=by rw[ak];omega
      have m2:S.wrap ((o:Int)+(p:Int)+(L:Int))=(X:Int):=by rw[ak];omega
      have n1:S.wrap ((j:Int)+(k:Int))=(q:Int):=by rw[ak];omega
      have n2:(q:Int)<(N:Int):=by omega
      have n3:X<=99999999:=by omega
      have HX:=A hX;have HQ:=A hq;have j9:(k:Int)<(d.length:Int)\/(¬(k:Int)<(d.length:Int)/\(0:Int)<(L:Int)):=by omega
      clear u z hp j7 i2 W k0 hX hq;rcases j9 with q1|⟨q1,q2⟩
      all_goals
       go_wp2
       go_region_held3 (λw'=>w'.cell? w=J (I g l.length c)/\w'.cell? ⟨w.heap.size+1,0,O⟩=J (I a' d.length c')/\w'.cell? ⟨g,j,O⟩=J (V S x)/\w'.cell? ⟨a0,q,O⟩=J (V S o)) (first|exact⟨j7,k0,k1,z⟩|exact⟨i0,i1,h6,h5⟩|go_keep)
        (first|(go_at_call 201;(with_reducible refine(l7.o _ ((Q _ wr).drew)).mono ?_);rintro e K ⟨rfl,u⟩;have j7:=(u.cell (p:=⟨w.heap.size,0,O⟩) (by simp;omega)).trans i0;have k0:=(u.cell (p:=⟨w.heap.size+1,0,O⟩) (by simp;omega)).trans i1;have k1:=(u.cell (p:=⟨g,j,O⟩) (by simpa using l6)).trans h6;have z:=(u.cell (p:=⟨a0,q,O⟩) (by simpa using l5)).trans h5))
       all_goals
        have i2:=b.drew.trans ((u.mono (show w.heap.size+3<=wr.drew.heap.size from j2)));have z:=(s.B0).A4 u;have k6:=z.F0 (q);have e1:Int.tmod (X:Int) 10000=((X%10000:Nat):Int):=rfl;have e2:Int.tdiv (X:Int) 10000=((X/10000:Nat):Int):=rfl;have hv:Fig.val F+10000^q*L+10000^q*(x*(y+10000*Fig.val (d.drop (k+1))))=R:=by rw[<-l8.o];exact j3.o
        have k2:X=o+x*y+L:=by rw[HP.o];exact HX.o.symm
        have m3:=A (aHA (j8.o (X%10000)) hv k2);have k4:=z.F8 (i:=q) (by rw[t.o];exact j5) (X%10000);have m4:X/10000<10000:=by omega
        have m5:X%10000<10000:=eh _ (by decide);have k5:=A k4;clear hv k2 u j7 k0 k1 s z k4 b i0 i1 h6 h5 l9 m1 m2;go_wp2_with fail;have u:(X:Int)/10000=((X/10000:Nat):Int):=rfl;have z:(X:Int)%10000=((X%10000:Nat):Int):=rfl;rw[u,z];refine⟨⟨k+1,X/10000,F.set q (X%10000),by omega,by go_num,rfl,m4,k5.o,A (by rw[List.length_set];exact t.o),aLe P _ m5,?_,i2.setCell (by simpa using i8) _⟩,by simp[ac];omega⟩;have e5:10000^(j+(k+1))=10000^q*10000:=by rw[<-Nat.add_assoc,HQ.o,ah]
        rw[e5];exact A m3.o
     .have u:d.length<=k:=dl λa1=>W (.inl a1)
      obtain rfl:L=0:=by have:=λa1=>W (bk a1);omega
      have q1:¬(k:Int)<(d.length:Int):=by omega
      have hv:Fig.val F=R:=by
       have:=Y.o;rw[du u]at this
       simpa[Fig.val]using this
      have z:=A hv;clear W u hv Y;simp only[dh];go_wp2_with fail;exact⟨⟨j+1,F,by omega,by go_num,s,t,P,A (z.o.trans l2.o.symm),b⟩,by simp[ac];omega⟩
  .have s:j=l.length:=by omega
   have b:Fig.val r=n*m:=by rw[HV.o,s,List.take_length,k9.o]
   have Y:=A b;have t:Z w w wo:=h8.trans (f.mono (by omega));have L:=(f.block _ (by omega)).trans l1.o;clear b s;go_wp2_with fail;refine(aC0 _ r _ j0 (D.D6 (ag _))).mono ?_;rintro e w3 ⟨a3,P,W,rfl,s,b⟩;rw[Y.o]at s;have u:=keep L b;have z:=h u;have h5:=bc u;have F:=chain t b;have HM:=A s;clear s L f D j1;go_wp2;exact ar (v:=C #[I a3 P W]) (by simp[au,results185,go_sem,z]) rfl ⟨a3,P,W,rfl,HM.o.B5 u (by decide) _ _,F.setCell (by simp;omega) _⟩
def aGK{k:Nat}(b:k<=4096):(Fig.figs (2^k)).length<=1048576:=by
 have a:2^k<10000^400:=cg (bp (by decide) b) (by decide+kernel);have:=Fig.figs_length_le a;omega
def uB{n m:Nat}(a:n<=m):(Fig.figs n).length<=(Fig.figs m).length:=Fig.figs_length_le (cg a (Fig.lt_of_figs_length (G _)))
def aLf(X:Nat)(w:H)(hK:X<=4096):ae E 186 #[X] w λe w'=>qR w (2^X) e w':=by
 have d:=aGK hK;obtain⟨a0,f⟩:∃a0,2^X=a0:=⟨_,rfl⟩;rw[f]at d;have HT:=A f;have HL:=A d;rw[f];clear f d;have d:∀W:H,ae E 183 #[V bu 8192] W λe w'=>qR W 8192 e w':=λW=>sM 8192 W (by decide)
 have g3:=A d;clear d;go_enter func186,ntmps186;go_wp2_with fail;refine(sM 1 _ (by decide)).mono ?_;rintro e w1 ⟨a,k,c,rfl,j,l⟩;obtain⟨f,g5,h0⟩:=after1 l;have m:(w1.alloc (U #[I a k c] 324)).heap[w.heap.size]?=J (U #[()] 324 (0,0)):=(dt w1 _ _ (by omega)).trans f;have n:(w1.alloc (U #[I a k c] 324)).heap[w1.heap.size]?=J (U #[I a k c] 324 (0,0)):=ba w1 _;have d:=g5.alloc (by omega) (U #[I a k c] 324);have g:=j.A6 (U #[I a k c] 324);have Y:w.heap.size≠w1.heap.size:=by omega
 have q:=A m;have i:=A n;have s:=A g;clear j l f m n g;go_wp2_with fail;obtain⟨B,hB⟩:∃B,w1.heap.size=B:=⟨_,rfl⟩;rw[hB]at i Y⊢
 go_loopw [0] (λv wr=>∃(K g:Nat)(a:Option ao)(k c:Nat),v=V S K/\K<=4096/\M (g*2^K=a0)/\wr.heap[B]?=J (U #[I a k c] 324 (0,0))/\wr.heap[w.heap.size]?=J (U #[()] 324 (0,0))/\
  Fgs wr (I a k c) (Fig.figs g)/\Z w w wr) (λv _=>(ac v).toNat)
 case atStart=>exact⟨X,1,a,k,c,rfl,hK,A (by rw[Nat.one_mul];exact HT.o),i.o,q.o,s.o,d⟩
 case round=>
  clear q i s d;obtain⟨K,g,a,k,c,rfl,h1,HA,d,f,q,s⟩:=hrel;have t:=h d;have u:B<wr.heap.size:=fc d;have x:(Fig.figs g).length<=1048576:=bh (uB (by rw[<-HA.o];exact fe _ (Nat.two_pow_pos _))) HL.o;have z:=A d;have g1:=A f;clear d f
  by_cases h2:13<=K
  .have q1:(13:Int)<=(K:Int):=by omega
   have e1:S.wrap ((K:Int)-13)=((K-13:Nat):Int):=by rw[ak];omega
   go_wp2
   go_region_with
    (first|(go_at_call 183;(with_reducible refine(g3.o _).mono ?_);rintro r wx ⟨ax,kx,cx,rfl,j,d⟩;have D:=(d.cell (p:=⟨B,0,O⟩) (by simpa using u)).trans t)|(go_at_call 185;(with_reducible refine(j4 a ax k kx c cx g 8192 _ ((q.B0).A4 d) j x (bh (Fig.figs_length_le (k:=1) (by decide)) (by decide))).mono ?_);rintro r wy ⟨l,m,n,rfl,i,f⟩;have F:=bc (keep (keep (w1:=wr.drew) z.o d) f);have L:=h (keep (keep (w1:=wr.drew) z.o d) f)))
   all_goals
    have y6:=keep (keep (w1:=wr.drew) z.o d) f;have y:=keep (keep (w1:=wr.drew) g1.o d) f;have N:=(chain (chain s.drew d) f).setCell (p:=⟨B,0,O⟩) (by simp;omega) (I l m n);have R:=A (i.B5 y6 (by decide) 0 (I l m n));have Y6:=A (aB (o:=0) y6 (I l m n));have Y4:=A ((aE (w:=wy) (o:=0) (k:=w.heap.size) (b:=B) (I l m n) Y).trans y);have g2:=A (show g*8192*2^(K-13)=a0 by rw[<-HA.o,ai,show 8192=2^13 from rfl,<-dv,show 13+(K-13)=K by omega]);clear y6 y d f j i D L F s q t;go_wp2_with fail;exact⟨⟨K-13,g*8192,l,m,n,by go_num,by omega,g2,Y6.o,Y4.o,R.o,N⟩,by simp[ac];omega⟩
  .have q1:¬(13:Int)<=(K:Int):=by omega
   obtain⟨P,hP⟩:∃P,2^K=P:=⟨_,rfl⟩;have h3:P<8192:=by rw[<-hP];exact cg (bp (by decide) (show K<=12 by omega)) (by decide)
   have g2:(2:Int)^K=(P:Int):=by rw[<-hP];exact(Int.natCast_pow 2 K).symm
   have h5:bu.wrap ((2:Int)^K)=(P:Int):=by rw[g2,fh];omega
   have g7:=A (λW:H=>sM P W (by omega));have g8:=A (show g*P=a0 by rw[<-hP];exact HA.o);have g9:(Fig.figs P).length<=1048576:=bh (Fig.figs_length_le (k:=1) (by omega)) (by decide);clear hP g2;go_wp2
   go_region_with
    (first|(go_at_call 183;(with_reducible refine(g7.o _).mono ?_);rintro r wx ⟨ax,kx,cx,rfl,j,d⟩;have D:=(d.cell (p:=⟨B,0,O⟩) (by simpa using u)).trans t)|(go_at_call 185;(with_reducible refine(j4 a ax k kx c cx g P _ ((q.B0).A4 d) j x g9).mono ?_);rintro r wy ⟨l,m,n,rfl,i,f⟩;have y:=keep (keep (w1:=wr.drew) g1.o d) f;have F:=bc y;have L:=h y))
   all_goals
    rw[g8.o]at i;have N:=(chain (chain s.drew d) f).setCell (p:=w) (G _) (I l m n);have R:=A (i.B5 y (by decide) 0 (I l m n));have z4:=h (aB (o:=0) y (I l m n));clear d f j i D L F s q t y;go_wp2;exact ar (v:=C #[I l m n]) (by simp[au,results186,go_sem,z4]) rfl ⟨l,m,n,rfl,R.o,N⟩
def jH{X:Type}{B e t bytes:Nat}{enc:X->T}{w:H}{v:T}{l:List X}{r:Array Oper}{rest:List Oper}{o:Oper}{a:Act}{a0:Exit->Act->H->Prop}(a1:Elem t e bytes)(F:o.guard=O)(s x:Operand)
 (Y:o.op=.call {callee:=.builtin .append,args:= #[s,x],argTypes:= #[t,t]})(hs:a.eval s=v)(D:Row B e enc w v l)(K:ao)(m c:Nat)(d:List X)(hx:a.eval x=I (J K) m c)(f:d.length=m)(g0:1<=m)
 (k:∀j y,d[j]?=J y->w.cell? (K.add j)=J (enc y))(h1:∀y,(enc y).oneCell'=av)(hb:(l.length+m)*bytes<=140737488355328)(hm:l.length+m<=aj)(n:B<=w.heap.size)
 (a2:∀b cap w',Row B e enc w' (I (J ⟨b,0,O⟩) (l.length+m) cap) (l++d)->w.grownBy w' v.ownBlock->wpList E r a0 rest (a.put o.dst (I (J ⟨b,0,O⟩) (l.length+m) cap)) w'):
 wpList E r a0 (o::rest) a w:=by
 obtain⟨ht,i,z,hi,hz,L,N,P⟩:=a1;refine wpList_append_own w F s x t Y B e i z 1 bytes ht hi hz L N P (by decide) v l.length (l.map enc) hs D K m c (d.map enc) hx (by simp[f]) ?_ ?_ hm hb n ?_
 .intro j u p;rw[List.getElem?_map]at p;cases q:d[j]? with
  | none=>rw[q]at p;cases p
  | some y=>rw[q]at p;simp at p;subst p;exact k j y q
 .intro u p;obtain⟨y,_,rfl⟩:=List.mem_map.1 p;exact h1 y
 .intro v' w' p hg W;rcases p.2 with⟨_,hn⟩|⟨g,cap,R,rfl,q⟩
  .omega
  .refine a2 g cap w' ?_ hg;unfold Row;rw[List.length_append,List.map_append,f];exact⟨by simp[f],bk ⟨g,cap,R,rfl,by simpa using q⟩⟩
def aGL{X:Nat}(d:X≠0):∀c:Nat,Fig.figs (X*10000^c)=bx c 0++Fig.figs X
 | 0=>by simp
 | c+1=>by
  have b:0<10000^c:=dw (by decide);have a:X*10000^(c+1)≠0:=Nat.mul_ne_zero d (by rw[ah];omega);rw[Fig.figs_pos a,ah,<-ai,Nat.mul_mod_left,Nat.mul_div_cancel _ (by decide),aGL d c];rfl
def xW(a:Option ao)(k c X n:Nat)(w:H)(z:Fgs w (I a k c) (Fig.figs X))(t:X≠0)(hn:n<=8192)(d:(Fig.figs (X*10^n)).length<=1048576):
 ae E 184 #[C #[I a k c],n] w λe w'=>qR w (X*10^n) e w':=by
 obtain⟨va,vc,F⟩:=bw z;injection F with h1 x u
 subst h1 x u;obtain⟨K,R,q,hR⟩:∃K R,n=4*K+R/\R<4:=⟨n/4,n%4,by omega,by omega⟩;have s:X*10^n=X*10000^K*10^R:=by rw[q,dv,Nat.pow_mul,ai]
 have i1:(Fig.figs X).length<=1048576:=bh (uB (fe _ (dw (by decide)))) d;have m:=aGL t K;have N:(Fig.figs X).length≠0:=by rw[Fig.figs_pos t];simp
 rw[s]at d⊢;generalize X*10000^K=Y at*
 obtain⟨g,cap,F,hg,_,_,l⟩:∃g cap,I a (Fig.figs X).length c=I (J ⟨g,0,O⟩) (Fig.figs X).length cap/\g<w.heap.size/\(Fig.figs X).length<=cap/\cap<=aj/\∀i,i<(Fig.figs X).length->w.cell? ⟨g,i,O⟩=J (V S ((Fig.figs X).getD i 0:Nat)):=by
  rcases z.B6 with⟨_,F⟩|B
  .rw[F]at N;exact absurd rfl N
  .exact B
 injection F with h1 x u
 subst h1;clear x u s z;generalize Fig.figs X=L at*;have z:=A l;have h0:=A m;have P:=A d;clear l m d t;have e1:(n:Int)/4=(K:Int):=by omega
 have e2:(n:Int)%4=(R:Int):=by omega
 clear q;have g3:Z (w.heap.size+2) ((w.alloc (U #[I (J ⟨g,0,O⟩) L.length c] 324)).alloc (U #[()] 324)) ((w.alloc (U #[I (J ⟨g,0,O⟩) L.length c] 324)).alloc (U #[()] 324)):=Q _ _;have d:∀W:H,ae E 183 #[V bu 10] W λe w'=>qR W 10 e w':=λW=>sM 10 W (by decide)
 have h5:=A d;clear d;go_enter func184,ntmps184;go_wp2_with fail;obtain⟨w1,d⟩:∃w1,((w.alloc (U #[I (J ⟨g,0,O⟩) L.length c] 324)).alloc (U #[()] 324))=w1:=⟨_,rfl⟩;have g5:w1.heap.size=w.heap.size+2:=by rw[<-d];simp
 have g6:Z w w w1:=by rw[<-d];exact((Q _ _).alloc (G _) _).alloc (by simp) _
 have B:w1.heap[w.heap.size]?=J (U #[I (J ⟨g,0,O⟩) L.length c] 324 (0,0)):=by rw[<-d];exact(dt _ _ _ (by simp)).trans (ba w _)
 have g4:w1.heap[w.heap.size+1]?=J (U #[()] 324 (0,0)):=by rw[<-d];simpa using ba (w.alloc (U #[I (J ⟨g,0,O⟩) L.length c] 324)) (U #[()] 324)
 rw[d]at g3⊢;have G2:=A B;have G4:=A g4;clear d B g4
 go_loopw [6,5] (λi f wr=>∃j:Nat,i=V S j/\j<=K/\Row (w.heap.size+2) 3 encI wr f (bx j 0)/\Z (w.heap.size+2) w1 wr) (λi _ _=>K-(ac i).toNat)
 case atStart=>exact⟨0,rfl,ag _,cw _ _ _ _,g3⟩
 case round=>
  obtain⟨j,rfl,hj,q,s⟩:=hrel;have g7:w.heap.size+2<=wr.heap.size:=by rw[<-g5];exact s.size
  by_cases D:j<K
  .have q1:(j:Int)<(K:Int):=by omega
   go_wp2_with (at_builtin;refine cV aCZ rfl _ _ rfl rfl (q.A6 _) ⟨wr.heap.size,0,O⟩ 1 0 rfl ?_ rfl ?_ ?_ ?_ ?_)
   .simp
   .simp;omega
   .simp;unfold aj;omega
   .simp;omega
   intro b cap w3 d l;rw[<-List.replicate_succ']at d;have t:=(s.alloc g7 (U #[V S 0] 3)).grown l (by simp;omega) (λk hk=>(q.lt k hk).1);have m:=A d;clear d l q;go_wp2
   go_roundw
   case rel=>exact⟨j+1,by go_num,by omega,m.o,t⟩
   case measure=>simp[ac];omega
  .obtain rfl:j=K:=by omega
   have q1:¬(j:Int)<(j:Int):=by omega
   have u:=h ((s.block _ (by omega)).trans G2.o)
   have g8:∀(i:Nat)(y:Nat),L[i]?=J y->wr.cell? ((⟨g,0,O⟩:ao).add i)=J (encI y):=by
    intro i y m;have D:=(List.getElem?_eq_some_iff.1 m).1;rw[Addr.add_lit,Nat.zero_add];refine(s.cell (by simp;omega)).trans ((g6.cell hg).trans ?_);rw[z.o i D,af,m];rfl
   go_wp2_with (at_builtin;refine jH aCZ rfl _ _ rfl rfl q ⟨g,0,O⟩ L.length c L rfl rfl ?_ g8 ?_ ?_ ?_ ?_ ?_)
   .omega
   .intro y;rfl
   ·(try simp);omega
   ·(try simp);unfold aj;omega
   intro b cap w3 d l;rw[<-h0.o]at d;have t:=s.grown l g7 (λk hk=>(q.lt k hk).1);have x:=(t.block _ (by omega)).trans G2.o;have h4:=(t.block _ (by omega)).trans G4.o;have u:=h x;have h6:=bc x;have g9:=d.B5 x (by decide) 0 (I b (j+L.length) cap);have m:=(g6.trans (t.mono (by omega))).setCell (p:=w) (G _) (I b (j+L.length) cap);have H2:=A (aB (o:=0) x (I b (j+L.length) cap));have H4:=A ((aE (o:=0) (I b (j+L.length) cap) (show w.heap.size+1≠w.heap.size by omega)).trans h4);have HF:=A (g9.D6 (ag _));clear d l q g8 x h4 g9 s t;go_wp2_with fail;generalize w3.setCell w (I b (j+L.length) cap)=w4 at*
   go_loopw [7] (λv wr=>∃(i:Nat)(a:Option ao)(k c:Nat),v=V S i/\i<=R/\wr.heap[w.heap.size]?=J (U #[I a k c] 324 (0,0))/\wr.heap[w.heap.size+1]?=J (U #[()] 324 (0,0))/\
    Fgs wr (I a k c) (Fig.figs (Y*10^i))/\Z w w wr) (λv _=>R-(ac v).toNat)
   case atStart=>exact⟨0,_,_,_,rfl,ag _,H2.o,H4.o,by rw[Nat.pow_zero,Nat.mul_one];exact HF.o,m⟩
   case round=>
    clear H2 H4 HF m u h6;obtain⟨i,a,k,c,rfl,hi,B,g4,q,s⟩:=hrel;have u:=h B;have g8:w.heap.size<wr.heap.size:=fc B;have g9:(Fig.figs (Y*10^i)).length<=1048576:=bh (uB (ew _ (bp (by decide) hi))) P.o;have t:=A B;have l:=A g4;clear B g4
    by_cases D:i<R
    .have q1:(i:Int)<(R:Int):=by omega
     go_wp2
     go_region_with
      (first|(go_at_call 183;(with_reducible refine(h5.o _).mono ?_);rintro r wx ⟨ax,kx,cx,rfl,B,m⟩;have h6:=(m.cell (p:=w) (by simpa using g8)).trans u)|(go_at_call 185;(with_reducible refine(j4 a ax k kx c cx (Y*10^i) 10 _ ((q.B0).A4 m) B g9 (bh (Fig.figs_length_le (k:=1) (by decide)) (by decide))).mono ?_);rintro r wy ⟨am,km,cm,rfl,x,d⟩;have h7:=bc (keep (keep (w1:=wr.drew) t.o m) d);have h8:=h (keep (keep (w1:=wr.drew) t.o m) d)))
     all_goals
      have y2:=keep (keep (w1:=wr.drew) t.o m) d;have y4:=keep (keep (w1:=wr.drew) l.o m) d;have h9:=(chain (chain s.drew m) d).setCell (p:=w) (G _) (I am km cm);rw[ai,<-ah]at x;have i0:=A (x.B5 y2 (by decide) 0 (I am km cm));have Y2:=A (aB (o:=0) y2 (I am km cm));have Y4:=A ((aE (o:=0) (I am km cm) (show w.heap.size+1≠w.heap.size by omega)).trans y4);clear y2 y4 m d B x h6 h8 h7 s q u;go_wp2_with fail;exact⟨⟨i+1,am,km,cm,by go_num,by omega,Y2.o,Y4.o,i0.o,h9⟩,by simp[ac];omega⟩
    .obtain rfl:i=R:=by omega
     have q1:¬(i:Int)<(i:Int):=by omega
     have m:=h l.o;have u:=bc l.o;have x:=h (aB (o:=0) l.o (I a k c));have d:=A (q.B5 l.o (by decide) 0 (I a k c));have B:=A (s.setCell (p:=⟨w.heap.size+1,0,O⟩) (Nat.le_succ _) (I a k c));clear q s;go_wp2;exact ar (v:=C #[I a k c]) (by simp[au,results184,go_sem,x]) rfl ⟨a,k,c,rfl,d.o,B.o⟩
def mI:dC []= []:=List.perm_nil.1 (fL [])
def vQ(l:List Tr):besides [] l= []:=by unfold besides;rw[mI];rfl
def zG:(fg [] []).A5=⟨1,0,1⟩:=by rw[hZ];rfl
def zH(w:H):ae E 164 #[()] w λe w'=>e=aw (I O 0 0)/\w'=w:=by
 have f:∀(w:H)(a:Option ao)(n c b d:Nat),(binOp .eql 32 (I a n c) (I O b d)).run E w=.ok (.bool a.isNone) w:=λw a n c b d=>Lib.run_eql_slice_nil w _ _ a n c b d underlying32
 go_enter func164,ntmps164;go_wp2_with fail;exact ar (v:=I O 0 0) (by simp[au,results164,go_sem]) rfl ⟨rfl,rfl⟩
def aFP(w:H)(F:Nat->Prop)(b:Nat)(D:T)(a:List T)(c:List Tr)(a0:w.heap[b]?=J (U #[D] 195 (0,0)))(d:Win 97 id w D a)(f:eF F w a c)(g:∀t∈c,t.A5.A9=av)(hl:c.length<=65536):
 ae E 222 #[dx b,()] w λe w'=>tI w b D a c [] e w':=by
 have a1:=A a0;have HW:=A d;have K:=f.1;have L:=A (λw1(hb:Z w w w1)=>wK w1 b 0 D a (keep a0 hb) (d.A2 (dy (λ_=>False) hb) (λ_ _=>id)) (by omega) f.F5 (ag _));clear a0 d f g;have N:=vP w;have P:=A ((Q w w).alloc (G _) (.map #[] 0));obtain⟨B,d⟩:∃B,w.alloc (.map #[] 0)=B:=⟨_,rfl⟩;rw[d]at N P;clear d;go_enter func222,ntmps222;go_wp2
 go_loopw [18] (λv wr=>v=V S 0/\wr=w) (λ_ _=>0)
 case atStart=>exact⟨rfl,rfl⟩
 case round=>
  obtain⟨rfl,d⟩:=hrel;rw[d];clear d;go_wp2
  go_loopw [7,29] (λy v wr=>y=V S 0/\v=V S 0/\wr=B) (λ_ _ _=>0)
  case atStart=>exact⟨rfl,rfl,rfl⟩
  case round=>
   obtain⟨rfl,rfl,d⟩:=hrel;rw[d];clear d;go_wp2_with fail;refine(L.o B P.o).mono ?_;rintro e w3 ⟨k,rfl,f,l,g⟩;have j:a.drop (a.length-0)= []:=by rw[Nat.sub_zero,List.drop_length]
   rw[j]at f;obtain⟨ta,tc,R⟩:=f.A7;have W:=A (chain P.o g);have g1:=A f;have HS:=A (mT F w3 k [] [] 0 f ⟨rfl,λi v t a0=>by simp at a0⟩ (λt m=>by simp at m) (by simp) (by decide));subst R;clear f l g j;go_wp2_with fail;refine(HS.o).mono ?_;rintro e w4 ⟨rfl,f⟩;have u:=A (chain W.o f);rw[show szV (fY 0 (([]:List Tr).map Tr.A5))=C #[V S (1:Nat),V S (0:Nat),V S (1:Nat)]from rfl];clear f;go_wp2_with fail;refine(zH w4).mono ?_;rintro e x ⟨rfl,rfl⟩;obtain⟨p,X⟩:∃p,x.heap.size=p:=⟨_,rfl⟩;obtain⟨j,n⟩:∃j,x.alloc (U #[V S 1,V S 0,V S 1,(),()] 189)=j:=⟨_,rfl⟩;have z:Z x x j:=by rw[<-n];exact(Q _ _).alloc (G _) _
   have f:j.heap[p]?=J (U #[V S 1,V S 0,V S 1,(),()] 189 (0,0)):=by rw[<-n,<-X];exact ba x _
   have Y:=A f;have r:=A (chain u.o z);have g0:=A (show w.heap.size<=p by rw[<-X];exact u.o.size);have g2:j.cell? ⟨p,3,O⟩=J (I O 0 0):=by rw[aA f];rfl
   have g3:∀o,j.frozen? ⟨p,o,O⟩=false:=free_at f;have HG:=A (lO j b 0 p 1 0 1 _ _ D a f rfl rfl rfl (by decide) ((dy (λ_=>False) r.o).B7 a1.o id) (HW.o.A2 (dy (λ_=>False) r.o) (λ_ _=>id)) (by omega) (ag _))
   have g:∀w',jX j b D a (a.length-0) 187 (dx (J ⟨p,0,O⟩)) w'->tI w b D a c [] (aw (.tuple #[])) w':=λw' l=>bk ⟨rfl,ag _,by
    have h0:(fg (dC []) (besides [] (c.drop (c.length-0)))).A5.A9=av:=by rw[mI,vQ,zG];rfl
    have s:([]:List Oo).length=0:=rfl;unfold po fZ;rw[s,if_neg (Nat.not_lt_zero _),if_pos h0,K],by
    rw[mI,vQ,zG];exact⟨j,p,I O 0 0,I O 0 0,r.o,g0.o,Y.o,by rw[mI];exact .nil _ _ _,λq e=>(by cases e),by rw[mI];exact .nil _ _ _,λq e=>(by cases e),l⟩⟩
   have s:=A g;clear f z g;go_wp2_with fail
   try rw[n]
   refine(aJZ j).mono ?_;rintro e f ⟨rfl,rfl⟩
   try rw[X]
   go_wp2
   go_loopw [72] (λv wr=>v=V S 0/\wr=f) (λ_ _=>0)
   case atStart=>exact⟨rfl,rfl⟩
   case round=>
    obtain⟨rfl,d⟩:=hrel;rw[d];clear d;go_wp2_with fail;refine(HG.o).mono ?_;rintro e g ⟨rfl,l⟩;have d:=A l;clear l;go_wp2
    go_end0
    exact s.o _ d.o
def aFQ(w:H)(F:Nat->Prop)(b:Nat)(o:T)(B:T)(c:List T)(a:List Tr)(keys:List Oo)(z:w.heap[b]?=J (U #[B] 195 (0,0)))(q:Win 97 id w B c)(p:eF F w c a)(d:∀t∈a,t.A5.A9=av)(r:a.length<=65536)
 (k:Win 9 encS w o keys)(u:keys= []->o=I O 0 0)(l:bK keys)(n:keys.Nodup)(j:bD keys<=2097152)(i:keys.length<=4194304):
 ae E 222 #[dx b,o] w λe w'=>tI w b B c a keys e w':=by
 by_cases f:keys= []
 .rw[u f,f];exact aFP w F b B c a z q p d r
 .rcases k with⟨_,e⟩|⟨g,off,cap,m,rfl,s,y,v,x,hi⟩
  .exact absurd e f
  .exact aDP w F b g off cap B c a keys z q p d r (bk ⟨g,off,cap,m,rfl,s,y,v,x,hi⟩) l n j i f
