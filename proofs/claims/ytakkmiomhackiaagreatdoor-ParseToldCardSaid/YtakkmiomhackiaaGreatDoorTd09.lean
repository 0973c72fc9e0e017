/-
  The program, one part of its walk. Conditions: none.
-/
import Derived.Test.YtakkmiomhackiaaGreatDoorTd06
import Derived.Test.YtakkmiomhackiaaGreatDoorTd08
import Derived.Deep.Upon
set_option linter.all false
set_option maxRecDepth 100000
set_option maxHeartbeats 16000000
open Go.Proofs.Tryz
open Array renaming getElem?_eq_getElem->et,getElem?_setIfInBounds->em,getElem_mem_toList->eh,length_toList->Y
open Bool renaming false->H,true->N
open ByteArray renaming size_append->cu
open Go renaming Addr->bu,Calls->bj,Oper->bg,Operand->dl,Value->Z,World->V,bodyPost_ret->G,lt_of_block->di,maxLen->ck,results->E,wpList->bw
open Go.Builtin renaming append->dp,append_->fu,firstCells->dw,lenOf->fv
open Go.Callee renaming builtin->dm
open Go.Ending renaming returned->bk
open Go.IntKind renaming i64->X,u8->ac,wrap_i64->bh
open Go.Lib renaming toList_data->dy,trimLeftB->az,trimRightB->dx
open Go.Obj renaming cells->ba
open Go.Obj.cells renaming injEq->ft
open Go.Oper renaming wp->dv
open Go.Proofs.Tryz renaming func109->ao,func134->bp,func140->cg,func189->au,ntmps109->ar,ntmps134->bs,ntmps140->cj,ntmps189->av,prog->U,results189->aw,results209->cv,results229->fc
open Go.Proofs.YtakkmiomhackiaaGreatDoor.Keeps renaming A3->co
open Go.Proofs.YtakkmiomhackiaaGreatDoor.Lim renaming bitlen->ei,val->fq
open Go.Proofs.YtakkmiomhackiaaGreatDoor.Tryz renaming I2->ez
open Go.Region renaming wanted->du
open Go.RowKit renaming intOf->bm
open Go.Value renaming bool->W,int->J,nilIface->fm,ownBlock->eo,slice->S,string->ah,tuple->ae
open Int renaming cast_ofNat_Int->ak,natCast_one->aj,natCast_zero->ai
open List renaming dropWhile_sublist->ct,eq_nil_of_length_eq_zero->dt,foldl_append->fg,foldl_cons->fd,getElem?_append_left->eu,getElem?_append_right->ev,getElem?_eq_getElem->fe,getElem?_eq_some_iff->dj,getElem?_map->ew,length_append->cr,length_reverse->fa,length_take->cz,mem_append_right->ek,mem_of_mem_take->ee,take_append_drop->fh,take_of_length_le->fi
open Nat renaming add_mul->bx,le_refl->bz,le_succ->af,le_trans->ej,lt_of_lt_of_le->fk,min_eq_left->dh,mul_le_mul_right->dq,pow_le_pow_right->cw,pow_mul->fj
open Option renaming none->O,some->I
open Option.some renaming injEq->ep
open Or renaming inl->ag,inr->bc
namespace Go.Proofs.YtakkmiomhackiaaGreatDoor
open Go.RowKit
theorem lE(s:Nat)(b:s<=8)(w:V):bj U 109 #[J X (s:Int)] w λe w'=>e=bk (W (bI s))/\w'=w:=by
 have a:s=0\/s=1\/s=2\/s=3\/s=4\/s=5\/s=6\/s=7\/s=8:=by omega
 rcases a with rfl|rfl|rfl|rfl|rfl|rfl|rfl|rfl|rfl
 .rw[show bI 0=H from rfl];simp only[ai,aj,ak];go_enter ao,ar;go_wp2;go_ret;exact⟨rfl,rfl⟩
 .rw[show bI 1=H from rfl];simp only[ai,aj,ak];go_enter ao,ar;go_wp2;go_ret;exact⟨rfl,rfl⟩
 .rw[show bI 2=N from rfl];simp only[ai,aj,ak];go_enter ao,ar;go_wp2;go_ret;exact⟨rfl,rfl⟩
 .rw[show bI 3=N from rfl];simp only[ai,aj,ak];go_enter ao,ar;go_wp2;go_ret;exact⟨rfl,rfl⟩
 .rw[show bI 4=H from rfl];simp only[ai,aj,ak];go_enter ao,ar;go_wp2;go_ret;exact⟨rfl,rfl⟩
 .rw[show bI 5=N from rfl];simp only[ai,aj,ak];go_enter ao,ar;go_wp2;go_ret;exact⟨rfl,rfl⟩
 .rw[show bI 6=H from rfl];simp only[ai,aj,ak];go_enter ao,ar;go_wp2;go_ret;exact⟨rfl,rfl⟩
 .rw[show bI 7=H from rfl];simp only[ai,aj,ak];go_enter ao,ar;go_wp2;go_ret;exact⟨rfl,rfl⟩
 .rw[show bI 8=N from rfl];simp only[ai,aj,ak];go_enter ao,ar;go_wp2;go_ret;exact⟨rfl,rfl⟩
theorem iD(c:UInt8)(w:V):bj U 134 #[J ac ((c.toNat:Nat):Int)] w λe w'=>e=bk (W (aX c))/\w'=w:=by
 by_cases a:c=32
 .have d:aX c=N:=by rw[a];rfl
  have g:=L d;have i:((c.toNat:Nat):Int)=32:=by rw[a];rfl
  clear d a;go_enter bp,bs;go_wp2;go_ret;exact⟨by rw[g.o];rfl,rfl⟩
 by_cases h:c=9
 .have d:aX c=N:=by rw[h];rfl
  have g:=L d;have i:((c.toNat:Nat):Int)=9:=by rw[h];rfl
  clear d a h;go_enter bp,bs;go_wp2;go_ret;exact⟨by rw[g.o];rfl,rfl⟩
 by_cases b:c=10
 .have d:aX c=N:=by rw[b];rfl
  have g:=L d;have i:((c.toNat:Nat):Int)=10:=by rw[b];rfl
  clear d a h b;go_enter bp,bs;go_wp2;go_ret;exact⟨by rw[g.o];rfl,rfl⟩
 by_cases f:c=13
 .have d:aX c=N:=by rw[f];rfl
  have g:=L d;have i:((c.toNat:Nat):Int)=13:=by rw[f];rfl
  clear d a h b f;go_enter bp,bs;go_wp2;go_ret;exact⟨by rw[g.o];rfl,rfl⟩
 have d:aX c=H:=by simp[aX,a,h,b,f]
 have g:=L d;obtain⟨-,l,-⟩:=aD (c:=c) (n:=32) a rfl;obtain⟨-,m,-⟩:=aD (c:=c) (n:=9) h rfl;obtain⟨-,j,-⟩:=aD (c:=c) (n:=10) b rfl;obtain⟨-,k,-⟩:=aD (c:=c) (n:=13) f rfl;clear d a h b f;go_enter bp,bs;go_wp2;go_ret;exact⟨by rw[g.o];rfl,rfl⟩
theorem lF(c:UInt8)(w:V):bj U 140 #[J ac ((c.toNat:Nat):Int)] w λe w'=>e=bk (ah ⟨(aN c).toArray⟩)/\w'=w:=by
 by_cases a:c=110
 .have f:aN c= [110,117,108,108]:=by rw[a];rfl
  have g:=L f;have h:((c.toNat:Nat):Int)=110:=by rw[a];rfl
  clear f a;go_enter cg,cj;go_wp2;go_ret;exact⟨by rw[g.o];rfl,rfl⟩
 by_cases b:c=116
 .have f:aN c= [116,114,117,101]:=by rw[b];rfl
  have g:=L f;have h:((c.toNat:Nat):Int)=116:=by rw[b];rfl
  clear f a b;go_enter cg,cj;go_wp2;go_ret;exact⟨by rw[g.o];rfl,rfl⟩
 by_cases d:c=102
 .have f:aN c= [102,97,108,115,101]:=by rw[d];rfl
  have g:=L f;have h:((c.toNat:Nat):Int)=102:=by rw[d];rfl
  clear f a b d;go_enter cg,cj;go_wp2;go_ret;exact⟨by rw[g.o];rfl,rfl⟩
 have f:aN c= []:=by simp[aN,a,b,d]
 have g:=L f;obtain⟨-,i,-⟩:=aD (c:=c) (n:=110) a rfl;obtain⟨-,k,-⟩:=aD (c:=c) (n:=116) b rfl;obtain⟨-,j,-⟩:=aD (c:=c) (n:=102) d rfl;clear f a b d;go_enter cg,cj;go_wp2;go_ret;exact⟨by rw[g.o];rfl,rfl⟩
def aJJ(o:Option UInt8)(e:Ending):Prop:=match o with
 | some b=>e=bk (ae #[J ac ((b.toNat:Nat):Int),W N])
 | none=>e=bk (ae #[J ac 0,W H])
theorem aBx(c:UInt8)(w:V):bj U 189 #[J ac ((c.toNat:Nat):Int)] w λe w'=>aJJ (cO c) e/\w'=w:=by
 by_cases b:c=34
 .have d:cO c=I 34:=by rw[b];rfl
  have l:=L d;have m:((c.toNat:Nat):Int)=34:=by rw[b];rfl
  clear d b;go_enter au,av;go_wp2;exact G (v:=ae #[J ac 34,W N]) (by simp[E,aw,go_sem,m]) rfl ⟨by rw[l.o];rfl,rfl⟩
 by_cases g:c=92
 .have d:cO c=I 92:=by rw[g];rfl
  have l:=L d;have m:((c.toNat:Nat):Int)=92:=by rw[g];rfl
  clear d b g;go_enter au,av;go_wp2;exact G (v:=ae #[J ac 92,W N]) (by simp[E,aw,go_sem,m]) rfl ⟨by rw[l.o];rfl,rfl⟩
 by_cases h:c=47
 .have d:cO c=I 47:=by rw[h];rfl
  have l:=L d;have m:((c.toNat:Nat):Int)=47:=by rw[h];rfl
  clear d b g h;go_enter au,av;go_wp2;exact G (v:=ae #[J ac 47,W N]) (by simp[E,aw,go_sem,m]) rfl ⟨by rw[l.o];rfl,rfl⟩
 by_cases j:c=98
 .have d:cO c=I 8:=by rw[j];rfl
  have l:=L d;have m:((c.toNat:Nat):Int)=98:=by rw[j];rfl
  clear d b g h j;go_enter au,av;go_wp2;exact G (v:=ae #[J ac 8,W N]) (by simp[E,aw,go_sem,m]) rfl ⟨by rw[l.o];rfl,rfl⟩
 by_cases a:c=102
 .have d:cO c=I 12:=by rw[a];rfl
  have l:=L d;have m:((c.toNat:Nat):Int)=102:=by rw[a];rfl
  clear d b g h j a;go_enter au,av;go_wp2;exact G (v:=ae #[J ac 12,W N]) (by simp[E,aw,go_sem,m]) rfl ⟨by rw[l.o];rfl,rfl⟩
 by_cases f:c=110
 .have d:cO c=I 10:=by rw[f];rfl
  have l:=L d;have m:((c.toNat:Nat):Int)=110:=by rw[f];rfl
  clear d b g h j a f;go_enter au,av;go_wp2;exact G (v:=ae #[J ac 10,W N]) (by simp[E,aw,go_sem,m]) rfl ⟨by rw[l.o];rfl,rfl⟩
 by_cases i:c=114
 .have d:cO c=I 13:=by rw[i];rfl
  have l:=L d;have m:((c.toNat:Nat):Int)=114:=by rw[i];rfl
  clear d b g h j a f i;go_enter au,av;go_wp2;exact G (v:=ae #[J ac 13,W N]) (by simp[E,aw,go_sem,m]) rfl ⟨by rw[l.o];rfl,rfl⟩
 by_cases k:c=116
 .have d:cO c=I 9:=by rw[k];rfl
  have l:=L d;have m:((c.toNat:Nat):Int)=116:=by rw[k];rfl
  clear d b g h j a f i k;go_enter au,av;go_wp2;exact G (v:=ae #[J ac 9,W N]) (by simp[E,aw,go_sem,m]) rfl ⟨by rw[l.o];rfl,rfl⟩
 have d:cO c=O:=by simp[cO,b,g,h,j,a,f,i,k]
 have l:=L d;obtain⟨-,s,-⟩:=aD (c:=c) (n:=34) b rfl;obtain⟨-,x,-⟩:=aD (c:=c) (n:=92) g rfl;obtain⟨-,u,-⟩:=aD (c:=c) (n:=47) h rfl;obtain⟨-,t,-⟩:=aD (c:=c) (n:=98) j rfl;obtain⟨-,r,-⟩:=aD (c:=c) (n:=102) a rfl;obtain⟨-,o,-⟩:=aD (c:=c) (n:=110) f rfl;obtain⟨-,p,-⟩:=aD (c:=c) (n:=114) i rfl;obtain⟨-,q,-⟩:=aD (c:=c) (n:=116) k rfl;clear d b g h j a f i k;go_enter au,av;go_wp2;exact G (v:=ae #[J ac 0,W H]) (by simp[E,aw,go_sem]) rfl ⟨by rw[l.o];rfl,rfl⟩
section
def aR(s e:Nat)(w:V)(v:Z)(n:Nat)(b:List Z):Prop:=b.length=n*s/\((v=S O 0 0/\n=0)\/
 ∃g off cap a,v=S (I ⟨g,off,O⟩) n cap/\w.heap[g]?=I (ba a e (0,0))/\n<=cap/\off+cap*s<=a.size/\cap<=ck/\∀(j:Nat)(u:Z),b[j]?=I u->a[off+j]?=I u)
def kQ(t e s bytes:Nat):Prop:=U.underlying t=I (.slice e)/\0<s/\∃i z,U.info? e=I i/\i.zero=I z/\i.size=s/\i.bytes=bytes/\z.cells.size=s
theorem nK(g:Nat):∀(a:List Z)(o:Nat)(w:V)(c:Array Z)(T:TypeId),w.heap[g]?=I (ba c T (0,0))->
 ∃b,(w.setCells g o a).heap[g]?=I (ba b T (0,0))/\b.size=c.size/\(∀j u,a[j]?=I u->o+j<c.size->b[o+j]?=I u)/\(∀k,k<o->b[k]?=c[k]?)/\Keeps (λk=>k=g) w (w.setCells g o a):=by
 intro a
 induction a with
 | nil=>intro o w c T h;exact⟨c,h,rfl,λj u d=>by simp at d,λ_ _=>rfl,co _ _⟩
 | cons x a q=>
  intro o w c T h;obtain⟨b,l,i,n,e,m⟩:=q (o+1) (w.setCell ⟨g,o,O⟩ x) _ T (aB h x);refine⟨b,l,by rw[i];simp,?_,?_,((co (λk=>k=g) w).A2 (p:=⟨g,o,O⟩) (ag rfl) x).B8 m⟩
  .intro j u d f;cases j with
   | zero=>
    simp at d;subst d;rw[Nat.add_zero,e o (by omega),em,if_pos rfl,if_pos (by omega)]
   | succ j=>
    have:=n j u (by simpa using d) (by simp;omega);rw[show o+(j+1)=o+1+j by omega];exact this
  .intro k r;rw[e k (by omega),em,if_neg (by omega)]
section
variable {s e:Nat} {w:V} {v:Z} {n:Nat} {cs:List Z}
theorem aR.E0(s e:Nat)(w:V):aR s e w (S O 0 0) 0 []:=⟨by simp,ag ⟨rfl,rfl⟩⟩
theorem aR.A0{F:Nat->Prop}{w':V}(h:aR s e w v n cs)(d:Keeps F w w')(f:∀k,v.ownBlock=I k->¬F k):aR s e w' v n cs:=by
 refine⟨h.1,?_⟩;rcases h.2 with i|⟨g,off,cap,b,rfl,c,a⟩
 .exact ag i
 .exact bc ⟨g,off,cap,b,rfl,d.C4 c (f g rfl),a⟩
theorem aR.A8(h:aR s e w v n cs):∃a c,v=S a n c:=by
 rcases h.2 with⟨rfl,rfl⟩|⟨g,off,cap,b,rfl,_⟩
 .exact⟨O,0,rfl⟩
 .exact⟨_,_,rfl⟩
theorem aR.lt(h:aR s e w v n cs){k:Nat}(a:v.ownBlock=I k):k<w.heap.size:=by
 rcases h.2 with⟨rfl,_⟩|⟨g,off,cap,b,rfl,c,_⟩
 .cases a
 .cases a;exact di c
theorem aR.ne(h:aR s e w v n cs){b:Nat}{c:Array Z}{T:TypeId}(f:w.heap[b]?=I (ba c T (0,0)))(i:T≠e):v.ownBlock≠I b:=by
 rcases h.2 with⟨rfl,_⟩|⟨g,off,cap,j,rfl,a,_⟩
 .simp[eo]
 .intro d;simp only[eo,ep]at d;subst d;rw[f]at a;simp only[ep,ft]at a;exact i a.2.1
theorem aR.B5{g off cap:Nat}(h:aR s e w (S (I ⟨g,off,O⟩) n cap) n cs){j:Nat}{u:Z}(i:cs[j]?=I u):w.cell? ⟨g,off+j,O⟩=I u:=by
 rcases h.2 with⟨a,_⟩|⟨k,b,c,f,a,d,o,l,m,hi⟩
 .cases a
 .cases a;rw[aA d];exact hi j u i
theorem aR.P7{B:Nat}(h:w.ownsRow B e s v n cs):aR s e w v n cs/\∀k,v.ownBlock=I k->B<=k:=by
 rcases h.2 with⟨rfl,rfl⟩|⟨g,cap,c,rfl,m,i,o,l,p,f⟩
 .exact⟨⟨h.1,ag ⟨rfl,rfl⟩⟩,λk b=>by cases b⟩
 .refine⟨⟨h.1,bc ⟨g,0,cap,c,rfl,i,o,by omega,l,λj u d=>?_⟩⟩,λk b=>by cases b;exact m⟩;have a:j<cs.length:=(dj.1 d).1;have:=congrArg (λx=>x[j]?) f;rw[h.1]at a;simp only[List.getElem?_take,if_pos a,Array.getElem?_toList,d]at this
  simpa using this
theorem dD{t bytes:Nat}{D:Array bg}{h:List bg}{o:bg}{a:Act}{a0:Exit->Act->V->Prop}(a2:kQ t e s bytes)(K:o.guard=O)(so x:dl)
 (ho:o.op=.call {callee:=dm dp,args:= #[so,x],argTypes:= #[t,t]})(hs:a.eval so=v)(l:aR s e w v n cs)(ad:bu)(m c:Nat)(d:List Z)(hx:a.eval x=S (I ad) m c)(y:d.length=m*s)
 (p:∀j u,d[j]?=I u->w.cell? (ad.add j)=I u)(h1:∀u∈d,u.oneCell'=N)(hm1:1<=m)(hb:(n+m)*bytes<=140737488355328)(hm:n+m<=ck)
 (a1:∀g off cap w',aR s e w' (S (I ⟨g,off,O⟩) (n+m) cap) (n+m) (cs++d)->(v.ownBlock=I g\/(w.heap.size<=g/\g<w'.heap.size))->Keeps (λk=>v.ownBlock=I k) w w'->bw U D a0 h (a.put o.dst (S (I ⟨g,off,O⟩) (n+m) cap)) w'):
 bw U D a0 (o::h) a w:=by
 obtain⟨ht,P,i,z,hi,hz,Q,R,T⟩:=a2;have hgk:∀{w':V}{row:Option Nat},w.grownBy w' row->(∀k,row=I k->v.ownBlock=I k)->Keeps (λk=>v.ownBlock=I k) w w':=λB hr=>(co _ w).F9 B (λk e=>ag (hr k e))
 have C:∀v' w',w'.ownsRow w.heap.size e s v' (n+m) (cs++d)->w.grownBy w' O->bw U D a0 h (a.put o.dst v') w':=by
  intro v' w' f q;obtain⟨A,F⟩:=aR.P7 f;rcases f.2 with⟨_,hn⟩|⟨g,cap,cur,rfl,r,B,_⟩
  .omega
  .exact a1 g 0 cap w' A (bc ⟨r,di B⟩) (hgk q (λk e=>by cases e))
 obtain⟨q,l⟩:=l;rcases l with⟨rfl,rfl⟩|⟨g,off,cap,cur,rfl,B,-,hof,hcm,r⟩
 .exact wpList_append_grows w K so x t ho e i z s bytes ht hi hz Q R T P O 0 0 cs hs (λ_=>⟨rfl,rfl⟩) q (λb hb=>by cases hb) ad m c d hx y p h1 (by omega) hm hb C
 .refine wpList_append_arg w K so x t ho e i z s bytes ht hi hz Q R T P g off n cap cs hs q (λj u A=>by rw[aA B];exact r j u A) ad m c d hx y p h1 ?_ hm hb ?_ (λ_=>C)
  .intro f j A;have F:(n+m)*s<=cap*s:=dq s f;rw[bx]at F;rw[y]at A;refine⟨?_,free_at B _⟩;rw[aA B,et (by omega)];rfl
  .intro f;have F:(n+m)*s<=cap*s:=dq s f;rw[bx]at F;obtain⟨cur',h1',h2',h3',h4',h5'⟩:=nK g d (off+n*s) w cur e B;refine a1 g off cap _ ⟨by rw[cr,q,y,bx],bc ⟨g,off,cap,cur',rfl,h1',f,by omega,hcm,?_⟩⟩ (ag rfl) (h5'.A6 (λk e=>by rw[e];rfl));intro j u A
   by_cases hjl:j<cs.length
   .rw[eu hjl]at A;rw[h4' _ (by omega)];exact r j u A
   .rw[ev (by omega)]at A;have hjn:=(dj.1 A).1;have:=h3' (j-cs.length) u A (by omega);rw[show off+n*s+(j-cs.length)=off+j by omega]at this;exact this
theorem tX{t ty bytes:Nat}(a0:kQ t e s bytes)(f:aR s e w v n cs)(B:bu)(m c:Nat)(a:List Z)(h:a.length=m*s)
 (d:∀j u,a[j]?=I u->w.cell? (B.add j)=I u)(h1:∀u∈a,u.oneCell'=N)(hm1:1<=m)(hb:(n+m)*bytes<=140737488355328)(hm:n+m<=ck):
 ∃g off cap w',(fu #[t,t] ty #[v,S (I B) m c]).run U w=.ok (S (I ⟨g,off,O⟩) (n+m) cap) w'/\aR s e w' (S (I ⟨g,off,O⟩) (n+m) cap) (n+m) (cs++a)/\(v.ownBlock=I g\/(w.heap.size<=g/\g<w'.heap.size))/\Keeps (λk=>v.ownBlock=I k) w w':=by
 obtain⟨ht,C,i,z,hi,hz,A,D,F⟩:=a0;have hgk:∀{w':V}{K:Option Nat},w.grownBy w' K->(∀k,K=I k->v.ownBlock=I k)->Keeps (λk=>v.ownBlock=I k) w w':=λr Q=>(co _ w).F9 r (λk e=>ag (Q k e))
 have x:∀y w',w'.ownsRow w.heap.size e s y (n+m) (cs++a)->(∀k,y.ownBlock=I k->True)->w.grownBy w' O->∃g cap,y=S (I ⟨g,0,O⟩) (n+m) cap/\aR s e w' (S (I ⟨g,0,O⟩) (n+m) cap) (n+m) (cs++a)/\(v.ownBlock=I g\/(w.heap.size<=g/\g<w'.heap.size))/\Keeps (λk=>v.ownBlock=I k) w w':=by
  intro y w' b _ l;obtain⟨p,q⟩:=aR.P7 b;rcases b.2 with⟨_,T⟩|⟨g,cap,R,rfl,o,r,_⟩
  .omega
  .exact⟨g,cap,rfl,p,bc ⟨o,di r⟩,hgk l (λk e=>by cases e)⟩
 obtain⟨l,f⟩:=f;rcases f with⟨rfl,rfl⟩|⟨g,off,cap,R,rfl,r,-,hof,hcm,o⟩
 .obtain rfl:cs= []:=dt (by simpa using l);obtain⟨y,w',b,r1,r2,_⟩:=run_append_own (P:=U) w w.heap.size t ty e i z s bytes ht hi hz A D F C (S O 0 0) 0 [] (World.ownsRow_nil w _ e s) B m c a h d h1 hm hb (bz _);obtain⟨g,cap,rfl,h2,h3,h4⟩:=x y w' r1 (λ_ _=>trivial) r2;exact⟨g,0,cap,w',b,h2,h3,h4⟩
 .by_cases Q:n+m<=cap
  .subst A;have hle:(n+m)*i.size<=cap*i.size:=dq _ Q;rw[bx]at hle
   have p:∀j,j<a.length->(w.cell? ⟨g,off+n*i.size+j,O⟩).isSome=N:=by
    intro j q;rw[h]at q;rw[aA r,et (by omega)];rfl
   have b:=run_append_room_cells (P:=U) w t ty e i ht hi g off n cap B m c a h d h1 Q p (λj _=>free_at r _);obtain⟨T,h1',h2',h3',h4',h5'⟩:=nK g a (off+n*i.size) w R e r;refine⟨g,off,cap,_,b,⟨by rw[cr,l,h,bx],bc ⟨g,off,cap,T,rfl,h1',Q,by omega,hcm,?_⟩⟩,ag rfl,h5'.A6 (λk e=>by rw[e];rfl)⟩;intro j u q
   by_cases hjl:j<cs.length
   .rw[eu hjl]at q;rw[h4' _ (by omega)];exact o j u q
   .rw[ev (by omega)]at q;have hjn:=(dj.1 q).1;have:=h3' (j-cs.length) u q (by omega);rw[show off+n*i.size+(j-cs.length)=off+j by omega]at this;exact this
  .obtain⟨y,w',b,r1,r2⟩:=run_append_arg_grows (P:=U) w t ty e i z s bytes ht hi hz A D F C ⟨g,off,O⟩ n cap cs l (λj u q=>by rw[Addr.add_lit,aA r];exact o j u q) B m c a h d (by omega) hm hb;obtain⟨T,p,rfl,h2,h3,h4⟩:=x y w' r1 (λ_ _=>trivial) r2;exact⟨T,0,p,w',b,h2,h3,h4⟩
theorem bO{t bytes:Nat}{f:Array bg}{o:bg}{a:Act}{K:Act->V->Prop}{a0:Exit->Act->V->Prop}{D:Prop}(a1:kQ t e s bytes)(l:o.guard=O)(y x:dl)
 (z:o.op=.call {callee:=dm dp,args:= #[y,x],argTypes:= #[t,t]})(A:a.eval y=v)(h:aR s e w v n cs)(p:bu)(m c:Nat)(b:List Z)(B:a.eval x=S (I p) m c)(q:b.length=m*s)
 (d:∀j u,b[j]?=I u->w.cell? (p.add j)=I u)(C:∀u∈b,u.oneCell'=N)(r:1<=m)(F:(n+m)*bytes<=140737488355328)(P:n+m<=ck)
 (a2:∀g off cap w',aR s e w' (S (I ⟨g,off,O⟩) (n+m) cap) (n+m) (cs++b)->(v.ownBlock=I g\/(w.heap.size<=g/\g<w'.heap.size))->Keeps (λk=>v.ownBlock=I k) w w'->K (a.put o.dst (S (I ⟨g,off,O⟩) (n+m) cap)) w'):
 if du o (yielded f a.tmps)=N then dv U o a w K a0 else D:=by
 have Q:du o (yielded f a.tmps)=N:=by simp[du,l]
 rw[if_pos Q];obtain⟨g,off,cap,w',i,R,T,h4⟩:=tX (ty:=o.type) a1 h p m c b q d C r F P;unfold dv execOp;simp only[z,resolve,invoke,builtin,Sem.run_bind,Sem.run_pure,Result.andThen_ok,List.map_toArray,List.map_cons,List.map_nil,A,B,i];exact a2 g off cap w' R T h4
theorem vB(w:V)(k:Nat)(A:Option bu)(c:Nat):(dw k 0 (S A 0 c)).run U w=.ok #[] w:=by
 cases A with
 | none=>simp[dw]
 | some b=>
  have h:=run_loadCells_list (P:=U) w b [] (λj v a=>by simp at a)
  simpa[dw]using h
theorem qR{t bytes:Nat}{d:Array bg}{b:List bg}{o:bg}{a:Act}{T:Exit->Act->V->Prop}(a0:kQ t e s bytes)(k:o.guard=O)(p x:dl)
 (y:o.op=.call {callee:=dm dp,args:= #[p,x],argTypes:= #[t,t]})(B:a.eval p=v)(f:aR s e w v n cs)(A:Option bu)(c:Nat)(D:a.eval x=S A 0 c)
 (a1:bw U d T b (a.put o.dst v) w):
 bw U d T (o::b) a w:=by
 obtain⟨q,-,i,z,hi,-,-,-,-⟩:=a0
 obtain⟨l,r,C,F,m⟩:∃l r C,v=S l r C/\r<=C:=by
  rcases f.2 with⟨rfl,_⟩|⟨g,off,cap,h,rfl,-,j,_⟩
  .exact⟨_,_,_,rfl,bz _⟩
  .exact⟨_,_,_,rfl,j⟩
 subst F;have h:Src U i.size t (S A 0 c) 0 [] w:=⟨ag ⟨e,q⟩,λw'=>by simp[fv],vB w _ A c,vB w.drew _ A c,by simp,λu Q=>by simp at Q⟩;have j:=run_append_nothing (P:=U) w t t o.type e i q hi l r C m (S A 0 c) h;refine wpList_plain k λK R=>?_
 unfold dv;simp[execOp,y,resolve,invoke,builtin,B,D,j,Result.andThen];exact R _ _ a1
end
theorem Win.Q7{m:Type}{e:Nat}{enc:m->Z}{w:V}{v:Z}{l:List m}(h:Win e enc w v l):aR 1 e w v l.length (l.map enc):=by
 refine⟨by simp,?_⟩;rcases h with⟨rfl,rfl⟩|⟨g,off,cap,b,rfl,d,i,k,f,hi⟩
 .exact ag ⟨rfl,rfl⟩
 .refine bc ⟨g,off,cap,b,rfl,d,i,by omega,f,λj u a=>?_⟩;rw[ew]at a;cases c:l[j]? with
  | none=>rw[c]at a;cases a
  | some x=>rw[c]at a;simp at a;subst a;exact hi j x c
theorem aR.I4{p:Type}{e n:Nat}{enc:p->Z}{w:V}{v:Z}{l:List p}(h:aR 1 e w v n (l.map enc)):Win e enc w v l:=by
 obtain⟨b,h⟩:=h;have j:l.length=n:=by simpa using b
 subst j;rcases h with⟨rfl,d⟩|⟨g,off,cap,a,rfl,c,m,o,k,hi⟩
 .exact ag ⟨rfl,dt d⟩
 .exact bc ⟨g,off,cap,a,rfl,c,m,by omega,k,λi x f=>hi i (enc x) (by rw[ew,f];rfl)⟩
end
def fT(d:Dml):Z:=.agg #[W d.neg,ah ⟨d.digits.toArray⟩,J X d.exp]
theorem kC(neg:Bool)(b:ByteArray)(e:Int)(w:V)(K:b.size<=1073741824)(P: -4611686018427387904<=e)(C:e<=4611686018427387904):
 bj U 229 #[.agg #[W neg,ah b,J X e]] w λr w'=>r=bk (fT (bZ neg b.data.toList e))/\Below w.heap.size w w':=by
 have k:=λw=>ez b 48 (by decide) w
 have m:(az b.data.toList 48).length<=b.size:=by
  have:=(ct (λx:UInt8=>x==48) (l:=b.data.toList)).length_le;rw[Y]at this;exact this
 unfold bZ;generalize az b.data.toList 48=T at*;obtain⟨t,h⟩:∃t:ByteArray,(⟨T.toArray⟩:ByteArray)=t:=⟨_,rfl⟩;have o:T=t.data.toList:=by rw[<-h]
 simp only[h]at k;clear h;subst o;have d:t.data.toList.length=t.size:=Y;have y:t.size<=b.size:=by omega
 have g:=λw=>Tryz.J8 t 48 (by decide) w (by omega)
 have i:(dx t.data.toList 48).length<=t.size:=by
  unfold dx;rw[fa];have:=(ct (λx:UInt8=>x==48) (l:=t.data.toList.reverse)).length_le;rw[fa,Y]at this;exact this
 generalize dx t.data.toList 48=Q at*;obtain⟨u,j⟩:∃u:ByteArray,(⟨Q.toArray⟩:ByteArray)=u:=⟨_,rfl⟩;have f:Q=u.data.toList:=by rw[<-j]
 simp only[j]at g;clear j;subst f;have c:u.data.toList.length=u.size:=Y;have A:u.size<=t.size:=by omega
 rw[d,c];have p:=L k;have s:=L g;clear c d m i k g;obtain⟨-,-,q⟩:=fS w (ba #[W neg,ah b,J X e] 339) (ba #[W H,ah ⟨#[]⟩,J X 0] 339);have B:=L q;clear q
 by_cases a:u.data.toList= []
 .have n:u.toList.isEmpty=N:=by rw[dy,a];rfl
  rw[if_pos a];clear a;go_enter func229,ntmps229;go_wp2_with fail;refine(p.o _).mono ?_;rintro r w1 ⟨rfl,rfl⟩;go_wp2_with fail;refine(s.o _).mono ?_;rintro r w1 ⟨rfl,rfl⟩;go_wp2_with fail;exact G (v:=fT ⟨H,[],0⟩) (by simp[E,fc,go_sem,fT]) rfl ⟨rfl,(B.o)⟩
 .have n:u.toList.isEmpty=H:=by
   rw[dy];cases F:u.data.toList with
   | nil=>exact absurd F a
   | cons x r=>rfl
  rw[if_neg a];clear a;have D:X.wrap (e+(t.size:Int))=e+(t.size:Int):=by rw[bh];omega
  have z:X.wrap (e+(t.size:Int)-(u.size:Int))=e+(t.size:Int)-(u.size:Int):=by rw[bh];omega
  go_enter func229,ntmps229;go_wp2_with fail;refine(p.o _).mono ?_;rintro r w1 ⟨rfl,rfl⟩;go_wp2_with fail;refine(s.o _).mono ?_;rintro r w1 ⟨rfl,rfl⟩;go_wp2_with fail;exact G (v:=fT ⟨neg,u.data.toList,e+t.size-u.size⟩) (by simp[E,fc,go_sem,fT]) rfl ⟨rfl,(fS _ _ _).2.2⟩
theorem aJ8{a:Nat}(h:35184372088832<=a)(l:List UInt8):l.foldl cX a=a:=by
 induction l with
 | nil=>rfl
 | cons c l b=>rw[fd,show cX a c=a from if_neg (by omega)];exact b
theorem zX{a:Nat}{l:List UInt8}(e:a<=351843720888329)(b:∀c∈l,c.toNat<=57):l.foldl cX a<=351843720888329:=by
 induction l generalizing a with
 | nil=>exact e
 | cons c l d=>
  rw[fd];refine d ?_ (λx f=>b x (by simp[f]));have:=b c (by simp);unfold cX;split<;>omega
theorem aIS{l:List UInt8}{i:Nat}(h:i<l.length):(l.take (i+1)).foldl cX 0=cX ((l.take i).foldl cX 0) l[i]:=by
 rw[List.take_add_one,fe h,fg];rfl
theorem aIT(neg h:Bool)(g be f:ByteArray)(w:V)(hs:g.size+be.size<=1073741824)(b:∀c∈f.data.toList,48<=c.toNat/\c.toNat<=57)(R:f.size<=1073741824):
 bj U 209 #[.agg #[W neg,ah g,ah be,W h,ah f]] w λr w'=>r=bk (fT (cU ⟨neg,g.data.toList,be.data.toList,h,f.data.toList⟩))/\Below w.heap.size w w':=by
 have Q:=L b;clear b;go_enter func209,ntmps209;go_wp2_with fail
 go_loop [3,4] (λa i=>∃k:Nat,k<=f.size/\i=J X k/\a=J X ((f.data.toList.take k).foldl cX 0:Nat)) (λ_ i=>f.size-(bm i).toNat)
 case atStart=>exact⟨0,by omega,rfl,rfl⟩
 case round=>
  obtain⟨k,-,rfl,rfl⟩:=hrel;have o:=zX (a:=0) (l:=f.data.toList.take k) (by omega) (λc T=>(Q.o c (ee T)).2)
  by_cases q:k<f.size
  .by_cases C:(f.data.toList.take k).foldl cX 0<35184372088832
   .have j:=Q.o f[k] (eh q)
    have b:(((f.data.toList.take (k+1)).foldl cX 0:Nat):Int)=10*(((f.data.toList.take k).foldl cX 0:Nat):Int)+(((f[k].toNat:Nat):Int)-48):=by
     rw[aIS (by rw[Y];exact q),cX,if_pos C];have:(f.data.toList[k]'(by rw[Y];exact q))=f[k]:=rfl;rw[this];omega
    have e:=L b;clear b;obtain⟨a,s⟩:∃a,(f.data.toList.take k).foldl cX 0=a:=⟨_,rfl⟩;simp only[s]at*;clear s;have t:(a:Int)<35184372088832:=by omega
    obtain⟨dg,b⟩:∃d,f[k].toNat=d:=⟨_,rfl⟩;simp only[b]at j e;go_wp2_with fail;refine⟨⟨k+1,by omega,by go_num,congrArg (J X) e.o.symm⟩,by simp[bm];omega⟩
   .have D:fE f.data.toList=(f.data.toList.take k).foldl cX 0:=by
     unfold fE
     conv=>lhs;rw[<-fh k f.data.toList,fg]
     exact aJ8 (by omega) _
    have F:=L D;clear D;obtain⟨a,s⟩:∃a,(f.data.toList.take k).foldl cX 0=a:=⟨_,rfl⟩;simp only[s]at*;clear s;have t:¬(a:Int)<35184372088832:=by omega
    cases h with
    | false=>
     have u:X.wrap ((a:Int)-(be.size:Int))=(a:Int)-(be.size:Int):=by rw[bh];omega
     go_wp2_with fail;have b:(g++be).data.toList=g.data.toList++be.data.toList:=by simp
     have e:bZ neg (g++be).data.toList ((a:Int)-(be.size:Int))=cU ⟨neg,g.data.toList,be.data.toList,H,f.data.toList⟩:=by
      rw[b];unfold cU;simp only[F.o,Y];rfl
     have j:=λw=>(kC neg (g++be) ((a:Int)-(be.size:Int)) w (by rw[cu];omega) (by omega) (by omega))
     simp only[e]at j;clear b e;obtain⟨⟨x,y,z⟩,m⟩:∃d,cU ⟨neg,g.data.toList,be.data.toList,H,f.data.toList⟩=d:=⟨_,rfl⟩;simp only[m]at j;have A:=L m;clear m;refine(j _).mono ?_;rintro r w2 ⟨rfl,o⟩;obtain⟨-,p,n,-⟩:=after2 o;obtain⟨B,c1,c2,K⟩:=cells3 p;clear p o;unfold fT;go_wp2_with fail;exact G (v:=fT ⟨x,y,z⟩) (by simp[E,cv,go_sem,fT,B,c1,c2]) rfl ⟨by rw[A.o],((n.setCell (af _) _).setCell (af _) _).setCell (af _) _⟩
    | true=>
     have P:X.wrap (-(a:Int))= -(a:Int):=by rw[bh];omega
     have u:X.wrap (-(a:Int)-(be.size:Int))= -(a:Int)-(be.size:Int):=by rw[bh];omega
     go_wp2_with fail;have b:(g++be).data.toList=g.data.toList++be.data.toList:=by simp
     have e:bZ neg (g++be).data.toList (-(a:Int)-(be.size:Int))=cU ⟨neg,g.data.toList,be.data.toList,N,f.data.toList⟩:=by
      rw[b];unfold cU;simp only[F.o,Y];rfl
     have j:=λw=>(kC neg (g++be) (-(a:Int)-(be.size:Int)) w (by rw[cu];omega) (by omega) (by omega))
     simp only[e]at j;clear b e;obtain⟨⟨x,y,z⟩,m⟩:∃d,cU ⟨neg,g.data.toList,be.data.toList,N,f.data.toList⟩=d:=⟨_,rfl⟩;simp only[m]at j;have A:=L m;clear m;refine(j _).mono ?_;rintro r w2 ⟨rfl,o⟩;obtain⟨-,p,n,-⟩:=after2 o;obtain⟨B,c1,c2,K⟩:=cells3 p;clear p o;unfold fT;go_wp2_with fail;exact G (v:=fT ⟨x,y,z⟩) (by simp[E,cv,go_sem,fT,B,c1,c2]) rfl ⟨by rw[A.o],((n.setCell (af _) _).setCell (af _) _).setCell (af _) _⟩
  .have D:fE f.data.toList=(f.data.toList.take k).foldl cX 0:=by
    rw[fi (by rw[Y];exact Nat.not_lt.1 q)];rfl
   have F:=L D;clear D;obtain⟨a,s⟩:∃a,(f.data.toList.take k).foldl cX 0=a:=⟨_,rfl⟩;simp only[s]at*;clear s;cases h with
   | false=>
    have u:X.wrap ((a:Int)-(be.size:Int))=(a:Int)-(be.size:Int):=by rw[bh];omega
    go_wp2_with fail;have b:(g++be).data.toList=g.data.toList++be.data.toList:=by simp
    have e:bZ neg (g++be).data.toList ((a:Int)-(be.size:Int))=cU ⟨neg,g.data.toList,be.data.toList,H,f.data.toList⟩:=by
     rw[b];unfold cU;simp only[F.o,Y];rfl
    have j:=λw=>(kC neg (g++be) ((a:Int)-(be.size:Int)) w (by rw[cu];omega) (by omega) (by omega))
    simp only[e]at j;clear b e;obtain⟨⟨x,y,z⟩,m⟩:∃d,cU ⟨neg,g.data.toList,be.data.toList,H,f.data.toList⟩=d:=⟨_,rfl⟩;simp only[m]at j;have A:=L m;clear m;refine(j _).mono ?_;rintro r w2 ⟨rfl,o⟩;obtain⟨-,p,n,-⟩:=after2 o;obtain⟨B,c1,c2,K⟩:=cells3 p;clear p o;unfold fT;go_wp2_with fail;exact G (v:=fT ⟨x,y,z⟩) (by simp[E,cv,go_sem,fT,B,c1,c2]) rfl ⟨by rw[A.o],((n.setCell (af _) _).setCell (af _) _).setCell (af _) _⟩
   | true=>
    have P:X.wrap (-(a:Int))= -(a:Int):=by rw[bh];omega
    have u:X.wrap (-(a:Int)-(be.size:Int))= -(a:Int)-(be.size:Int):=by rw[bh];omega
    go_wp2_with fail;have b:(g++be).data.toList=g.data.toList++be.data.toList:=by simp
    have e:bZ neg (g++be).data.toList (-(a:Int)-(be.size:Int))=cU ⟨neg,g.data.toList,be.data.toList,N,f.data.toList⟩:=by
     rw[b];unfold cU;simp only[F.o,Y];rfl
    have j:=λw=>(kC neg (g++be) (-(a:Int)-(be.size:Int)) w (by rw[cu];omega) (by omega) (by omega))
    simp only[e]at j;clear b e;obtain⟨⟨x,y,z⟩,m⟩:∃d,cU ⟨neg,g.data.toList,be.data.toList,N,f.data.toList⟩=d:=⟨_,rfl⟩;simp only[m]at j;have A:=L m;clear m;refine(j _).mono ?_;rintro r w2 ⟨rfl,o⟩;obtain⟨-,p,n,-⟩:=after2 o;obtain⟨B,c1,c2,K⟩:=cells3 p;clear p o;unfold fT;go_wp2_with fail;exact G (v:=fT ⟨x,y,z⟩) (by simp[E,cv,go_sem,fT,B,c1,c2]) rfl ⟨by rw[A.o],((n.setCell (af _) _).setCell (af _) _).setCell (af _) _⟩
def qA(l:List UInt8):Prop:=∀x∈l,48<=x.toNat/\x.toNat<=57
theorem aHf(l:List UInt8):bM (az l 48)=bM l:=by
 unfold az
 induction l with
 | nil=>rfl
 | cons x l a=>
  by_cases h:x=48
  .subst h;rw[List.dropWhile_cons_of_pos (by simp),a];exact(aDf 1 l).symm
  .rw[List.dropWhile_cons_of_neg (by simpa using h)]
theorem aJk(l:List UInt8):∀x∈az l 48,x∈l:=λ_ a=>(ct _).subset a
theorem aJl(l:List UInt8):(az l 48).length<=l.length:=(ct _).length_le
theorem aA5(n:Nat):10^(3*n)<=2^(10*n):=by
 rw[fj,fj];exact Nat.pow_le_pow_left (by decide) n
theorem aKh{n m k:Nat}(h:n<2^m)(a:m<=k):ei n<=k:=by
 rw[Lim.bitlen_le];exact fk h (cw (by decide) a)
theorem aHg{l:List UInt8}(h:l.length<=2400)(b:∀x∈l,x.toNat<=57):ei (bM l)<=8192:=by
 obtain⟨m,c,a⟩:∃m:Nat,l.length<=3*m/\10*m<=8192:=⟨800,h,by decide⟩;exact aKh (fk (j8 b) (ej (cw (by decide) c) (aA5 m))) a
theorem s8(s:ByteArray)(w:V)(c:qA s.data.toList)(hne:s.size≠0)(hl:s.size<=2400):
 bj U 230 #[ah s] w λe w'=>oH w (bM s.data.toList) fm e w':=by
 have a:s.data.toList.length=s.size:=Y;have HD:=L c;clear c;go_enter func230,ntmps230;go_wp2_with fail
 go_loop [12] (λi=>∃k:Nat,k<=s.size/\i=J X k) (λi=>s.size-(bm i).toNat)
 case atStart=>exact⟨0,by omega,rfl⟩
 case round=>
  obtain⟨k,hk,rfl⟩:=hrel
  by_cases j:k<s.size
  .obtain⟨c,f⟩:=HD.o s[k] (eh j);have g:¬((s[k].toNat:Nat):Int)<48:=by omega
   have h:¬(57:Int)<((s[k].toNat:Nat):Int):=by omega
   go_wp2_with fail;refine⟨⟨k+1,by omega,by go_num⟩,by simp[bm];omega⟩
  .have g:s.toList.isEmpty=H:=by
    rw[dy];cases c:s.data.toList with
    | nil=>rw[c]at a;exact absurd a.symm hne
    | cons x r=>rfl
   have HSZ:=L a;clear a;go_wp2_with fail;refine(ez s 48 (by decide) _).mono ?_;rintro e w1 ⟨rfl,rfl⟩;have a:qA (az s.data.toList 48):=λx f=>HD.o x (aJk _ x f)
   have h:(az s.data.toList 48).length<=2400:=ej (aJl _) (by have:=HSZ.o;omega);have c:=aHf s.data.toList;generalize az s.data.toList 48=a0 at*;have P:=L c;have p:=L a;clear c a g;obtain⟨t,g⟩:∃t:ByteArray,(⟨a0.toArray⟩:ByteArray)=t:=⟨_,rfl⟩;have a:t.data.toList=a0:=by rw[<-g]
   have c:t.size=a0.length:=by rw[<-g];rfl
   rw[g];have HTT:=L a;clear g a;have a:¬(2500:Int)<(t.size:Int):=by omega
   go_wp2_with fail;have htl:t.size<=2400:=by omega
   have Q:=L c;clear c h a;have a:=heap_alloc_new w (ba #[S O 0 0] 381);have R:=L a;clear a
   go_loopw [0,5] (λd v wr=>∃(F:List UInt8)(a:ByteArray)(r:List Nat),d=ah a/\M (a0=F++a.data.toList)/\a.size<=2400/\Wds wr v r/\Lim.Small r/\M (fq r=bM F)/\r.length<=F.length/\M (Below w.heap.size w wr)/\
    M (wr.heap[w.heap.size]?=I (ba #[S O 0 0] 381 (0,0)))) (λd _ _=>match d with| .string b=>b.size|_=>0)
   case atStart=>exact⟨[],t,[],rfl,L (by rw[HTT.o];rfl),htl,Wds.E0 _,(λx f=>by cases f),L rfl,bz _,L ((Below.refl _ _).alloc (bz _) _),R⟩
   case round=>
    obtain⟨F,a,r,rfl,K,hrs,hw,T,u,hlen,y,hbx⟩:=hrel
    by_cases A:a.size=0
    .have C:¬(0:Int)<(a.size:Int):=by omega
     go_wp2_with fail
     have g:bM a0=bM F:=by
      have:a.data.toList= []:=dt (by rw[Y];exact A);rw[K.o,this,List.append_nil]
     have c:ei (bM a0)<=8192:=aHg (by have:=Q.o;omega) (λx f=>(p.o x f).2);have HV:=L (show fq r=bM s.data.toList by rw[u.o,<-g,P.o]);rw[P.o]at c;have HF:=L c;clear g c;refine(jK _ r _ T hw).mono ?_;rintro e w2 ⟨a2,k2,c2,rfl,h,g⟩;have m:=L (keep hbx.o g);have o:=L (chain y.o g);rw[HV.o]at h;have B:=L h;clear h g;go_wp2_with fail;refine(m6 a2 k2 c2 (bM s.data.toList) _ B.o (ej (Lim.short (k:=128) HF.o) (by decide))).mono ?_;rintro e w3 ⟨a3,k3,c3,rfl,q,z⟩;have c:=L (keep m.o z);have D:=L (chain o.o z);rw[uP HF.o]at q;rw[aBo HF.o];have HW3:=L q;clear q z;have q:=cell_of_one c.o;have z:=free_of_one c.o;go_wp2_with fail;exact G (v:=ae #[.agg #[S a3 k3 c3],fm]) (by simp[E,results230,go_sem,q]) rfl ⟨a3,k3,c3,rfl,HW3.o.D6 c.o (by decide) _ _,D.o.setCell (bz _) _⟩
    .have C:(0:Int)<(a.size:Int):=by omega
     obtain⟨k,hk⟩:∃k:Nat,min 18 a.size=k:=⟨_,rfl⟩;have hk1:k<=18:=by omega
     have j:k<=a.size:=by omega
     have hk0:1<=k:=by omega
     have hkm:min (18:Int) (a.size:Int)=(k:Int):=by omega
     clear hk;go_wp2_with fail;clear A C
     go_loop [49,7,8] (λi x q=>∃n:Nat,n<=k/\i=J X n/\x=J .u64 (bM (a.data.toList.take n):Nat)/\q=J .u64 (10^n:Nat)) (λi _ _=>k-(bm i).toNat)
     case atStart=>exact⟨0,by omega,rfl,rfl,rfl⟩
     case round=>
      obtain⟨n,hn,rfl,rfl,rfl⟩:=hrel
      by_cases hnk:n<k
      .have C:n<a.size:=by omega
       have hdg:=p.o a[n] (by rw[K.o];exact ek _ (eh C))
       have c:bM (a.data.toList.take (n+1))=10*bM (a.data.toList.take n)+(a[n].toNat-48):=by
        rw[List.take_succ,fe (by rw[Y];exact C)];exact sD _ _
       have D:bM (a.data.toList.take n)<10^n:=by
        have:=j8 (l:=a.data.toList.take n) (λx f=>(p.o x (by rw[K.o];exact ek _ (ee f))).2)
        rwa[cz,dh (by rw[Y];exact Nat.le_of_lt C)]at this
       have hp:10^n<=10^17:=cw (by decide) (by omega);have hps:10^(n+1)=10^n*10:=Nat.pow_succ 10 n;have z:(((10^(n+1):Nat)):Int)=((10^n:Nat):Int)*10:=by rw[hps];omega
       have A:((bM (a.data.toList.take (n+1)):Nat):Int)=10*((bM (a.data.toList.take n):Nat):Int)+(((a[n].toNat:Nat):Int)-48):=by rw[c];omega
       have HS1:=L A;have HS2:=L z;clear c A hps z;have c:(10:Nat)^17=100000000000000000:=by decide
       rw[c]at hp;clear c;obtain⟨x,f⟩:∃x,bM (a.data.toList.take n)=x:=⟨_,rfl⟩;obtain⟨q,c⟩:∃x,10^n=x:=⟨_,rfl⟩;rw[f,c]at D;rw[c]at hp;simp only[f,c]at*;clear f c;obtain⟨dg,z⟩:∃d,a[n].toNat=d:=⟨_,rfl⟩;simp only[z]at hdg HS1;go_wp2_with fail;refine⟨⟨n+1,by omega,by go_num,congrArg (J .u64) HS1.o.symm,congrArg (J .u64) HS2.o.symm⟩,by simp[bm];omega⟩
      .have A:n=k:=by omega
       subst A
       have D:bM (a.data.toList.take n)<10^n:=by
        have:=j8 (l:=a.data.toList.take n) (λx f=>(p.o x (by rw[K.o];exact ek _ (ee f))).2)
        rwa[cz,dh (by rw[Y];exact j)]at this
       have hp:10^n<=10^18:=cw (by decide) hk1;have z:(10:Nat)^18=1000000000000000000:=by decide
       rw[z]at hp
       have C:a0=(F++a.data.toList.take n)++(a.extract n a.size).data.toList:=by
        have he:(a.extract n a.size).data.toList=a.data.toList.drop n:=by
         simp[fi]
        rw[he,List.append_assoc,fh];exact K.o
       have hvn:bM (F++a.data.toList.take n)=bM F*10^n+bM (a.data.toList.take n):=by
        have:=jJ F (a.data.toList.take n)
        rwa[cz,dh (by rw[Y];exact j)]at this
       have hln:(F++a.data.toList.take n).length=F.length+n:=by
        rw[cr,cz,dh (by rw[Y];exact j)]
       have hes:(a.extract n a.size).size=a.size-n:=by simp
       have hLl:F.length<=2400:=by
        have:=congrArg List.length K.o;rw[cr]at this;have:=Q.o;omega
       have HSP:=L C;have HVN:=L hvn;have HLN:=L hln;have HES:=L hes;clear z C hvn hln hes;obtain⟨x,f⟩:∃x,bM (a.data.toList.take n)=x:=⟨_,rfl⟩;obtain⟨q,c⟩:∃x,10^n=x:=⟨_,rfl⟩;rw[f,c]at D;rw[c]at hp;simp only[f,c]at*;clear f c;go_wp2_with fail;refine(yV _ r q x _ hw T (by omega) (by omega) (by omega)).mono ?_;rintro e w2 ⟨a2,c2,r2,rfl,h,c,f,z,g⟩;have m:=L (keep hbx.o g);have o:=L (chain y.o g);have C:=L f;have HL2:=L z;have B:=L h;clear f z g h;go_wp2_with fail;refine⟨⟨F++a.data.toList.take n,a.extract n a.size,r2,rfl,HSP,by rw[HES.o];omega,B.o,c,L (by rw[C.o,u.o,HVN.o]),by rw[HLN.o,HL2.o];omega,o,m⟩,?_⟩
       show(a.extract n a.size).size<a.size
       rw[HES.o];omega
end Go.Proofs.YtakkmiomhackiaaGreatDoor
