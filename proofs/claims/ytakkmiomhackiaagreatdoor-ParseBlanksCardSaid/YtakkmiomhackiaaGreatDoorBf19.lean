/-
  The program, one part of its walk. Conditions: none.
-/
import Derived.Test.YtakkmiomhackiaaGreatDoorBf15
import Derived.Test.YtakkmiomhackiaaGreatDoorBf17
set_option linter.all false
set_option maxRecDepth 100000
set_option maxHeartbeats 16000000
open Go.Proofs.Tryz
open Bool renaming false->ac,true->ag,true_and->ga
open Go renaming Addr->cr,Calls->D,Ending->dh,Value->E,World->S,bodyPost_ret->bh,heap_alloc_new->bp,lt_of_block->du,maxLen->fh,results->cz,results_none->dm
open Go.Calls renaming quiet_of_same->cw
open Go.Ending renaming returned->ah
open Go.FloatKind renaming f64->dl
open Go.Instr renaming typeAssert->av
open Go.IntKind renaming i64->O,u8->Z,wrap_i64->ct
open Go.Lib renaming trimLeftB->ba,trimRightB->dw
open Go.Obj renaming cells->V,map->cv
open Go.Proofs.Tryz renaming func112->cg,func114->fc,func117->dp,func147->ck,func151->ep,func80->ee,func84->em,ntmps112->cj,ntmps114->fe,ntmps117->dq,ntmps147->co,ntmps151->et,ntmps80->eh,ntmps84->eo,prog->Y,results111->dy
open Go.Proofs.YtakkmiomhackiaaGreatDoor.Fr renaming list->bx,object->fi
open Go.Proofs.YtakkmiomhackiaaGreatDoor.Keeps renaming A0->bm,A8->aj
open Go.Proofs.YtakkmiomhackiaaGreatDoor.Ps renaming C9->bz,D0->ez,F3->fa,F9->fv,J5->fj
open Go.Proofs.YtakkmiomhackiaaGreatDoor.Since renaming trans->fg
open Go.Result renaming ok->au
open Go.RowKit renaming Below->ar
open Go.RowKit.Below renaming heap_alloc->fw,refl->bk
open Go.Value renaming agg->ak,bool->ai,float->dj,iface->ae,int->I,map->bw,nilIface->bu,pointer->X,slice->K,string->aw,tuple->af
open Go.World renaming size_alloc->fz
open List renaming getElem?_append_left->di,getElem?_append_right->eu,getElem?_eq_some_iff->ew,length->fm,length_append->dx,length_cons->fq,length_nil->dt,map_cons->fu,setIfInBounds_toArray->ei,set_cons_succ->ek,set_cons_zero->ej
open Nat renaming le_refl->bc,le_trans->cu,lt_of_lt_of_le->bj,not_lt->ao,sub_self->ev,zero_le->fk
open Option renaming none->N,some->J
open Option.some renaming inj->ft
open Or renaming inl->U,inr->H
open UInt8 renaming toNat_inj->dv
namespace Go.Proofs.YtakkmiomhackiaaGreatDoor
open Go.RowKit
variable {a:List E}{v:E}
def aH9(neg:Bool){a:Oo}(e:Int)(h:∀c∈a,isD c=ag):gC (cB neg a e)/\(cB neg a e).b.length<=a.length/\((cB neg a e).c=0\/(e<=(cB neg a e).c/\(cB neg a e).c<=e+a.length)):=by
 have o:ba a 48<+:ba a 48:=List.prefix_refl _;have f:(ba a 48).Sublist a:=List.dropWhile_sublist _
 have d:dw (ba a 48) 48<+:ba a 48:=by
  have:=List.dropWhile_suffix (l:=(ba a 48).reverse) (λx:UInt8=>x==48);unfold dw;rw[<-List.reverse_suffix,List.reverse_reverse];exact this
 have m:∀c t,ba a 48=c::t->c≠48:=by
  intro c t g;have:=List.head?_dropWhile_not (λx:UInt8=>x==48) a;unfold ba at g;rw[g]at this
  simpa using this
 have n:=f.length_le;have k:=d.length_le;unfold cB;generalize dw (ba a 48) 48=p at*;generalize ba a 48=T at*
 by_cases i:p= []
 .rw[if_pos i];exact⟨⟨λc b=>by simp at b,λc t b=>by simp at b⟩,fk _,U rfl⟩
 .rw[if_neg i];refine⟨⟨λc b=>h c (f.subset (d.subset b)),λc t b=>?_⟩,by simp only;omega,H ⟨by simp only;omega,by simp only;omega⟩⟩;simp only at b;obtain⟨r,j⟩:=d;rw[b]at j;exact m c _ j.symm
def aJv.all{l W:Oo}{P:Option Oo}{f:Option mX}(h:aJv l W P f):(∀c∈W++P.getD [],isD c=ag)/\(W++P.getD []).length<=l.length/\(P.getD []).length<=l.length:=by
 have d:=congrArg fm h.is;rw[dx,dx]at d;refine⟨λc e=>?_,?_,?_⟩
 .rcases List.mem_append.1 e with b|b
  .exact h.b c b
  .cases a:P with
   | none=>rw[a]at b;simp at b
   | some F=>rw[a]at b;exact(h.e F a).2 c b
 .cases a:P with
  | none=>simp;omega
  | some F=>rw[a]at d;simp[pL]at d⊢;omega
 .cases a:P with
  | none=>simp
  | some F=>rw[a]at d;simp[pL]at d⊢;omega
def aDz(s:ByteArray)(w:S)(neg:Bool)(W:Oo)(P:Option Oo)(b:Option mX)(q:aAN s.data.toList neg W P b)(t:s.size<=2147483648):
 D Y 91 #[s] w λr w'=>r=ah (uM (bitsOf s.data.toList))/\ar w w w':=by
 rw[aJy q];have c:=A (λf:S=>aH8 s f neg W P b q t);obtain⟨u,k,g⟩:=q;obtain⟨l,y,L⟩:=g.all
 have B:u.length<=s.size:=by
  have:=congrArg fm k;rw[show s.data.toList.length=s.size by simp]at this;cases neg<;>simp at this<;>omega
 have F: -351843720888329<=pW b/\pW b<=351843720888329:=by
  cases a:b with
  | none=>exact⟨by decide,by decide⟩
  | some x=>
   have:=aKh x.X (g.a x a).2.2.2;unfold pW;simp only;split<;>omega
 obtain⟨d,e,h⟩:=aH9 neg (pW b-(P.getD []).length) l;have a:j3 neg W P b=cB neg (W++P.getD []) (pW b-(P.getD []).length):=rfl;rw[<-a]at d e h;obtain⟨⟨m,n,o⟩,p⟩:∃z,j3 neg W P b=z:=⟨_,rfl⟩;rw[p]at c d e h⊢;simp only at e h;obtain⟨C,i⟩:∃C:ByteArray,(⟨n.toArray⟩:ByteArray)=C:=⟨_,rfl⟩;have j:n=C.data.toList:=by rw[<-i]
 unfold fV at c;simp only[i]at c;subst j;rw[show C.data.toList.length=C.size by simp]at e;have G:=A (λf:S=>aFu m C o f d (by omega) (by omega) (by omega));clear p k g l y d i a;generalize cF ⟨m,C.data.toList,o⟩=i at*;go_enter func91,ntmps91;go_wp2_with fail;refine(c.o _).mono ?_;rintro r w1 ⟨rfl,a⟩;go_wp2_with fail;refine(G.o _).mono ?_;rintro r w2 ⟨rfl,d⟩;have g:=chain a d;cases i with
 | none=>
  unfold uM;go_wp2_with fail;exact bh (v:=af #[I .u64 0,ai ac]) (by simp[cz,results91,go_sem]) rfl ⟨rfl,g⟩
 | some x=>
  unfold uM;go_wp2_with fail;exact bh (v:=af #[I .u64 (x:Nat),ai ag]) (by simp[cz,results91,go_sem]) rfl ⟨rfl,g⟩
def aA9(w:S)(b:Nat)(p j m c n f d k q g l i o:E)(a:Option cr)(cap:Nat)(h:w.heap[b]?=J (V #[p,j,m,c,n,f,d,k,q,g,l,i,o,K a 0 cap] 228 (0,0))):
 D Y 111 #[X b] w λe w'=>e=ah (af #[bu,ai ac])/\w'=w:=by
 obtain⟨-,-,-,-,-,-,-,-,-,-,-,-,-,cd,-⟩:=aN h;clear h;go_enter func111,ntmps111;go_wp2_with fail;exact bh (v:=af #[bu,ai ac]) (by simp[cz,dy,go_sem]) rfl ⟨rfl,rfl⟩
def aBa(w:S)(b:Nat)(s t u y z B C F G L P Q R a:E)(m:TypeId)(d:E)(toks:List E)(c:w.heap[b]?=J (V #[s,t,u,y,z,B,C,F,G,L,P,Q,R,a] 228 (0,0)))
 (T:Win 232 id w a (ae m d::toks))(hl:toks.length<=1000):
 D Y 111 #[X b] w λe w'=>e=ah (af #[ae m d,ai ag])/\∃g off cap,w'.heap[b]?=J (V #[s,t,u,y,z,B,C,F,G,L,P,Q,R,K (J ⟨g,off,N⟩) toks.length cap] 228 (0,0))/\
  Win 232 id w' (K (J ⟨g,off,N⟩) toks.length cap) toks/\a.ownBlock=J g/\Keeps (λk=>k=b) w w':=by
 obtain⟨-,-,-,-,-,-,-,-,-,-,-,-,-,cd,cf⟩:=aN c;have n:=A (T.ne c (by decide));have a0:=A c;clear c;rcases T with⟨_,hn⟩|⟨g,off,cap,f,rfl,l,o,W,hm,hi⟩
 .cases hn
 .have q:w.cell? ⟨g,off,N⟩=J (ae m d):=by
   have:=hi 0 (ae m d) rfl;rw[aA l];simpa using this
  have c:Win 232 id w (K (g,off+1) toks.length (cap-1)) toks:=
   Win.M5 (x:=ae m d) (H ⟨g,off,cap,f,rfl,l,o,W,hm,hi⟩)
  have HW:=A c
  have j:cap=1->Win 232 id w (K (g,off) toks.length 0) toks:=λg0=>by
   have h:toks= []:=List.eq_nil_of_length_eq_zero (by simp at o;omega);subst h;exact H ⟨g,off,0,f,rfl,l,bc _,by omega,fk _,λi x r=>by cases r⟩
  have r:=A j;clear j;have h:g≠b:=λe=>n.o (by rw[e];rfl)
  have j:=A h;simp only[fq]at*;
  clear l o W hm hi c h;go_enter func111,ntmps111;go_wp2_with fail
  .exact bh (v:=af #[ae m d,ai ag]) (by simp[cz,dy,go_sem]) rfl ⟨rfl,g,off,0,aB a0.o _,(r.o (by first|rfl|omega)).A2 ((aj (λk=>k=b) w).A3 (p:=⟨b,13,N⟩) (U rfl) _) (λk e c=>j.o ((ft e).trans c)),rfl,(aj (λk=>k=b) w).A3 (p:=⟨b,13,N⟩) (U rfl) _⟩
  .exact bh (v:=af #[ae m d,ai ag]) (by simp[cz,dy,go_sem]) rfl ⟨rfl,g,off+1,cap-1,aB a0.o _,HW.o.A2 ((aj (λk=>k=b) w).A3 (p:=⟨b,13,N⟩) (U rfl) _) (λk e c=>j.o ((ft e).trans c)),rfl,(aj (λk=>k=b) w).A3 (p:=⟨b,13,N⟩) (U rfl) _⟩
def aDN(w:S)(b pl c:Nat)(a:Bool)(j k p t l q o s r:E)(h:w.heap[b]?=J (V #[pl,bu,ai ac,j,a,c,k,p,t,l,q,o,s,r] 228 (0,0)))(f:c<=pl)(d:pl<=1073741824):
 D Y 83 #[X b] w λe w'=>e=ah (I O ((if a then pl-c else 0:Nat):Int))/\ar w w w':=by
 have i:=A (aHe w b pl c a _ h rfl rfl rfl f d);obtain⟨n,g⟩:∃n,(if a then pl-c else 0:Nat)=n:=⟨_,rfl⟩;rw[g]at i⊢;obtain⟨-,c1,c2,-,-,-,-,-,-,-,-,-,-,-,-⟩:=aN h;clear h g;go_enter func83,ntmps83;go_wp2_with fail;refine(i.o).mono ?_;rintro e w1 ⟨rfl,m⟩;go_wp2;go_ret;exact⟨rfl,m⟩
def bT(no a:Nat):dh:=.panicked [{v:=cU no a,recovered:=ac}]
def gZ(w:S)(no a:Nat):D Y 81 #[no,a] w λe w'=>e=bT no a/\w'=w:=by
 go_enter func81,ntmps81;go_wp2;exact⟨rfl,rfl,rfl⟩
def b8{w:S}{b:Nat}{g f d c i j e l a k:E}{T:TypeId}(h:w.heap[b]?=J (V #[g,f,d,c,i,j,e,l,a,k] T (0,0))):
 w.cell? b=J g/\w.cell? ⟨b,1,N⟩=J f/\w.cell? ⟨b,2,N⟩=J d/\w.cell? ⟨b,3,N⟩=J c/\w.cell? ⟨b,4,N⟩=J i/\w.cell? ⟨b,5,N⟩=J j/\w.cell? ⟨b,6,N⟩=J e/\w.cell? ⟨b,7,N⟩=J l/\
 w.cell? ⟨b,8,N⟩=J a/\w.cell? ⟨b,9,N⟩=J k/\∀o,w.frozen? ⟨b,o,N⟩=ac:=
 ⟨aA h,aA h,aA h,aA h,aA h,aA h,aA h,aA h,aA h,aA h,free_at h⟩
def mH(w:S):D Y 80 #[bu] w λe w'=>e=ah (af #[])/\w'=w:=by
 go_enter ee,eh;go_wp2
 first
  | (go_end0;exact⟨rfl,rfl⟩)
  | exact bh (dm rfl _ _ _) rfl ⟨rfl,rfl⟩
def zF(w:S)(no a:Nat):D Y 80 #[cU no a] w λe w'=>e=bT (nO no) a/\ar w w w':=by
 have b:∀w:S,(av (ae 151 (ak #[no,a])) 26 151 ac).run Y w=au (ak #[no,a]) w:=λ_=>by kernel_rfl
 unfold cU
 by_cases h:no=94
 .subst h;simp only[Int.cast_ofNat_Int]at b⊢;go_enter ee,eh;go_wp2;exact⟨rfl,rfl,(bk _ _).alloc (bc _) _⟩
 .have d:((no:Int)==94)=ac:=by simp;omega
  have c:nO no=no:=if_neg h;rw[c];clear c h;go_enter ee,eh;go_wp2;exact⟨rfl,rfl,(bk _ _).alloc (bc _) _⟩
def aKt(w:S)(p d want b c n cap:Nat)(a:Option cr)(i l f j m g:E)(h:w.heap[p]?=J (V #[d,i,l,f,K a n cap,want,b,j,m,g] 136 (0,0)))(q:want=0\/want=1)(r:n≠d)(o:b<65536):
 D Y 117 #[X p,c] w λe w'=>e=ah (af #[])/\w'.heap[p]?=J (V #[d,i,l,f,K a n cap,want,I O (b+1:Nat),j,m,g] 136 (0,0))/\Keeps (λk=>k=p) w w':=by
 obtain⟨s,-,-,-,u,x,z,-,-,-,v⟩:=b8 h;have B:=A h;have y:((n:Int)==(d:Int))=ac:=by simp;omega
 have t:((b:Int)==65536)=ac:=by simp;omega
 clear h r;rcases q with rfl|rfl
 all_goals
  go_enter dp,dq;go_wp2;go_region;go_wp2
  go_end0
  exact⟨rfl,aB (w:=w.drew) B.o _,((aj (λk=>k=p) w).B0).A3 (p:=⟨p,6,N⟩) (U rfl) _⟩
def aB8(w:S)(p want a:Nat)(n i l c m d j o f:E)(h:w.heap[p]?=J (V #[n,i,l,c,m,want,d,j,o,f] 136 (0,0)))(k:want≠0/\want≠1):
 D Y 117 #[X p,a] w λe w'=>e=bT 120 a/\ar w w w':=by
 obtain⟨t,c1,c2,x,u,y,C,s,q,r,v⟩:=b8 h
 have z:((want:Int)!=0)=ag:=by simp;omega
 have B:((want:Int)!=1)=ag:=by simp;omega
 have g:=A (λw=>gZ w 120 a);clear h k;go_enter dp,dq;go_wp2_with fail;refine(g.o _).mono ?_;rintro e w1 ⟨b,rfl⟩;unfold bT at b;subst b;go_wp2_with fail;exact⟨rfl,rfl,bk _ _⟩
def aDO(w:S)(p d want b cap:Nat)(a:Option cr)(k n f g l o i:E)(h:w.heap[p]?=J (V #[d,k,n,f,K a d cap,want,g,l,o,i] 136 (0,0)))(m:want=0\/want=1):
 D Y 117 #[X p,b] w λe w'=>e=bT 121 b/\ar w w w':=by
 obtain⟨q,-,-,-,r,s,-,-,-,-,-⟩:=b8 h;have j:=A (λw=>gZ w 121 b);clear h;rcases m with rfl|rfl
 all_goals
  go_enter dp,dq;go_wp2;go_region;go_wp2_with fail;refine(j.o _).mono ?_;rintro e w1 ⟨c,rfl⟩;unfold bT at c;subst c;go_wp2_with fail;exact⟨rfl,rfl,(bk _ _).drew⟩
def aFK(w:S)(p d want b n cap:Nat)(a:Option cr)(j m f k q g:E)(h:w.heap[p]?=J (V #[d,j,m,f,K a n cap,want,I O 65536,k,q,g] 136 (0,0)))(l:want=0\/want=1)(o:n≠d):
 D Y 117 #[X p,b] w λe w'=>e=bT 3 b/\ar w w w':=by
 obtain⟨r,-,-,-,s,t,v,-,-,-,-⟩:=b8 h;have u:((n:Int)==(d:Int))=ac:=by simp;omega
 have i:=A (λw=>gZ w 3 b);clear h o;rcases l with rfl|rfl
 all_goals
  go_enter dp,dq;go_wp2;go_region;go_wp2_with fail;refine(i.o _).mono ?_;rintro e w1 ⟨c,rfl⟩;unfold bT at c;subst c;go_wp2_with fail;exact⟨rfl,rfl,(bk _ _).drew⟩
def aIk(w:S)(p bytes b:Nat)(s:ByteArray)(x l m f r i g y j:E)(h:w.heap[p]?=J (V #[x,l,m,f,r,i,g,bytes,y,j] 136 (0,0)))(F:bytes<=1073741824)(B:s.size<=1073741824):
 D Y 149 #[X p,s,b] w λe w'=>(bytes+s.size<=2097152->e=ah (af #[]))/\(2097152<bytes+s.size->e=bT 3 b)/\w'.heap[p]?=J (V #[x,l,m,f,r,i,g,I O (bytes+s.size:Nat),y,j] 136 (0,0))/\Keeps (λk=>k=p) w w':=by
 obtain⟨-,-,-,-,-,-,-,G,-,-,L⟩:=b8 h;have z:=A (λw=>gZ w 3 b);obtain⟨n,u⟩:∃n,s.size=n:=⟨_,rfl⟩;rw[u]at B;have q:=A u;have a:=aB (o:=7) h (I O ((bytes+n:Nat):Int));simp only[ei,ej,ek]at a;have t:=A a;clear h a
 by_cases d:bytes+n<=2097152
 .have C:(bytes:Int)+(n:Int)<=2097152:=by omega
  have c:=A d;clear d;go_enter func149,ntmps149;go_wp2
  go_end0
  rw[q.o];exact⟨λ_=>rfl,λh=>absurd c.o (Nat.not_le.2 h),t.o,(aj (λk=>k=p) w).A3 (p:=⟨p,7,N⟩) (U rfl) _⟩
 .have C:¬(bytes:Int)+(n:Int)<=2097152:=by omega
  have c:=A d;clear d;go_enter func149,ntmps149;go_wp2_with fail;refine(z.o _).mono ?_;rintro e w1 ⟨v,rfl⟩;unfold bT at v;subst v;go_wp2_with fail;rw[q.o];exact⟨rfl,λh=>absurd h c.o,λ_=>rfl,t.o,(aj (λk=>k=p) w).A3 (p:=⟨p,7,N⟩) (U rfl) _⟩
def cI(e:dh):Prop:=e=ah (af #[])\/∃no a,e=bT no a
def aB9(w:S)(p pl want:Nat)(v t o u q s x r:E)(c:UInt8)(Q:dh->S->Prop)(h:w.heap[p]?=J (V #[v,pl,t,o,u,want,q,s,x,r] 136 (0,0)))(m:c≠34\/(want≠2/\want≠3))
 (k:D Y 117 #[X p,pl] w λe w'=>cI e/\Q e w'):
 D Y 84 #[X p,I Z c.toNat] w Q:=by
 obtain⟨-,c1,-,-,-,B,-,-,-,-,-⟩:=b8 h;have l:=A k
 have i:¬c=34\/(c=34/\((want:Int)==2)=ac/\((want:Int)==3)=ac):=by
  by_cases a:c=34
  .right;have:=m.resolve_left (λh=>h a);exact⟨a,by simp;omega,by simp;omega⟩
  .exact U a
 clear h k m;rcases i with a|⟨a,z,C⟩
 .obtain⟨-,y,-⟩:=aD (c:=c) (d:=34) (n:=34) a rfl;clear a;go_enter em,eo;go_wp2_with fail;refine(l.o).mono ?_;rintro e w1 ⟨rfl|⟨no,j,g⟩,f⟩
  .have b:=A f;clear f;go_wp2_with fail
   first
    | (go_end0;exact b.o)
    | exact b.o
  .have b:=A f;clear f;have F:=A g;unfold bT at g;subst g;go_wp2_with fail;exact⟨rfl,b.o⟩
 .have k:(c.toNat:Int)=34:=by rw[a];rfl
  clear a;go_enter em,eo;go_wp2_with fail;refine(l.o).mono ?_;rintro e w1 ⟨rfl|⟨no,j,g⟩,f⟩
  .have b:=A f;clear f;go_wp2_with fail
   first
    | (go_end0;exact b.o)
    | exact b.o
  .have b:=A f;clear f;unfold bT at g;subst g;go_wp2_with fail;exact⟨rfl,b.o⟩
def aIl(w:S)(p cap:Nat)(a:Option cr)(j f i b m c g l d:E)(h:w.heap[p]?=J (V #[j,f,i,b,K a 0 cap,m,c,g,l,d] 136 (0,0))):
 D Y 151 #[X p] w λe w'=>e=ah (af #[])/\w'.heap[p]?=J (V #[j,f,i,b,K a 0 cap,I O 6,c,g,l,d] 136 (0,0))/\Keeps (λk=>k=p) w w':=by
 obtain⟨-,-,-,-,n,q,-,-,-,-,o⟩:=b8 h;have r:=A h;clear h;go_enter ep,et;go_wp2_with fail
 first
  | (go_end0;exact⟨rfl,aB (aB r.o _) _,((Keeps.refl (λk=>k=p) w).setCell (p:=⟨p,5,none⟩) (.inl rfl) _).setCell (p:=⟨p,5,none⟩) (.inl rfl) _⟩)
  | exact bh (dm rfl _ _ _) rfl ⟨rfl,aB (aB r.o _) _,((aj (λk=>k=p) w).A3 (p:=⟨p,5,N⟩) (U rfl) _).A3 (p:=⟨p,5,N⟩) (U rfl) _⟩
def aKu(w:S)(p g off n cap a m:Nat)(r s t u G v x y z:E)(F:w.heap[p]?=J (V #[r,s,t,u,K (g,off) (n+1) cap,G,v,x,y,z] 136 (0,0)))
 (B:w.cell? ⟨g,off+n,N⟩=J (ae 272 (X a)))(o:g≠p)(l:w.heap[a]?=J (V #[m] 274 (0,0)))(T:n<=1048576)(W:m<=1073741824):
 D Y 151 #[X p] w λe w'=>e=ah (af #[])/\w'.heap[p]?=J (V #[r,s,t,u,K (g,off) (n+1) cap,I O 5,v,x,y,z] 136 (0,0))/\w'.heap[a]?=J (V #[I O (m+1:Nat)] 274 (0,0))/\Keeps (λk=>k=p\/k=a) w w':=by
 have L:∀w:S,(av (ae 272 (X a)) 281 272 ag).run Y w=au (af #[X a,ai ag]) w:=λ_=>by kernel_rfl
 obtain⟨-,-,-,-,P,Q,-,-,-,-,R⟩:=b8 F
 have c:p≠a:=by
  intro e;subst e;rw[F]at l;simp at l
 have d:(w.setCell ⟨p,5,N⟩ (I O 5)).heap[p]?=_:=aB F _;have h:(w.setCell ⟨p,5,N⟩ (I O 5)).heap[a]?=_:=(aE _ (λe=>c e.symm)).trans l;have i:(w.setCell ⟨p,5,N⟩ (I O 5)).cell? ⟨g,off+n,N⟩=_:=((aj (λk=>k=p) w).A3 (p:=⟨p,5,N⟩) (U rfl) _).B3 B o;have C:=A ((aj (λk=>k=p\/k=a) w).A3 (p:=⟨p,5,N⟩) (U (U rfl)) (I O 5));simp only[ei,ej,ek]at d;have f:=A d;have b:=A h;have j:=A i;have q:=A c;clear F B l d h i c;go_enter ep,et;go_wp2_with fail;obtain⟨w2,c⟩:∃w2,w.setCell ⟨p,5,N⟩ (I O 5)=w2:=⟨_,rfl⟩;rw[c]at C f b j⊢;obtain⟨-,-,-,-,B,-,-,-,-,-,-⟩:=b8 f.o;have d:=j.o;have h:=cell_of_one b.o;have i:=free_of_one b.o;have l:O.wrap ((n:Int)+1-1)=(n:Int):=by rw[ct];omega
 clear c P Q R;go_region;go_wp2
 go_end0
 exact⟨rfl,(aE (w:=w2.drew) _ q.o).trans f.o,aB (w:=w2.drew) b.o _,(C.o.B0).A3 (p:=a) (U (H rfl)) _⟩
def aFL(w:S)(p g off n cap t:Nat)(v q s j y l r x m:E)(h:w.heap[p]?=J (V #[v,q,s,j,K (g,off) (n+1) cap,y,l,r,x,m] 136 (0,0)))
 (o:w.cell? ⟨g,off+n,N⟩=J (ae 275 (X t)))(i:g≠p)(P:n<=1048576):
 D Y 151 #[X p] w λe w'=>e=ah (af #[])/\w'.heap[p]?=J (V #[v,q,s,j,K (g,off) (n+1) cap,I O 5,l,r,x,m] 136 (0,0))/\Keeps (λk=>k=p) w w':=by
 have L:∀w:S,(av (ae 275 (X t)) 281 272 ag).run Y w=au (af #[X N,ai ac]) w:=λ_=>by kernel_rfl
 obtain⟨-,-,-,-,B,F,-,-,-,-,C⟩:=b8 h;have a:(w.setCell ⟨p,5,N⟩ (I O 5)).heap[p]?=_:=aB h _;have f:(w.setCell ⟨p,5,N⟩ (I O 5)).cell? ⟨g,off+n,N⟩=_:=((aj (λk=>k=p) w).A3 (p:=⟨p,5,N⟩) (U rfl) _).B3 o i;have u:=A ((aj (λk=>k=p) w).A3 (p:=⟨p,5,N⟩) (U rfl) (I O 5));simp only[ei,ej,ek]at a;have b:=A a;have d:=A f;clear h o a f;go_enter ep,et;go_wp2_with fail;obtain⟨w2,c⟩:∃w2,w.setCell ⟨p,5,N⟩ (I O 5)=w2:=⟨_,rfl⟩;rw[c]at u b d⊢;obtain⟨-,-,-,-,Q,-,-,-,-,-,-⟩:=b8 b.o;have z:=d.o;have G:O.wrap ((n:Int)+1-1)=(n:Int):=by rw[ct];omega
 clear c B F C;go_region;go_wp2
 go_end0
 exact⟨rfl,b.o,u.o.B0⟩
def aFM(w:S)(p want:Nat)(n i l d m f j o g:E)(c:UInt8)(h:w.heap[p]?=J (V #[n,i,l,d,m,want,f,j,o,g] 136 (0,0)))(b:c=34)(k:want=2\/want=3):
 D Y 84 #[X p,I Z c.toNat] w λe w'=>e=ah (af #[])/\ar w w w':=by
 obtain⟨-,-,-,-,-,q,-,-,-,-,-⟩:=b8 h;have a:(c.toNat:Int)=34:=by rw[b];rfl
 rw[a];clear h b a;rcases k with rfl|rfl
 all_goals
  go_enter em,eo;go_wp2_with fail
  first
   | (go_end0;exact⟨rfl,Below.refl _ _⟩)
   | exact bh (dm rfl _ _ _) rfl ⟨rfl,bk _ _⟩
section
inductive LS|at_(x:Lx)(dn:Bool)|dead(pl st:Nat)(errV:E)
def lI(F:Nat->Prop)(w:S)(b:Nat)(toks:List Tok):LS->Prop
 | .at_ x c=>cG F w b x c toks
 | .dead pl d a=>dU F w b pl d a toks
section
variable {F G:Nat->Prop} {w w':S} {b:Nat} {toks:List Tok} {s:LS}
def lI.block(h:lI F w b toks s):F b:=by cases s<;>exact h.1
def lI.lt(h:lI F w b toks s):∀k,F k->k<w.heap.size:=by cases s<;>exact h.2.1
def lI.D8(h:lI F w b toks s)(c:Keeps G w w')(a:∀k,F k->¬G k):lI F w' b toks s:=by
 cases s with
 | at_ x e=>exact cG.D8 h c a
 | dead pl f d=>exact dU.D8 h c a
end
def aDT(F:Nat->Prop)(w:S)(b:Nat)(t:Tok)(toks:List Tok)(s:LS)(C:lI F w b (t::toks) s)(W:toks.length<=999):
 D Y 111 #[X b] w λe w'=>e=ah (af #[bU t,ai ag])/\lI F w' b toks s/\Keeps (λk=>k=b) w w':=by
 have o:(toks.map bU).length<=1000:=by simp;omega
 obtain⟨P,r,u⟩:∃P r,bU t=ae P r:=by cases t<;>exact⟨_,_,rfl⟩
 cases s with
 | at_ x dn=>
  obtain⟨v,h,p,y,i,c,n,q,G⟩:=C;have d:=q.1;rw[fu,u]at d;rw[u];refine(aBa w b _ _ _ _ _ _ _ _ _ _ _ _ _ c P r (toks.map bU) n d o).mono ?_;rintro e w' ⟨rfl,g,off,cap,j,l,z,a⟩;refine⟨rfl,⟨v,λk m=>bj (h k m) a.size,p,y,i,_,j,⟨by simpa using l,λk e=>by cases e;exact q.2 _ z⟩,⟨λC=>?_,λC=>?_⟩⟩,a⟩
  .have B:=G.g C;exact⟨B.1.A2 a (λk e a=>B.1.ne n (by decide) (e.trans (congrArg J a))),B.2⟩
  .obtain⟨B,f,pl,Q,L,R,T⟩:=G.text C;exact⟨⟨B.1.A2 a (λk e a=>B.1.ne n (by decide) (e.trans (congrArg J a))),B.2⟩,f,pl,Q,L.A2 a (oZ L n (by decide)),R,T⟩
 | dead pl p i=>
  obtain⟨v,h,y,B,G,L,Q,R,T,va,vb,vc,c,n,q⟩:=C;have d:=q.1;rw[fu,u]at d;rw[u];refine(aBa w b _ _ _ _ _ _ _ _ _ _ _ _ _ c P r (toks.map bU) n d o).mono ?_;rintro e w' ⟨rfl,g,off,cap,j,l,z,a⟩;exact⟨rfl,⟨v,λk m=>bj (h k m) a.size,_,_,_,_,_,_,_,_,_,_,_,j,⟨by simpa using l,λk e=>by cases e;exact q.2 _ z⟩⟩,a⟩
def aCd(F:Nat->Prop)(w:S)(b:Nat)(s:LS)(h:lI F w b [] s):
 D Y 111 #[X b] w λe w'=>e=ah (af #[bu,ai ac])/\w'=w:=by
 cases s with
 | at_ x r=>
  obtain⟨-,-,k,l,i,d,f,g,-⟩:=h;obtain⟨a,c,rfl⟩:=g.1.A7;exact aA9 w b _ _ _ _ _ _ _ _ _ _ _ _ _ a c f
 | dead pl y j=>
  obtain⟨-,-,t,m,v,n,q,B,o,u,p,z,d,f,g⟩:=h;obtain⟨a,c,rfl⟩:=g.1.A7;exact aA9 w b _ _ _ _ _ _ _ _ _ _ _ _ _ a c f
def jU(Q:Nat->Prop)(w:S)(v:E):Fr->Prop
 | .list m=>∃b,v=ae 272 (X (J ⟨b,0,N⟩))/\w.heap[b]?=J (V #[m] 274 (0,0))/\Q b
 | .object keys=>∃b c a,v=ae 275 (X (J ⟨b,0,N⟩))/\w.heap[b]?=J (V #[a,bw (J c)] 278 (0,0))/\Q b/\eK Q 9 encS w a keys/\(keys= []->a=K N 0 0)/\eY w c keys.reverse/\Q c
structure eO(F:Nat->Prop)(w:S)(v:E)(pile:List Fr)(vals:List E):Prop where
 lt:∀k,F k->k<w.heap.size
 a:eK F 281 id w v vals
 c:vals.length=pile.length
 b:∃Q:Nat->Nat->Prop,(∀i k,Q i k->F k/\v.ownBlock≠J k)/\(∀i j k,Q i k->Q j k->i=j)/\∀(i:Nat)(u:E)(fr:Fr),vals[i]?=J u->pile[i]?=J fr->jU (Q i) w u fr
def jU.A2{Q G:Nat->Prop}{w w':S}{j:Fr}(h:jU Q w v j)(d:Keeps G w w')(c:∀k,Q k->¬G k):jU Q w' v j:=by
 cases j with
 | list m=>obtain⟨b,i,f,a⟩:=h;exact⟨b,i,d.B7 f (c b a),a⟩
 | object k=>
  obtain⟨b,l,q,i,f,a,g,o,p,n⟩:=h;exact⟨b,l,q,i,d.B7 f (c b a),a,⟨g.1.A2 d (λk e=>c k (g.2 k e)),g.2⟩,o,p.A2 d (c l n),n⟩
def eO.A2{F G:Nat->Prop}{w w':S}{b:List Fr}(h:eO F w v b a)(c:Keeps G w w')(f:∀k,F k->¬G k):eO F w' v b a:=by
 obtain⟨Q,g,j,p⟩:=h.b;exact⟨λk d=>bj (h.lt k d) c.size,⟨h.a.1.A2 c λk e=>f k (h.a.2 k e),h.a.2⟩,h.c,Q,g,j,λi u m o n=>(p i u m o n).A2 c (λk l=>f k (g i k l).1)⟩
def eO.nil(w:S):eO (λ_=>False) w (K N 0 0) [] []:=⟨λ_ h=>h.elim,.nil _ _ _ _,rfl,λ_ _=>False,λ_ _ h=>h.elim,λ_ _ _ h=>h.elim,λi u b a=>by simp at a⟩
def eO.P6{F:Nat->Prop}{w:S}{a:List Fr}{r:Fr}{b:List E}(h:eO F w v (a++ [r]) b):
 ∃(Q:Nat->Prop)(u:E),(∀k,Q k->F k/\v.ownBlock≠J k)/\b[a.length]?=J u/\jU Q w u r/\
  ∀(w':S)(G:Nat->Prop)(l:Fr),Keeps G w w'->(∀k,G k->F k->Q k)->jU (Since Q w w') w' u l->eO (Since F w w') w' v (a++ [l]) b:=by
 obtain⟨Q,f,q,L⟩:=h.b;have o:b.length=a.length+1:=by rw[h.c];simp
 obtain⟨u,B⟩:∃u,b[a.length]?=J u:=⟨_,List.getElem?_eq_getElem (by omega)⟩;refine⟨Q a.length,u,f _,B,L _ u r B (by simp),λw' G l y P t=>?_⟩;refine⟨aF h.lt y.size,⟨h.a.1.A2 y λk e x=>(f _ k (P k x (h.a.2 k e))).2 e,λk e=>U (h.a.2 k e)⟩,by simp[o],λi k=>if i=a.length then Since (Q a.length) w w' k else Q i k,?_,?_,?_⟩
 .intro i k c
  try simp only[]at c
  split at c
  .rcases c with c|c
   .exact⟨U (f _ k c).1,(f _ k c).2⟩
   .exact⟨H c,λe=>absurd (h.a.1.lt e) (ao.2 c.1)⟩
  .exact⟨U (f i k c).1,(f i k c).2⟩
 .intro i j k hi d
  try simp only[]at hi d
  split at hi
  .split at d
   .omega
   .rcases hi with hi|hi
    .rename_i R C;rw[R];exact q _ _ k hi d
    .exact absurd (h.lt k (f j k d).1) (ao.2 hi.1)
  .split at d
   .rcases d with d|d
    .rename_i R C;rw[C];exact q _ _ k hi d
    .exact absurd (h.lt k (f i k hi).1) (ao.2 d.1)
   .exact q i j k hi d
 .intro i T m g s
  by_cases hi:i=a.length
  .subst hi;rw[B]at g;cases g;rw[eu (bc _),ev]at s;cases s;simp only[if_pos];exact t
  .have p:i<a.length:=by
    have:=(ew.1 g).1;omega
   rw[di p]at s;have z:(a++ [r])[i]?=J m:=by rw[di p];exact s
   have n:=(L i T m g z).A2 y (λk c x=>hi (q i a.length k c (P k x (f i k c).1)))
   simpa only[if_neg hi]using n
def eO.O1{F G:Nat->Prop}{w w':S}{m:E}{d:List Fr}{u:E}{y:Fr}(h:eO F w v d a)(x:Keeps G w w')(R:∀k,G k->F k->v.ownBlock=J k)(z:Win 281 id w' m (a++ [u]))
 (c:∀k,m.ownBlock=J k->v.ownBlock=J k\/w.heap.size<=k)(q:jU (λk=>w.heap.size<=k/\k<w'.heap.size/\m.ownBlock≠J k) w' u y):eO (Since F w w') w' m (d++ [y]) (a++ [u]):=by
 obtain⟨Q,g,B,P⟩:=h.b;have f:=h.c;refine⟨aF h.lt x.size,⟨z,λk e=>(c k e).elim (λe=>U (h.a.2 k e)) (λt=>H ⟨t,z.lt e⟩)⟩,by simp[f],λi k=>if i=a.length then(w.heap.size<=k/\k<w'.heap.size/\m.ownBlock≠J k)else Q i k,?_,?_,?_⟩
 .intro i k b
  try simp only[]at b
  split at b
  .exact⟨H ⟨b.1,b.2.1⟩,b.2.2⟩
  .refine⟨U (g i k b).1,λe=>?_⟩;rcases c k e with e|e
   .exact(g i k b).2 e
   .exact absurd (h.lt k (g i k b).1) (ao.2 e)
 .intro i j k hi l
  try simp only[]at hi l
  split at hi
  .split at l
   .omega
   .exact absurd (h.lt k (g j k l).1) (ao.2 hi.1)
  .split at l
   .exact absurd (h.lt k (g i k hi).1) (ao.2 l.1)
   .exact B i j k hi l
 .intro i L r o p
  by_cases hi:i=a.length
  .subst hi;rw[eu (bc _),ev]at o;rw[f,eu (bc _),ev]at p;cases o;cases p;simp only[if_pos];exact q
  .have s:i<a.length:=by
    have:=(ew.1 o).1;simp at this;omega
   rw[di s]at o;rw[di (by omega)]at p;have n:=(P i L r o p).A2 x (λk b C=>(g i k b).2 (R k C (g i k b).1))
   simpa only[if_neg hi]using n
def eO.T3{F:Nat->Prop}{w:S}{g off n cap:Nat}{b:List Fr}{q:Fr}(h:eO F w (K (g,off) (n+1) cap) (b++ [q]) a)(s:n=b.length):eO F w (K (g,off) n cap) b (a.take n):=by
 obtain⟨Q,j,p,r⟩:=h.b;have l:a.length=b.length+1:=by rw[h.c];simp
 subst s;refine⟨h.lt,⟨h.a.1.take (by omega),λk e=>h.a.2 k (by cases e;rfl)⟩,by rw[List.length_take];omega,Q,λi k f=>⟨(j i k f).1,λe=>(j i k f).2 (by cases e;rfl)⟩,p,λi u d o m=>?_⟩;have c:=(ew.1 m).1;rw[List.getElem?_take,if_pos c]at o;exact r i u d o (by rw[di c];exact m)
structure kG(F:Nat->Prop)(p:Nat)(FL FM FP:Nat->Prop):Prop where
 d:∀k,FL k->F k
 a:∀k,FM k->F k
 e:∀k,FP k->F k
 g:F p/\¬FL p/\¬FM p/\¬FP p
 f:∀k,FL k->¬FM k
 c:∀k,FL k->¬FP k
 b:∀k,FM k->¬FP k
section
variable {F FL FM FP:Nat->Prop} {p:Nat} {w w':S}
def kG.S2(h:kG F p FL FM FP)(d:p<w.heap.size)(e:∀k,FM k->k<w.heap.size)(f:∀k,FP k->k<w.heap.size):kG (Since F w w') p (Since FL w w') FM FP:=
 ⟨λk a=>a.elim (λc=>U (h.d k c)) H,λk a=>U (h.a k a),λk a=>U (h.e k a),⟨U h.g.1,λa=>a.elim h.g.2.1 (λh=>absurd d (ao.2 h.1)),h.g.2.2.1,h.g.2.2.2⟩,
  λk a b=>a.elim (λc=>h.f k c b) (λc=>absurd (e k b) (ao.2 c.1)),λk a b=>a.elim (λc=>h.c k c b) (λc=>absurd (f k b) (ao.2 c.1)),h.b⟩
def kG.R3(h:kG F p FL FM FP)(d:p<w.heap.size)(f:∀k,FL k->k<w.heap.size)(e:∀k,FP k->k<w.heap.size):kG (Since F w w') p FL (Since FM w w') FP:=
 ⟨λk a=>U (h.d k a),λk a=>a.elim (λb=>U (h.a k b)) H,λk a=>U (h.e k a),⟨U h.g.1,h.g.2.1,λa=>a.elim h.g.2.2.1 (λh=>absurd d (ao.2 h.1)),h.g.2.2.2⟩,
  λk a c=>c.elim (λb=>h.f k a b) (λb=>absurd (f k a) (ao.2 b.1)),h.c,λk a c=>a.elim (λb=>h.b k b c) (λb=>absurd (e k c) (ao.2 b.1))⟩
def kG.Q8(h:kG F p FL FM FP)(d:p<w.heap.size)(f:∀k,FL k->k<w.heap.size)(e:∀k,FM k->k<w.heap.size):kG (Since F w w') p FL FM (Since FP w w'):=
 ⟨λk a=>U (h.d k a),λk a=>U (h.a k a),λk a=>a.elim (λb=>U (h.e k b)) H,⟨U h.g.1,h.g.2.1,h.g.2.2.1,λa=>a.elim h.g.2.2.2 (λh=>absurd d (ao.2 h.1))⟩,
  h.f,λk a c=>c.elim (λb=>h.c k a b) (λb=>absurd (f k a) (ao.2 b.1)),λk a c=>c.elim (λb=>h.b k a b) (λb=>absurd (e k a) (ao.2 b.1))⟩
def kG.R0(h:kG F p FL FM FP):kG (Since F w w') p FL FM FP:=
 ⟨λk a=>U (h.d k a),λk a=>U (h.a k a),λk a=>U (h.e k a),⟨U h.g.1,h.g.2⟩,h.f,h.c,h.b⟩
end
def dM(x:Ps)(b c:Nat)(a:E):Array E:= #[x.h,x.c,X b,X c,a,x.a,x.g,x.bytes,bu,ai ac]
def aG(F:Nat->Prop)(w:S)(p:Nat)(x:Ps)(s:LS)(toks:List Tok):Prop:=
 (∀k,F k->k<w.heap.size)/\∃c f e g d a b,kG F p c f e/\w.heap[p]?=J (V (dM x g d a) 136 (0,0))/\lI c w g toks s/\cN f w d x.b/\eO e w a x.e b
def iA(w:S)(p:Nat):Prop:=∃f e c b g h d i a j,w.heap[p]?=J (V #[f,e,c,b,g,h,d,i,a,j] 136 (0,0))
def aG.Q4{F:Nat->Prop}{w:S}{p:Nat}{x:Ps}{s:LS}{toks:List Tok}(h:aG F w p x s toks):iA w p:=by
 obtain⟨_,_,_,_,_,_,_,_,_,a,_⟩:=h;exact⟨_,_,_,_,_,_,_,_,_,_,a⟩
def dL(F:Nat->Prop)(w:S)(p:Nat)(s:LS)(toks:List Tok)(o:Out)(e:dh)(w':S):Prop:=
 Keeps F w w'/\match o with
 | .error (no,a)=>e=bT no a/\iA w' p
 | .ok y=>e=ah (af #[])/\aG (Since F w w') w' p y s toks
end
section
section
variable {F FL FM FP:Nat->Prop} {w w':S} {p lb mb:Nat} {x y:Ps} {s:LS} {toks:List Tok} {pileV:E} {vals:List E}
def o5(c:∀k,F k->k<w.heap.size)(b:kG F p FL FM FP)(j:lI FL w lb toks s)(g:cN FM w mb x.b)(l:eO FP w pileV x.e vals)(a:Keeps (λk=>k=p) w w')(i:w'.heap[p]?=J (V (dM y lb mb pileV) 136 (0,0)))
 (hi:y.b=x.b)(d:y.e=x.e):Keeps F w w'/\aG (Since F w w') w' p y s toks:=by
 have f:Keeps F w w':=a.mono λk e=>e▸b.g.1
 refine⟨f,aF c a.size,FL,FM,FP,lb,mb,pileV,vals,b.R0,i,j.D8 a (λk h e=>b.g.2.1 (e▸h)),?_,?_⟩
 .rw[hi];exact g.D8 a (λk h e=>b.g.2.2.1 (e▸h))
 .rw[d];exact l.A2 a (λk h e=>b.g.2.2.2 (e▸h))
def nG(b:eO FP w pileV x.e vals):∃a cap,pileV=K a x.e.length cap:=by
 obtain⟨a,c,h⟩:=b.a.1.A7;exact⟨a,c,by rw[h,b.c]⟩
def iA.A2{G:Nat->Prop}(h:iA w p)(a:Keeps G w w')(m:¬G p):iA w' p:=by
 obtain⟨g,f,d,c,i,j,e,k,b,l,n⟩:=h;exact⟨g,f,d,c,i,j,e,k,b,l,a.B7 n m⟩
end
def aG.D8{F G:Nat->Prop}{w w':S}{p:Nat}{x:Ps}{s:LS}{toks:List Tok}(h:aG F w p x s toks)(c:Keeps G w w')(e:∀k,F k->¬G k):aG F w' p x s toks:=by
 obtain⟨f,i,t,o,q,m,a,b,d,l,n,j,r⟩:=h;exact⟨λk g=>bj (f k g) c.size,i,t,o,q,m,a,b,d,c.B7 l (e p d.g.1),n.D8 c (λk h=>e k (d.d k h)),j.D8 c (λk h=>e k (d.a k h)),r.A2 c (λk h=>e k (d.e k h))⟩
def aG.mono{F G:Nat->Prop}{w:S}{p:Nat}{x:Ps}{s:LS}{toks:List Tok}(h:aG F w p x s toks)(d:∀k,F k->G k)(e:∀k,G k->k<w.heap.size):aG G w p x s toks:=by
 obtain⟨_,f,q,m,n,j,b,c,a,i,l,g,o⟩:=h;exact⟨e,f,q,m,n,j,b,c,⟨λk h=>d k (a.d k h),λk h=>d k (a.a k h),λk h=>d k (a.e k h),⟨d p a.g.1,a.g.2⟩,a.f,a.c,a.b⟩,i,l,g,o⟩
def aG.lt{F:Nat->Prop}{w:S}{p:Nat}{x:Ps}{s:LS}{toks:List Tok}(h:aG F w p x s toks):∀k,F k->k<w.heap.size:=h.1
def aG.R4{F:Nat->Prop}{w:S}{p:Nat}{x:Ps}{s:LS}{toks:List Tok}(h:aG F w p x s toks):F p:=by
 obtain⟨_,_,_,_,_,_,_,_,a,_⟩:=h;exact a.g.1
def aG.A4{F:Nat->Prop}{w w':S}{p:Nat}{x:Ps}{s:LS}{toks:List Tok}(h:aG F w p x s toks)(a:ar w w w'):aG F w' p x s toks:=h.D8 (bm (λ_=>False) a) (λ_ _=>id)
def uQ(F:Nat->Prop)(w:S)(p:Nat)(x:Ps)(s:LS)(toks:List Tok)(d:Nat)(h:aG F w p x s toks)(L:x.g<=65536):
 D Y 117 #[X p,d] w λe w'=>cI e/\dL F w p s toks (x.D0 d) e w':=by
 have k:=h;obtain⟨i,z,P,C,G,B,j,o,v,g,u,r,q⟩:=h;obtain⟨a,cap,rfl⟩:=nG q;unfold ez
 by_cases l:x.a≠0/\x.a≠1
 .rw[if_pos l];refine(aB8 w p x.a d _ _ _ _ _ _ _ _ _ g l).mono ?_;rintro e w' ⟨rfl,c⟩;exact⟨H ⟨_,_,rfl⟩,bm F c,rfl,k.Q4.A2 (bm (λ_=>False) c) id⟩
 rw[if_neg l];have m:x.a=0\/x.a=1:=by omega
 by_cases f:x.e.length=x.h
 .rw[if_pos f];have b:=g;unfold dM at b;rw[f]at b;refine(aDO w p x.h x.a d cap a _ _ _ _ _ _ _ b m).mono ?_;rintro e w' ⟨rfl,c⟩;exact⟨H ⟨_,_,rfl⟩,bm F c,rfl,k.Q4.A2 (bm (λ_=>False) c) id⟩
 rw[if_neg f]
 by_cases n:x.g=65536
 .rw[if_pos n];have b:=g;unfold dM at b;rw[n]at b;refine(aFK w p x.h x.a d x.e.length cap a _ _ _ _ _ _ b m f).mono ?_;rintro e w' ⟨rfl,c⟩;exact⟨H ⟨_,_,rfl⟩,bm F c,rfl,k.Q4.A2 (bm (λ_=>False) c) id⟩
 rw[if_neg n];refine(aKt w p x.h x.a x.g d x.e.length cap a _ _ _ _ _ _ g m f (by omega)).mono ?_;rintro e w' ⟨rfl,b,t⟩;have:=o5 (y:={x with g:=x.g+1}) i v u r q t b rfl rfl;exact⟨U rfl,this.1,rfl,this.2⟩
def aFR(F:Nat->Prop)(w:S)(p:Nat)(x:Ps)(s:LS)(toks:List Tok)(c:UInt8)(h:aG F w p x s toks)(t:x.g<=65536):
 D Y 84 #[X p,I Z c.toNat] w λe w'=>cI e/\dL F w p s toks (x.F9 c) e w':=by
 by_cases d:c=34/\(x.a=2\/x.a=3)
 .have f:x.F9 c=.ok x:=by unfold fv;rw[if_pos d]
  rw[f];have n:=h;obtain⟨j,m,v,q,r,o,b,g,-,l,-,-,-⟩:=h;obtain⟨i,d⟩:=d;refine(aFM w p x.a _ _ _ _ _ _ _ _ _ c l i d).mono ?_;rintro e w' ⟨rfl,a⟩;exact⟨U rfl,bm F a,rfl,(n.A4 a).mono (λk h=>U h) (aF j a.size)⟩
 .have f:x.F9 c=x.D0 x.c:=by unfold fv;rw[if_neg d]
  rw[f];have u:=uQ F w p x s toks x.c h t;obtain⟨-,m,v,q,r,o,b,g,-,l,-,-,-⟩:=h;refine aB9 w p x.c x.a _ _ _ _ _ _ _ _ c _ l ?_ (u.mono λe w' h=>⟨h.1,h⟩)
  by_cases i:c=34
  .exact H ⟨λe=>d ⟨i,U e⟩,λe=>d ⟨i,H e⟩⟩
  .exact U i
def aBd(F:Nat->Prop)(w:S)(p:Nat)(x:Ps)(s:LS)(toks:List Tok)(l:Oo)(a:Nat)(h:aG F w p x s toks)(k:x.bytes<=1073741824)(u:l.length<=1073741824):
 D Y 149 #[X p,aw ⟨l.toArray⟩,a] w λe w'=>cI e/\dL F w p s toks (x.F3 l a) e w':=by
 obtain⟨f,z,L,C,G,B,g,m,t,o,r,n,v⟩:=h;have b:(⟨l.toArray⟩:ByteArray).size=l.length:=by show l.toArray.size=_;simp
 refine(aIk w p x.bytes a ⟨l.toArray⟩ _ _ _ _ _ _ _ _ _ o k (by rw[b];exact u)).mono ?_;rintro e w' ⟨j,i,c,q⟩;rw[b]at j i c;unfold fa;have:=o5 (y:={x with bytes:=x.bytes+l.length}) f t r n v q c rfl rfl
 by_cases d:2097152<x.bytes+l.length
 .rw[if_pos d];exact⟨H ⟨_,_,i d⟩,this.1,i d,this.2.Q4⟩
 .rw[if_neg d];exact⟨U (j (by omega)),this.1,j (by omega),this.2⟩
def qH(l:List Fr):l= []\/∃i a,l=i++ [a]:=by
 rcases List.eq_nil_or_concat l with h|⟨i,a,h⟩
 .exact U h
 .exact H ⟨i,a,by simpa using h⟩
def pT(F:Nat->Prop)(w:S)(p:Nat)(x:Ps)(s:LS)(toks:List Tok)(a0:aG F w p x s toks)(hm:∀m,bx m∈x.e->m<=1073741824)(hl:x.e.length<=1048576):
 D Y 151 #[X p] w λe w'=>e=ah (af #[])/\Keeps F w w'/\aG (Since F w w') w' p x.C9 s toks:=by
 obtain⟨q,FL,FM,FP,lb,mb,g0,r,i,hb,W,hM,t⟩:=a0;rcases qH x.e with f|⟨h,fr,b⟩
 .obtain⟨a,cap,rfl⟩:=nG t;have d:=hb;unfold dM at d;rw[f,dt]at d;refine(aIl w p cap a _ _ _ _ _ _ _ _ _ d).mono ?_;rintro e w' ⟨rfl,l,j⟩
  have c:x.C9={x with a:=6}:=by
   have o:more x.e=x.e:=by rw[f];rfl
   unfold bz;rw[if_pos f,o]
  rw[c];have:=o5 (y:={x with a:=6}) q i W hM t j (by rw[f,dt];exact l) rfl rfl;exact⟨rfl,this.1,this.2⟩
 .have g4:r.length=h.length+1:=by rw[t.c,b];simp
  have C:=t;rw[b]at C;obtain⟨a1,u,hQ,hu,G,z⟩:=C.P6;obtain⟨a,cap,L⟩:=nG t;rw[b,dx,fq,dt,Nat.zero_add]at L;subst L;have v:=t.a.1
  obtain⟨g,off,g1⟩:∃g off,a=J ⟨g,off,N⟩:=by
   rcases v with⟨l,_⟩|⟨g,off,n,B,l,_⟩
   .cases l
   .injection l with h1 _ _;exact⟨g,off,h1⟩
  subst g1;have l:w.cell? ⟨g,off+h.length,N⟩=J u:=v.B3 hu;have P:g≠p:=λe=>i.g.2.2.2 (e▸t.a.2 g rfl)
  have Q:h.length<=1048576:=by rw[b]at hl;simp at hl;omega
  cases fr with
  | object k=>
   obtain⟨n,B,R,rfl,-,-,-⟩:=G
   have c:x.C9={x with a:=5}:=by
    have o:more x.e=x.e:=by rw[b];simp[more]
    unfold bz;rw[if_neg (by rw[b];simp),o]
   rw[c];refine(aFL w p g off h.length cap n _ _ _ _ _ _ _ _ _ hb l P Q).mono ?_;rintro e w' ⟨rfl,d,j⟩;have:=o5 (y:={x with a:=5}) q i W hM t j d rfl rfl;exact⟨rfl,this.1,this.2⟩
  | list m=>
   obtain⟨n,rfl,g2,o⟩:=G;have B:FP n:=(hQ n o).1;have g3:m<=1073741824:=hm m (by rw[b];simp)
   have c:x.C9={x with a:=5,e:=h++ [bx (m+1)]}:=by
    unfold bz;rw[if_neg (by rw[b];simp),b];simp[more]
   rw[c];refine(aKu w p g off h.length cap n m _ _ _ _ _ _ _ _ _ hb l P g2 Q g3).mono ?_;rintro e w' ⟨rfl,d,R,j⟩;have T:Keeps F w w':=j.mono λk e=>e.elim (λe=>e▸i.g.1) (λe=>e▸i.e n B)
   have hd:∀(a1:Nat->Prop),¬a1 p->¬a1 n->∀k,a1 k->¬(k=p\/k=n):=λa1 h1 h2 k j e=>e.elim (λe=>h1 (e▸j)) (λe=>h2 (e▸j))
   refine⟨rfl,T,aF q T.size,FL,FM,Since FP w w',lb,mb,_,r,i.Q8 (q p i.g.1) W.lt hM.2.1,d,W.D8 j (hd FL i.g.2.1 (λa0=>i.c n a0 B)),hM.D8 j (hd FM i.g.2.2.1 (λa0=>i.b n a0 B)),?_⟩;exact z w' _ (bx (m+1)) j (λk hg hF=>hg.elim (λe=>absurd (e▸hF) i.g.2.2.2) (λe=>e▸o)) ⟨n,rfl,R,U o⟩
end
section
structure rF(x:Ps)(n:Nat):Prop where
 a:∀m,bx m∈x.e->m<=n
 c:x.e.length<=1048576
section
variable {F FL FM FP:Nat->Prop} {w w':S} {p lb mb:Nat} {x y:Ps} {s:LS} {toks:List Tok} {pileV:E} {vals:List E}
def kW(b:∀k,F k->k<w.heap.size)(a:kG F p FL FM FP)(i:w.heap[p]?=J (V (dM x lb mb pileV) 136 (0,0)))(f:lI FL w lb toks s)(g:eO FP w pileV x.e vals)(c:Keeps FM w w')(j:∀k,FM k->k<w.heap.size){items:List Tr}(d:cN (Since FM w w') w' mb items):
 Keeps F w w'/\aG (Since F w w') w' p {x with b:=items} s toks:=
 ⟨c.mono a.a,aF b c.size,FL,Since FM w w',FP,lb,mb,pileV,vals,a.R3 (b p a.g.1) f.lt g.lt,c.B7 i a.g.2.2.1,f.D8 c a.f,d,g.A2 c λk h e=>a.b k e h⟩
end
def aG.Q6{F:Nat->Prop}{w w1 w2:S}{p:Nat}{x:Ps}{s:LS}{toks:List Tok}(h:aG (Since (Since F w w1) w1 w2) w2 p x s toks)(g:w.heap.size<=w1.heap.size)(f:w1.heap.size<=w2.heap.size)(e:∀k,F k->k<w.heap.size):aG (Since F w w2) w2 p x s toks:=by
 obtain⟨_,i,u,q,r,n,b,c,a,l,o,j,t⟩:=h;have d:∀k,Since (Since F w w1) w1 w2 k->Since F w w2 k:=λk m=>m.trans g f
 exact⟨aF e (cu g f),i,u,q,r,n,b,c,⟨λk h=>d k (a.d k h),λk h=>d k (a.a k h),λk h=>d k (a.e k h),⟨d p a.g.1,a.g.2⟩,a.f,a.c,a.b⟩,l,o,j,t⟩
def aFS(F:Nat->Prop)(w:S)(p:Nat)(x:Ps)(s:LS)(toks:List Tok)(b:Nat)(i:gO b)(q:aG F w p x s toks)(c:rF x 1073741824)(j:x.b.length<=1048576):
 D Y 114 #[X p,ae 107 (dj dl b)] w λe w'=>e=ah (af #[])/\Keeps F w w'/\aG (Since F w w') w' p (bz {x with b:=iR x.b b}) s toks:=by
 have r:∀w:S,(av (ae 107 (dj dl b)) 39 102 ag).run Y w=au (af #[ak #[],ai ac]) w:=λ_=>by kernel_rfl
 have t:∀w:S,(av (ae 107 (dj dl b)) 39 104 ag).run Y w=au (af #[ai ac,ai ac]) w:=λ_=>by kernel_rfl
 have u:∀w:S,(av (ae 107 (dj dl b)) 39 107 ag).run Y w=au (af #[dj dl b,ai ag]) w:=λ_=>by kernel_rfl
 obtain⟨a,Q,y,R,T,z,k,o,h,f,m,g,n⟩:=q;obtain⟨-,-,-,B,-,-,-,-,-,-,-⟩:=b8 f;have C:=A ((aHk y w z x.b b i g j).mono (R':=λe w1=>(∃v,e=ah v)/\Keeps F w w1/\aG (Since F w w1) w1 p {x with b:=iR x.b b} s toks) λe w1 ⟨G,L,P⟩=>⟨G,kW a h f m n L g.2.1 P⟩);have d:=A (λw1(q:aG (Since F w w1) w1 p {x with b:=iR x.b b} s toks)=>pT (Since F w w1) w1 p _ s toks q c.a c.c);have l:=A a;clear a h f m g n;go_enter fc,fe;go_wp2_with fail;refine(C.o).mono ?_;rintro e w1 ⟨⟨v,rfl⟩,a,f⟩;have g:=A a;have m:=A (d.o w1 f);clear a f B;go_wp2_with fail;refine(m.o).mono ?_;rintro e w2 ⟨rfl,a,f⟩;have h:=A a;have n:=A f;clear a f;go_wp2
 go_end0
 exact⟨rfl,g.o.O9 h.o,n.o.Q6 g.o.size h.o.size l.o⟩
def aFT(F:Nat->Prop)(w:S)(p:Nat)(x:Ps)(s:LS)(toks:List Tok)(a b:Nat)(l:Oo)(hr:aV l=ag)(hl:l.length<=1073741824)(h:aG F w p x s toks)(B:rF x 1073741824)(C:x.b.length<=1048576)(L:x.bytes<=1073741824)(hw:x.a≠2/\x.a≠3):
 D Y 113 #[X p,ak #[a,b,aw ⟨l.toArray⟩]] w λe w'=>cI e/\dL F w p s toks (x.J0 a l) e w':=by
 have P:x.J0 a l=(x.F3 l a).map λp=>bz {p with b:=gE p.b l}:=by unfold Ps.J0;rw[if_pos hw]
 rw[P];have r:Keeps (λ_=>False) w (w.alloc (V #[a,b,aw ⟨l.toArray⟩] 241)):=(aj _ w).A6 _;have t:=h.lt;have f:=h.R4;have W:=h.D8 r (λ_ _=>id);have e2:((x.a:Int)!=2)=ag:=by simp;omega
 have e3:((x.a:Int)!=3)=ag:=by simp;omega
 have j:=A (aBd F _ p x s toks l a W L hl);have Q:=A r;have g6:=A t;have hB:¬F w.heap.size:=λhf=>absurd (t _ hf) (Nat.lt_irrefl _)
 have g7:(w.alloc (V #[a,b,aw ⟨l.toArray⟩] 241)).cell? ⟨p,5,N⟩=J (I O x.a):=by
  obtain⟨_,FL,FM,FP,lb,mb,m,y,-,R,-,-,-⟩:=W;rw[aA R];rfl
 have g8:∀o,(w.alloc (V #[a,b,aw ⟨l.toArray⟩] 241)).frozen? ⟨p,o,N⟩=ac:=by
  obtain⟨_,FL,FM,FP,lb,mb,m,y,-,R,-,-,-⟩:=W;exact free_at R
 have c:=bp w (V #[a,b,aw ⟨l.toArray⟩] 241);have HB:=A hB;have z:=A c;have b0:(w.alloc (V #[a,b,aw ⟨l.toArray⟩] 241)).cell? w=J (I O a):=aA c;have b2:(w.alloc (V #[a,b,aw ⟨l.toArray⟩] 241)).cell? ⟨w.heap.size,2,N⟩=J (aw ⟨l.toArray⟩):=aA c;have HR:=A hr;have g9:=A B;have h2:=A C;have h3:=A f;obtain⟨sv,u⟩:∃sv:ByteArray,(⟨l.toArray⟩:ByteArray)=sv:=⟨_,rfl⟩;rw[u]at j Q g7 g8 z b0 b2⊢;have h4:=A u
 by_cases d:2097152<x.bytes+l.length
 .have n:x.F3 l a=.error (3,a):=by unfold fa;rw[if_pos d]
  rw[n]at j⊢;clear P r h W hw t hB c hr hl B C L f u n d;go_enter func113,ntmps113;go_wp2_with fail;refine(j.o).mono ?_;rintro e w2 ⟨-,i,g⟩;obtain⟨T,q⟩:=g;have HK:=A ((Q.o.mono (G:=F) (λ_ h=>h.elim)).same i);have HD:=A q;clear i q;have q:=A T;unfold bT at T;subst T;go_wp2_with fail;exact⟨rfl,H ⟨_,_,rfl⟩,HK.o,rfl,HD.o⟩
 .have n:x.F3 l a=.ok {x with bytes:=x.bytes+l.length}:=by unfold fa;rw[if_neg d]
  rw[n]at j⊢;have h0:=A d;clear P r h W hw t hB c hr hl B C L f u n d;go_enter func113,ntmps113;go_wp2_with fail;refine(j.o).mono ?_;rintro e w2 ⟨W,i,g⟩;obtain⟨T,B⟩:=g;subst T;have t:Keeps F w w2:=(Q.o.mono (G:=F) (λ_ h=>h.elim)).same i;have n:=i.B7 z.o HB.o;obtain⟨-,FL,FM,FP,lb,mb,m,y,q,R,hL,hM,hP⟩:=B;obtain⟨-,-,-,d3,-,-,-,-,-,-,-⟩:=b8 R;have x2:w2.cell? ⟨w.heap.size,2,N⟩=J (aw sv):=aA n;have u:=aEH FM w2.drew mb x.b l HR.o (by have:=h0.o;omega) (hM.D8 ((aj (λ_=>False) w2).B0) (λ_ _=>id)) h2.o;rw[h4.o]at u;have r:∀k,Since F w w2 k->k<w2.heap.size:=aF g6.o t.size;have d:∀k,Since F (w.alloc (V #[a,b,sv] 241)) w2 k->Since F w w2 k:=λk h=>h.elim U (λh=>H ⟨cu (by simp) h.1,h.2⟩)
  have C:kG (Since F w w2) p FL FM FP:=⟨λk h=>d k (q.d k h),λk h=>d k (q.a k h),λk h=>d k (q.e k h),⟨U h3.o,q.g.2⟩,q.f,q.c,q.b⟩
  have h5:=A (u.mono (R':=λe f=>(∃v,e=ah v)/\Keeps (Since F w w2) w2 f/\aG (Since (Since F w w2) w2 f) f p {x with bytes:=x.bytes+l.length,b:=gE x.b l} s toks) λe f ⟨T,c,h6⟩=>by
   have L:Keeps FM w2 f:=⟨c.os,c.tape,c.output,c.size,c.block⟩;have:=kW (x:={x with bytes:=x.bytes+l.length}) r C R hL hP L hM.2.1 h6;exact⟨T,this⟩)
  have L:=A (λf(h:aG (Since (Since F w w2) w2 f) f p {x with bytes:=x.bytes+l.length,b:=gE x.b l} s toks)=>pT _ f p _ s toks h g9.o.a g9.o.c);have P:=A t;clear W i t n q R hL hM hP u r d C b0 b2 g7 g8;go_wp2
  go_region_with (go_at_call 150;refine(h5.o).mono ?_;rintro e f ⟨⟨v,rfl⟩,c,d⟩)
  all_goals
   have i:=A c;have r:=A (L.o f d);clear c d;go_wp2_with fail;refine(r.o).mono ?_;rintro e u ⟨rfl,c,d⟩;have n:=A c;have t:=A d;clear c d;go_wp2_with fail;refine bh (dm rfl _ _ _) rfl ?_;have q:=P.o.O9 i.o;have d:∀k,Since (Since F w w2) w2 f k->Since F w f k:=λk h=>h.trans P.o.size i.o.size
   have c:Keeps F w u:=q.O9 (n.o.mono d);exact⟨U rfl,c,rfl,t.o.mono (λk h=>fg (F:=F) (w:=w) (w1:=f) (w2:=u) (h.elim (λh=>U (d k h)) H) q.size n.o.size) (aF g6.o c.size)⟩
end
def aDU(F:Nat->Prop)(a:S)(p:Nat)(x:Ps)(s:LS)(toks:List Tok)(d:aG F a p x s toks)(f:rF x 1073741824)(m:x.b.length<=1048576):
 D Y 114 #[X p,ae 102 (ak #[])] a λe w'=>e=ah (af #[])/\Keeps F a w'/\aG (Since F a w') w' p (bz {x with b:=bB x.b .null}) s toks:=by
 have y:∀w:S,(av (ae 102 (ak #[])) 39 102 ag).run Y w=au (af #[ak #[],ai ag]) w:=λ_=>by kernel_rfl
 have c:=d.lt;have b:Keeps (λ_=>False) a (a.alloc (V #[] 102)):=(aj _ a).A6 _;have d:=d.D8 b (λ_ _=>id);obtain⟨w,z⟩:∃w,a.alloc (V #[] 102)=w:=⟨_,rfl⟩;rw[z]at d b;have g:=A b;have h:=A c;clear b c;obtain⟨b,R,B,T,W,C,n,u,l,i,r,j,t⟩:=d;obtain⟨-,-,-,G,-,-,-,-,-,-,-⟩:=b8 i;have L:=A ((aEN B w C x.b j m).mono (R':=λe w1=>(∃v,e=ah v)/\Keeps F w w1/\aG (Since F w w1) w1 p {x with b:=bB x.b .null} s toks) λe w1 ⟨P,o,Q⟩=>⟨P,kW b l i r t o j.2.1 Q⟩);have c:=A (λw1(d:aG (Since F w w1) w1 p {x with b:=bB x.b .null} s toks)=>pT (Since F w w1) w1 p _ s toks d f.a f.c);have q:=A b;clear b l i r j t;go_enter fc,fe;go_wp2_with fail;refine(L.o).mono ?_;rintro e w1 ⟨⟨v,rfl⟩,b,i⟩;have j:=A b;have r:=A (c.o w1 i);clear b i G;go_wp2_with fail;refine(r.o).mono ?_;rintro e w2 ⟨rfl,b,i⟩;have l:=A b;have t:=A i;clear b i;go_wp2
 go_end0
 have o:=j.o.O9 l.o;have b:Keeps F a w2:=(g.o.mono (λ_ d=>d.elim)).same o;exact⟨rfl,b,(t.o.Q6 j.o.size l.o.size q.o).mono (λk d=>d.elim U (λd=>H ⟨cu g.o.size d.1,d.2⟩)) (aF h.o b.size)⟩
def aDV(F:Nat->Prop)(w:S)(p:Nat)(x:Ps)(s:LS)(toks:List Tok)(c:Bool)(o:aG F w p x s toks)(b:rF x 1073741824)(i:x.b.length<=1048576):
 D Y 114 #[X p,ae 104 (ai c)] w λe w'=>e=ah (af #[])/\Keeps F w w'/\aG (Since F w w') w' p (bz {x with b:=bB x.b (.flag c)}) s toks:=by
 have q:∀w:S,(av (ae 104 (ai c)) 39 102 ag).run Y w=au (af #[ak #[],ai ac]) w:=λ_=>by kernel_rfl
 have r:∀w:S,(av (ae 104 (ai c)) 39 104 ag).run Y w=au (af #[c,ai ag]) w:=λ_=>by kernel_rfl
 obtain⟨a,L,t,P,Q,u,j,n,h,f,l,g,m⟩:=o;obtain⟨-,-,-,y,-,-,-,-,-,-,-⟩:=b8 f;have z:=A ((aEO t w u x.b c g i).mono (R':=λe w1=>(∃v,e=ah v)/\Keeps F w w1/\aG (Since F w w1) w1 p {x with b:=bB x.b (.flag c)} s toks) λe w1 ⟨B,C,G⟩=>⟨B,kW a h f l m C g.2.1 G⟩);have d:=A (λw1(o:aG (Since F w w1) w1 p {x with b:=bB x.b (.flag c)} s toks)=>pT (Since F w w1) w1 p _ s toks o b.a b.c);have k:=A a;clear a h f l g m;go_enter fc,fe;go_wp2_with fail;refine(z.o).mono ?_;rintro e w1 ⟨⟨v,rfl⟩,a,f⟩;have g:=A a;have l:=A (d.o w1 f);clear a f y;go_wp2_with fail;refine(l.o).mono ?_;rintro e w2 ⟨rfl,a,f⟩;have h:=A a;have m:=A f;clear a f;go_wp2
 go_end0
 exact⟨rfl,g.o.O9 h.o,m.o.Q6 g.o.size h.o.size k.o⟩
def aGZ(a:List UInt8):E:=if a= [110,117,108,108]then ae 102 (ak #[])else ae 104 (ai (decide (a= [116,114,117,101])))
def aDW(F:Nat->Prop)(w:S)(p:Nat)(x:Ps)(s:LS)(toks:List Tok)(a:Oo)(h:aG F w p x s toks)(c:rF x 1073741824)(b:x.b.length<=1048576):
 D Y 114 #[X p,aGZ a] w λe w'=>e=ah (af #[])/\Keeps F w w'/\aG (Since F w w') w' p (x.F7 (jE a)) s toks:=by
 unfold aGZ jE
 by_cases d:a= [110,117,108,108]
 .rw[if_pos d,if_pos d];exact aDU F w p x s toks h c b
 .rw[if_neg d,if_neg d];exact aDV F w p x s toks (decide (a= [116,114,117,101])) h c b
def aFU(w:S)(a n:Nat)(b:Oo)(c:b= [110,117,108,108]\/b= [116,114,117,101]\/b= [102,97,108,115,101]):
 D Y 360 #[ak #[a,n,aw ⟨b.toArray⟩]] w λe w'=>e=ah (aGZ b)/\ar w w w':=by
 rcases c with rfl|rfl|rfl
 all_goals
  go_enter func360,ntmps360;go_wp2;go_ret;exact⟨rfl,(bk _ _).alloc (bc _) _⟩
def aBe:Elem 133 281 16:=⟨underlying133,by
 have h:(Y.info? 281).map (λi=>(i.zero,i.size,i.bytes))=J (J bu,1,16):=by kernel_rfl
 obtain⟨i,c,a,d,b⟩:=info_parts h;exact⟨i,_,c,a,d,b,rfl⟩⟩
def aIn(F:Nat->Prop)(w:S)(p:Nat)(x:Ps)(s:LS)(toks:List Tok)(b:Nat)(c:aG F w p x s toks)(m:x.g<=65536)(h:x.e.length<=1048576):
 D Y 112 #[X p,ak #[b,I O 1,I Z 91]] w λe w'=>cI e/\dL F w p s toks ((x.D0 b).map λp=>{p with e:=p.e++ [bx 0],a:=1}) e w':=by
 have l:Keeps (λ_=>False) w (w.alloc (V #[b,I O 1,I Z 91] 238)):=(aj _ w).A6 _;have n:=c.lt;have d:=c.R4;have B:=c.D8 l (λ_ _=>id);have HV:=A (uQ F _ p x s toks b B m);have C:=A l;have h5:=A n;have f:=bp w (V #[b,I O 1,I Z 91] 238);have b0:(w.alloc (V #[b,I O 1,I Z 91] 238)).cell? w=J (I O b):=aA f;have b2:(w.alloc (V #[b,I O 1,I Z 91] 238)).cell? ⟨w.heap.size,2,N⟩=J (I Z 91):=aA f;have L:=A d;cases a:x.D0 b with
 | error q=>
  obtain⟨no,a2⟩:=q;rw[a]at HV;clear l c B n f d a m h;go_enter cg,cj;go_wp2_with fail;refine(HV.o).mono ?_;rintro e w2 ⟨-,i,P,j⟩;have HK:=A ((C.o.mono (G:=F) (λ_ c=>c.elim)).same i);have r:=A j;clear i j;have j:=A P;unfold bT at P;subst P;go_wp2_with fail;exact⟨rfl,H ⟨_,_,rfl⟩,HK.o,rfl,r.o⟩
 | ok y=>
  have j:y.e=x.e:=by
   unfold ez at a;split at a
   .cases a
   .split at a
    .cases a
    .split at a
     .cases a
     .cases a;rfl
  rw[a]at HV;have h6:=A j;have h7:=A h;clear l c B n f d a m j h;go_enter cg,cj;go_wp2_with fail;refine(HV.o).mono ?_;rintro e w2 ⟨h,i,P,Q⟩;subst P;have u:Keeps F w w2:=(C.o.mono (G:=F) (λ_ c=>c.elim)).same i;obtain⟨-,FL,FM,FP,lb,mb,h8,a,z,v,hL,hM,t⟩:=Q;obtain⟨-,-,-,-,d4,-,-,-,-,-,-⟩:=b8 v;have j:Keeps (λ_=>False) w2 ((w2.alloc (V #[I O 0] 274)).alloc (V #[ae 272 (X w2)] 281)):=((aj _ w2).A6 _).A6 _;have l:=t.a.1.A2 j (λ_ _=>id);have R:=A l;have HB:=A v;have h9:=A (t.a.1.ne v (by decide));have n:p<w2.heap.size:=du v
  have m:((w2.alloc (V #[I O 0] 274)).alloc (V #[ae 272 (X w2)] 281)).heap[w2.heap.size]?=J (V #[I O 0] 274 (0,0)):=
   (fw _ _ _ (by simp)).trans (bp w2 _)
  have i0:=A m;have T:=A (l.ne m (by decide));have i5:a.length<=1048576:=by rw[t.c,h6.o];exact h7.o
  have W:=A u;have f:=A z;have g7:=A hL;have g8:=A hM;have q:=A t;have g9:=A j;have d:∀k,Since F (w.alloc (V #[b,I O 1,I Z 91] 238)) w2 k->Since F w w2 k:=λk c=>c.elim U (λc=>H ⟨cu (by simp) c.1,c.2⟩)
  have r:=A d;obtain⟨ta,tc,i1⟩:=t.a.1.A7;clear h i u z v hL hM t l m j d b0 b2;subst i1
  go_wp2_with (at_builtin;refine dE aBe rfl _ _ rfl rfl R.o ⟨w2.heap.size+1,0,N⟩ 1 (ae 272 (X w2)) rfl ?_ rfl ?_ ?_ ?_)
  .exact fQ (by simp)
  .omega
  .unfold fh;omega
  intro g off cap w' h i d;have j:=(d.block p (by simp;omega) (λe=>h9.o e.symm)).trans ((g9.o.block p n id).trans HB.o);have l:=(d.block w2.heap.size (by simp;omega) (λe=>T.o e.symm)).trans i0.o;obtain⟨-,-,-,-,e4,e5,-,-,-,-,ef⟩:=b8 j;have i2:=A j;have u:=A l;have t:=A h;have h0:=A i;have HK:=A ((g9.o.mono (G:=λk=>(K ta a.length tc).ownBlock=J k) (λ_ c=>c.elim)).D7 d (λk e=>U e));clear j l h i d d4;go_wp2
  go_end0
  have j:Keeps (λk=>k=p) w' ((w'.setCell ⟨p,4,N⟩ (K (g,off) (a.length+1) cap)).setCell ⟨p,5,N⟩ (I O 1)):=((aj (λk=>k=p) w').A3 (p:=⟨p,4,N⟩) (U rfl) _).A3 (p:=⟨p,5,N⟩) (U rfl) _;have d:Keeps (λk=>k=p\/(K ta a.length tc).ownBlock=J k) w2 ((w'.setCell ⟨p,4,N⟩ (K (g,off) (a.length+1) cap)).setCell ⟨p,5,N⟩ (I O 1)):=(HK.o.mono (λk c=>H c)).same (j.mono (λk c=>U c));have l:=q.o.a.2;have h:Keeps F w ((w'.setCell ⟨p,4,N⟩ (K (g,off) (a.length+1) cap)).setCell ⟨p,5,N⟩ (I O 1)):=W.o.O9 (d.mono (λk c=>c.elim (λe=>e▸U L.o) (λe=>r.o k (f.o.e k (l k e)))));have h3:=aB (o:=5) (aB (o:=4) i2.o (K (g,off) (a.length+1) cap)) (I O 1);obtain⟨z,i3⟩:∃z,((w'.setCell ⟨p,4,N⟩ (K (g,off) (a.length+1) cap)).setCell ⟨p,5,N⟩ (I O 1))=z:=⟨_,rfl⟩;rw[i3]at j d h h3⊢
  have i4:g≠p:=by
   intro e;rcases h0.o with c|c
   .exact f.o.g.2.2.2 (e▸l g c)
   .have h4:=c.1
    try rw[fz,World.size_alloc]at h4
    omega
  have m:∀(a0:Nat->Prop),¬a0 p->(∀k,a0 k->¬FP k)->∀k,a0 k->¬(k=p\/(K ta a.length tc).ownBlock=J k):=λa0 B h2 k hk c=>c.elim (λe=>B (e▸hk)) (λe=>h2 k hk (l k e))
  refine⟨U rfl,h,rfl,aF h5.o h.size,FL,FM,Since FP w2 z,lb,mb,_,a++ [ae 272 (X w2)],?_,h3,g7.o.D8 d (m FL f.o.g.2.1 (λk c=>f.o.c k c)),g8.o.D8 d (m FM f.o.g.2.2.1 (λk c=>f.o.b k c)),?_⟩
  .have i:=f.o.Q8 (w:=w2) (w':=z) n g7.o.lt g8.o.2.1
   have v:∀k,Since (Since F (w.alloc (V #[b,I O 1,I Z 91] 238)) w2) w2 z k->Since F w z k:=
    λk c=>fg (w1:=w2) (c.elim (λc=>U (r.o k c)) H) W.o.size d.size
   exact⟨λk c=>v k (i.d k c),λk c=>v k (i.a k c),λk c=>v k (i.e k c),⟨U L.o,i.g.2⟩,i.f,i.c,i.b⟩
  .refine q.o.O1 d (λk v hF=>v.elim (λe=>absurd (e▸hF) f.o.g.2.2.2) id) ?_ ?_ ⟨w2.heap.size,rfl,j.B7 u.o (λe=>by omega),bc _,bj (du u.o) j.size,t.o.ne u.o (by decide)⟩
   .have:=t.o.A2 j (λk e hk=>i4 (by cases e;exact hk))
    simpa using this
   .intro k i;cases i;exact h0.o.imp id (λc=>by show w2.heap.size<=g;first|omega|(rw[World.size_alloc,World.size_alloc]at h4;omega))
def aFV(F:Nat->Prop)(w:S)(p:Nat)(x:Ps)(s:LS)(toks:List Tok)(c:Nat)(b:aG F w p x s toks)(m:x.g<=65536)(h:x.e.length<=1048576):
 D Y 112 #[X p,ak #[c,I O 1,I Z 123]] w λe w'=>cI e/\dL F w p s toks ((x.D0 c).map λp=>{p with e:=p.e++ [fi []],a:=2}) e w':=by
 have l:Keeps (λ_=>False) w (w.alloc (V #[c,I O 1,I Z 123] 238)):=(aj _ w).A6 _;have n:=b.lt;have d:=b.R4;have Q:=b.D8 l (λ_ _=>id);have HV:=A (uQ F _ p x s toks c Q m);have R:=A l;have h9:=A n;have f:=bp w (V #[c,I O 1,I Z 123] 238);have P:(w.alloc (V #[c,I O 1,I Z 123] 238)).cell? w=J (I O c):=aA f;have b2:(w.alloc (V #[c,I O 1,I Z 123] 238)).cell? ⟨w.heap.size,2,N⟩=J (I Z 123):=aA f;have T:=A d;cases a:x.D0 c with
 | error q=>
  obtain⟨no,a2⟩:=q;rw[a]at HV;clear l b Q n f d a m h;go_enter cg,cj;go_wp2_with fail;refine(HV.o).mono ?_;rintro e w2 ⟨-,i,W,j⟩;have HK:=A ((R.o.mono (G:=F) (λ_ b=>b.elim)).same i);have r:=A j;clear i j;have j:=A W;unfold bT at W;subst W;go_wp2_with fail;exact⟨rfl,H ⟨_,_,rfl⟩,HK.o,rfl,r.o⟩
 | ok y=>
  have j:y.e=x.e:=by
   unfold ez at a;split at a
   .cases a
   .split at a
    .cases a
    .split at a
     .cases a
     .cases a;rfl
  rw[a]at HV;have i0:=A j;have i1:=A h;clear l b Q n f d a m j h;go_enter cg,cj;go_wp2_with fail;refine(HV.o).mono ?_;rintro e w2 ⟨h,i,W,g7⟩;subst W;have u:Keeps F w w2:=(R.o.mono (G:=F) (λ_ b=>b.elim)).same i;obtain⟨-,FL,FM,FP,lb,mb,z,a,B,v,C,L,j⟩:=g7;obtain⟨-,-,-,-,d4,-,-,-,-,-,-⟩:=b8 v;have l:Keeps (λ_=>False) w2 (((w2.alloc (cv #[] 0)).alloc (V #[(),bw (J w2.heap.size)] 278)).alloc (V #[ae 275 (X (J ⟨w2.heap.size+1,0,N⟩))] 281)):=(((aj _ w2).A6 _).A6 _).A6 _;have m:=j.a.1.A2 l (λ_ _=>id);have g8:=A m;have HB:=A v;have i2:=A (j.a.1.ne v (by decide));have q:p<w2.heap.size:=du v
  have n:(((w2.alloc (cv #[] 0)).alloc (V #[(),bw (J w2.heap.size)] 278)).alloc (V #[ae 275 (X (J ⟨w2.heap.size+1,0,N⟩))] 281)).heap[w2.heap.size+1]?=J (V #[(),bw (J w2.heap.size)] 278 (0,0)):=by
   refine(fw _ _ _ (by simp)).trans ?_;have:=bp (w2.alloc (cv #[] 0)) (V #[(),bw (J w2.heap.size)] 278)
   rwa[fz]at this
  have i3:eY (((w2.alloc (cv #[] 0)).alloc (V #[(),bw (J w2.heap.size)] 278)).alloc (V #[ae 275 (X (J ⟨w2.heap.size+1,0,N⟩))] 281)) w2.heap.size []:=((eY.N0 w2).A2 (F:=λ_=>False) ((aj _ (w2.alloc (cv #[] 0))).A6 _) id).A2 (F:=λ_=>False) ((aj _ _).A6 _) id;have i4:=A i3
  have i5:z.ownBlock≠J w2.heap.size:=by
   intro e;have:=j.a.1.lt e;omega
  have g9:=A i5;have j3:(Instr.makeMap 276 N).run Y w2=au (bw (J w2.heap.size)) (w2.alloc (cv #[] 0)):=by kernel_rfl
  have i6:=A n;have h0:=A (m.ne n (by decide));have j4:a.length<=1048576:=by rw[j.c,i0.o];exact i1.o
  have h3:=A u;have f:=A B;have h5:=A C;have h6:=A L;have r:=A j;have h7:=A l;have d:∀k,Since F (w.alloc (V #[c,I O 1,I Z 123] 238)) w2 k->Since F w w2 k:=λk b=>b.elim U (λb=>H ⟨cu (by simp) b.1,b.2⟩)
  have t:=A d;obtain⟨ta,tc,i7⟩:=j.a.1.A7;clear h i u B v C L j m n l d P b2;subst i7
  go_wp2_with (at_builtin;refine dE aBe rfl _ _ rfl rfl g8.o ⟨w2.heap.size+2,0,N⟩ 1 (ae 275 (X (J ⟨w2.heap.size+1,0,N⟩))) rfl ?_ rfl ?_ ?_ ?_)
  .exact fQ (by simp)
  .omega
  .unfold fh;omega
  intro g off cap w' h i d;have j:=(d.block p (by simp;omega) (λe=>i2.o e.symm)).trans ((h7.o.block p q id).trans HB.o);have m:=(d.block (w2.heap.size+1) (by simp) (λe=>h0.o e.symm)).trans i6.o;obtain⟨-,-,-,-,e4,e5,-,-,-,-,ef⟩:=b8 j;have i8:=A j;have B:=A m;have u:=A h;have C:=A i;have l:=A d;have HK:=A ((h7.o.mono (G:=λk=>(K ta a.length tc).ownBlock=J k) (λ_ b=>b.elim)).D7 d (λk e=>U e));clear j m h i d d4;go_wp2
  go_end0
  have h:Keeps (λk=>k=p) w' ((w'.setCell ⟨p,4,N⟩ (K (g,off) (a.length+1) cap)).setCell ⟨p,5,N⟩ (I O 2)):=((aj (λk=>k=p) w').A3 (p:=⟨p,4,N⟩) (U rfl) _).A3 (p:=⟨p,5,N⟩) (U rfl) _;have d:Keeps (λk=>k=p\/(K ta a.length tc).ownBlock=J k) w2 ((w'.setCell ⟨p,4,N⟩ (K (g,off) (a.length+1) cap)).setCell ⟨p,5,N⟩ (I O 2)):=(HK.o.mono (λk b=>H b)).same (h.mono (λk b=>U b));have m:=r.o.a.2;have i:Keeps F w ((w'.setCell ⟨p,4,N⟩ (K (g,off) (a.length+1) cap)).setCell ⟨p,5,N⟩ (I O 2)):=h3.o.O9 (d.mono (λk b=>b.elim (λe=>e▸U T.o) (λe=>t.o k (f.o.e k (m k e)))));have h8:=aB (o:=5) (aB (o:=4) i8.o (K (g,off) (a.length+1) cap)) (I O 2);obtain⟨v,i9⟩:∃v,((w'.setCell ⟨p,4,N⟩ (K (g,off) (a.length+1) cap)).setCell ⟨p,5,N⟩ (I O 2))=v:=⟨_,rfl⟩;rw[i9]at h d i h8⊢
  have j0:g≠p:=by
   intro e;rcases C.o with b|b
   .exact f.o.g.2.2.2 (e▸m g b)
   .have h4:=b.1
    try simp at h4
    omega
  have n:∀(a0:Nat->Prop),¬a0 p->(∀k,a0 k->¬FP k)->∀k,a0 k->¬(k=p\/(K ta a.length tc).ownBlock=J k):=λa0 Q h2 k P b=>b.elim (λe=>Q (e▸P)) (λe=>h2 k P (m k e))
  refine⟨U rfl,i,rfl,aF h9.o i.size,FL,FM,Since FP w2 v,lb,mb,_,a++ [ae 275 (X (J ⟨w2.heap.size+1,0,N⟩))],?_,h8,h5.o.D8 d (n FL f.o.g.2.1 (λk b=>f.o.c k b)),h6.o.D8 d (n FM f.o.g.2.2.1 (λk b=>f.o.b k b)),?_⟩
  .have j:=f.o.Q8 (w:=w2) (w':=v) q h5.o.lt h6.o.2.1
   have L:∀k,Since (Since F (w.alloc (V #[c,I O 1,I Z 123] 238)) w2) w2 v k->Since F w v k:=
    λk b=>fg (w1:=w2) (b.elim (λb=>U (t.o k b)) H) h3.o.size d.size
   exact⟨λk b=>L k (j.d k b),λk b=>L k (j.a k b),λk b=>L k (j.e k b),⟨U T.o,j.g.2⟩,j.f,j.c,j.b⟩
  .have j:eY v w2.heap.size []:=(i4.o.A2 (F:=λk=>(K ta a.length tc).ownBlock=J k) ⟨l.o.os,l.o.tape,l.o.output,l.o.size,λk P hn=>l.o.block k P (λe=>hn e.symm)⟩ g9.o).A2 h (λe=>by omega);have L:w2.heap.size<v.heap.size:=bj (bj (by simp;omega) l.o.size) h.size
   have j1:g≠w2.heap.size:=by
    intro e;rcases C.o with b|b
    .exact g9.o (e▸b)
    .have h4:=b.1
     try simp at h4
     omega
   refine r.o.O1 d (λk hg hF=>hg.elim (λe=>absurd (e▸hF) f.o.g.2.2.2) id) ?_ ?_ ⟨w2.heap.size+1,w2.heap.size,K N 0 0,rfl,h.B7 B.o (λe=>by omega),⟨Nat.le_succ _,bj (du B.o) h.size,u.o.ne B.o (by decide)⟩,.nil _ _ _ _,λ_=>rfl,j,bc _,L,λe=>j1 (by cases e;rfl)⟩
   .have:=u.o.A2 h (λk e P=>j0 (by cases e;exact P))
    simpa using this
   .intro k j2;cases j2;exact C.o.imp id (λb=>by have h4:=b.1;(try simp at h4);show w2.heap.size<=g;omega)
def o6{i:Nat->Prop}{w:S}{a:E}{b:List Fr}{m:Fr}{d:List E}(f:eO i w a (b++ [m]) d):
 ∃g off cap u,a=K (J ⟨g,off,N⟩) (b.length+1) cap/\w.cell? ⟨g,off+b.length,N⟩=J u/\i g/\b.length+1<=cap/\cap<=fh/\∃Q:Nat->Prop,(∀k,Q k->i k/\k≠g)/\jU Q w u m:=by
 obtain⟨Q,u,j,q,h,_⟩:=f.P6;have c:d.length=b.length+1:=by rw[f.c];simp
 rcases f.a.1 with⟨rfl,n⟩|⟨g,off,cap,p,rfl,o,s,-,r,hi⟩
 .rw[n]at c;simp at c
 .refine⟨g,off,cap,u,by rw[c],?_,f.a.2 g rfl,by omega,r,Q,λk l=>⟨(j k l).1,λe=>(j k l).2 (by rw[e];rfl)⟩,h⟩;rw[aA o];exact hi _ u q
def boxed{F:Nat->Prop}{w:S}{p:Nat}{x:Ps}{s:LS}{toks:List Tok}(h:aG F w p x s toks)(o:Obj):aG F (w.alloc o) p x s toks:=h.D8 ((aj (λ_=>False) w).A6 o) (λ_ _=>id)
def tL{F:Nat->Prop}{w:S}{o:Obj}{p:Nat}{s:LS}{toks:List Tok}{a:Out}{e:dh}{w':S}(c:∀k,F k->k<w.heap.size)(h:dL F (w.alloc o) p s toks a e w'):dL F w p s toks a e w':=by
 obtain⟨i,d⟩:=h;have b:Keeps F w w':=((aj F w).A6 o).same i;refine⟨b,?_⟩;cases a with
 | error g=>obtain⟨no,f⟩:=g;exact d
 | ok y=>exact⟨d.1,d.2.mono (λk h=>h.elim U (λh=>H ⟨cu (by simp) h.1,h.2⟩)) (aF c b.size)⟩
def aG.B0{F:Nat->Prop}{w:S}{p:Nat}{x:Ps}{s:LS}{toks:List Tok}(h:aG F w p x s toks):aG F w.drew p x s toks:=h.D8 ((aj (λ_=>False) w).B0) (λ_ _=>id)
def o7{F:Nat->Prop}{w:S}{p:Nat}{x:Ps}{s:LS}{toks:List Tok}(h:aG F w p x s toks)(n:Nat):Keeps F w (w.setCell ⟨p,5,N⟩ (I O n))/\aG (Since F w (w.setCell ⟨p,5,N⟩ (I O n))) (w.setCell ⟨p,5,N⟩ (I O n)) p {x with a:=n} s toks:=by
 obtain⟨a,j,q,m,o,l,b,c,g,e,f,d,i⟩:=h;exact o5 (y:={x with a:=n}) a g f d i ((aj (λk=>k=p) w).A3 (p:=⟨p,5,N⟩) (U rfl) _) (aB e _) rfl rfl
def aFW(F:Nat->Prop)(w:S)(p:Nat)(x:Ps)(s:LS)(toks:List Tok)(a:Nat)(h:aG F w p x s toks)(m:x.a=4):
 D Y 112 #[X p,ak #[a,I O 1,I Z 58]] w λe w'=>cI e/\dL F w p s toks (.ok {x with a:=0}) e w':=by
 have d:=h.lt;have l:=boxed h (V #[a,I O 1,I Z 58] 238);have b:=bp w (V #[a,I O 1,I Z 58] 238);have u:(w.alloc (V #[a,I O 1,I Z 58] 238)).cell? w=J (I O a):=aA b;have b2:(w.alloc (V #[a,I O 1,I Z 58] 238)).cell? ⟨w.heap.size,2,N⟩=J (I Z 58):=aA b;have g:=A d;have B:=A l;obtain⟨W,j⟩:∃W,w.alloc (V #[a,I O 1,I Z 58] 238)=W:=⟨_,rfl⟩;have n:=A j;obtain⟨_,C,Q,L,P,G,i,k,z,f,v,r,q⟩:=l;rw[j]at f u b2 q;have t:W.cell? ⟨p,5,N⟩=J (I O 4):=by rw[aA f];show J (I O x.a)=_;rw[m];rfl
 have y:∀o,W.frozen? ⟨p,o,N⟩=ac:=free_at f;clear h d b f v r q z m;go_enter cg,cj;go_wp2
 go_end0
 have c:=o7 B.o 0;rw[j]at c;exact⟨U rfl,tL (o:=V #[a,I O 1,I Z 58] 238) g.o ⟨by rw[n.o];exact c.1,rfl,by rw[n.o];exact c.2⟩⟩
def wE(F:Nat->Prop)(w:S)(p:Nat)(x:Ps)(s:LS)(toks:List Tok)(a:Nat)(a0:aG F w p x s toks)(G:x.a=5)(b:List Fr)(m:Nat)(c:x.e=b++ [bx m])(t:b.length<=1048576):
 D Y 112 #[X p,ak #[a,I O 1,I Z 44]] w λe w'=>cI e/\dL F w p s toks (.ok {x with a:=0}) e w':=by
 have j:=a0.lt;have L:=boxed a0 (V #[a,I O 1,I Z 44] 238);have d:=bp w (V #[a,I O 1,I Z 44] 238);have b0:(w.alloc (V #[a,I O 1,I Z 44] 238)).cell? w=J (I O a):=aA d;have b2:(w.alloc (V #[a,I O 1,I Z 44] 238)).cell? ⟨w.heap.size,2,N⟩=J (I Z 44):=aA d;have v:=A j;have H1:=A L;obtain⟨W,y⟩:∃W,w.alloc (V #[a,I O 1,I Z 44] 238)=W:=⟨_,rfl⟩;have HW:=A y;obtain⟨_,FL,FM,FP,lb,mb,h,P,Q,i,hL,hM,r⟩:=L;rw[y]at i b0 b2 r;have g3:W.cell? ⟨p,5,N⟩=J (I O 5):=by rw[aA i];show J (I O x.a)=_;rw[G];rfl
 have g4:∀o,W.frozen? ⟨p,o,N⟩=ac:=free_at i;have c4:W.cell? ⟨p,4,N⟩=J h:=by rw[aA i];rfl
 rw[c]at r;obtain⟨g,off,cap,u,rfl,l,q,f,-,a1,-,z⟩:=o6 r;obtain⟨fb,rfl,-,-⟩:=z;have g5:∀w:S,(av (ae 272 (X fb)) 281 275 ag).run Y w=au (af #[X N,ai ac]) w:=λ_=>by kernel_rfl
 have B:g≠p:=λe=>Q.g.2.2.2 (e▸q)
 have C:O.wrap ((b.length:Int)+1-1)=(b.length:Int):=by rw[ct];omega
 obtain⟨n,R⟩:∃n,b.length=n:=⟨_,rfl⟩;rw[R]at t c4 l C f;have T:(W.setCell ⟨p,5,N⟩ (I O 0)).cell? ⟨g,off+n,N⟩=_:=((aj (λk=>k=p) W).A3 (p:=⟨p,5,N⟩) (U rfl) (I O 0)).B3 l B;have g6:(W.setCell ⟨p,5,N⟩ (I O 0)).cell? ⟨p,4,N⟩=J (K (g,off) (n+1) cap):=by rw[aA (aB i _)];show J (K _ _ _)=_;rw[R]
 clear a0 j d i hL hM r Q G c q f;go_enter cg,cj;go_wp2;go_region;go_wp2
 go_end0
 rw[<-y];have c:=o7 H1.o 0;exact⟨U rfl,tL (o:=V #[a,I O 1,I Z 44] 238) v.o ⟨c.1.B0,rfl,c.2.B0⟩⟩
def tM(F:Nat->Prop)(w:S)(p:Nat)(x:Ps)(s:LS)(toks:List Tok)(a:Nat)(C:aG F w p x s toks)(G:x.a=5)(b:List Fr)(ks:List Oo)(c:x.e=b++ [fi ks])(t:b.length<=1048576):
 D Y 112 #[X p,ak #[a,I O 1,I Z 44]] w λe w'=>cI e/\dL F w p s toks (.ok {x with a:=3}) e w':=by
 have j:=C.lt;have L:=boxed C (V #[a,I O 1,I Z 44] 238);have d:=bp w (V #[a,I O 1,I Z 44] 238);have b0:(w.alloc (V #[a,I O 1,I Z 44] 238)).cell? w=J (I O a):=aA d;have b2:(w.alloc (V #[a,I O 1,I Z 44] 238)).cell? ⟨w.heap.size,2,N⟩=J (I Z 44):=aA d;have l:=A j;have H1:=A L;obtain⟨W,v⟩:∃W,w.alloc (V #[a,I O 1,I Z 44] 238)=W:=⟨_,rfl⟩;have HW:=A v;obtain⟨_,FL,FM,FP,lb,mb,i,P,Q,f,hL,hM,r⟩:=L;rw[v]at f b0 b2 r;have g5:W.cell? ⟨p,5,N⟩=J (I O 5):=by rw[aA f];show J (I O x.a)=_;rw[G];rfl
 have g6:∀o,W.frozen? ⟨p,o,N⟩=ac:=free_at f;have c4:W.cell? ⟨p,4,N⟩=J i:=by rw[aA f];rfl
 rw[c]at r;obtain⟨g,off,cap,u,rfl,m,q,h,-,a0,-,y⟩:=o6 r;obtain⟨R,mp,kV,rfl,-,-,-⟩:=y;have g7:∀w:S,(av (ae 275 (X R)) 281 275 ag).run Y w=au (af #[X R,ai ag]) w:=λ_=>by kernel_rfl
 have z:g≠p:=λe=>Q.g.2.2.2 (e▸q)
 have B:O.wrap ((b.length:Int)+1-1)=(b.length:Int):=by rw[ct];omega
 obtain⟨n,T⟩:∃n,b.length=n:=⟨_,rfl⟩;rw[T]at t c4 m B h;have g3:(W.setCell ⟨p,5,N⟩ (I O 0)).cell? ⟨g,off+n,N⟩=_:=((aj (λk=>k=p) W).A3 (p:=⟨p,5,N⟩) (U rfl) (I O 0)).B3 m z;have g8:(W.setCell ⟨p,5,N⟩ (I O 0)).cell? ⟨p,4,N⟩=J (K (g,off) (n+1) cap):=by rw[aA (aB f _)];show J (K _ _ _)=_;rw[T]
 have g9:(W.setCell ⟨p,5,N⟩ (I O 0)).cell? ⟨p,5,N⟩=J (I O 0):=by rw[aA (aB f _)];rfl
 have g4:∀o,(W.setCell ⟨p,5,N⟩ (I O 0)).frozen? ⟨p,o,N⟩=ac:=free_at (aB f _);clear C j d f hL hM r Q G c q h;go_enter cg,cj;go_wp2;go_region;go_wp2
 go_end0
 rw[<-v];have c:=o7 H1.o 0;have d:=o7 c.2.B0 3;exact⟨U rfl,tL (o:=V #[a,I O 1,I Z 44] 238) l.o ⟨c.1.B0.O9 d.1,rfl,d.2.Q6 c.1.size d.1.size (λk C=>bj (l.o k C) (by simp))⟩⟩
def below_drewN(w:S)(n:Nat):ar w w (w.drewN n):=⟨rfl,rfl,rfl,bc _,λ_ _=>rfl⟩
def aIo(w:S)(a:Nat):D Y 358 #[X a] w λe w'=>e=ah (I Z 93)/\w'=w:=by
 go_enter func358,ntmps358;go_wp2;go_ret;exact⟨rfl,rfl⟩
def aDX(w:S)(a:Nat):D Y 359 #[X a] w λe w'=>e=ah (I Z 125)/\w'=w:=by
 go_enter func359,ntmps359;go_wp2;go_ret;exact⟨rfl,rfl⟩
def aIp(w:S)(p c want:Nat)(a:Option cr)(m:UInt8)(g i d b f k j l:E)(h:w.heap[p]?=J (V #[g,i,d,b,K a 0 c,want,f,k,j,l] 136 (0,0))):
 D Y 147 #[X p,I Z m.toNat] w λe w'=>e=ah (ai ac)/\ar w w w':=by
 obtain⟨-,-,-,-,n,-,-,-,-,-,-⟩:=b8 h;clear h;go_enter ck,co;go_wp2;go_region;go_wp2;go_ret;exact⟨rfl,(bk _ _).drew⟩
def aIq(w:S)(p g off n cap j want:Nat)(b:UInt8)(C u y r s v F t:E)(h:w.heap[p]?=J (V #[C,u,y,r,K (g,off) (n+1) cap,want,s,v,F,t] 136 (0,0)))
 (L:w.cell? ⟨g,off+n,N⟩=J (ae 272 (X j)))(R:n<=1048576):
 D Y 147 #[X p,I Z b.toNat] w λe w'=>e=ah (ai (decide ((93:UInt8)=b)&&(decide (want=5)||decide (want=1)||decide (want=2))))/\ar w w w':=by
 have T:∀w:S,(method 565 272 (X j) "affidavit/parse.sign").run Y w=au (358,X j) w:=λ_=>by kernel_rfl
 obtain⟨-,-,-,-,P,Q,-,-,-,-,-⟩:=b8 h;have z:O.wrap ((n:Int)+1-1)=(n:Int):=by rw[ct];omega
 have G:((n:Int)+1==0)=ac:=by simp;omega
 have B:(0:Int)<=(n:Int):=by omega
 have x:(n:Int)<(n:Int)+1:=by omega
 have o:=A (λw=>aIo w j);clear h
 have c:((93:UInt8)≠b/\((93:Int)!=(b.toNat:Int))=ag/\¬((93:Int)=(b.toNat:Int)))\/b=93:=by
  by_cases e:b=93
  .exact H e
  .refine U ⟨λh=>e h.symm,?_,?_⟩
   .have:b.toNat≠93:=λh=>e (by rw[<-dv];exact h)
    simp;omega
   .have:b.toNat≠93:=λh=>e (by rw[<-dv];exact h)
    omega
 rcases c with⟨i,W,-⟩|rfl
 .have f:(decide ((93:UInt8)=b)&&(decide (want=5)||decide (want=1)||decide (want=2)))=ac:=by rw[decide_eq_false i];rfl
  rw[f];clear i f;go_enter ck,co;go_wp2
  go_quiet (first|(go_at_call 358;refine cw (o.o _)))
  go_wp2;go_ret;exact⟨rfl,below_drewN _ _⟩
 .have l:((((93:UInt8)).toNat:Nat):Int)=93:=rfl;rw[l]
  have d:want=5\/want=1\/want=2\/(decide (want=5)||decide (want=1)||decide (want=2))=ac/\((want:Int)==5)=ac/\((want:Int)==1)=ac/\((want:Int)==2)=ac:=by
   by_cases k:want=5
   .exact U k
   by_cases q:want=1
   .exact H (U q)
   by_cases m:want=2
   .exact H (H (U m))
   exact H (H (H ⟨by simp[k,q,m],by simp;omega,by simp;omega,by simp;omega⟩))
  have a:decide ((93:UInt8)=93)=ag:=rfl;rw[a,ga];rcases d with rfl|rfl|rfl|⟨f,k,q,m⟩
  rotate_left 3
  .rw[f];clear f a l;go_enter ck,co;go_wp2
   go_quiet (first|(go_at_call 358;refine cw (o.o _)))
   go_wp2;go_ret;exact⟨rfl,below_drewN _ _⟩
  all_goals
   clear a l;go_enter ck,co;go_wp2
   go_quiet (first|(go_at_call 358;refine cw (o.o _)))
   go_wp2;go_ret;exact⟨rfl,below_drewN _ _⟩
def aDY(w:S)(p g off n cap j want:Nat)(b:UInt8)(C u y r s v F t:E)(h:w.heap[p]?=J (V #[C,u,y,r,K (g,off) (n+1) cap,want,s,v,F,t] 136 (0,0)))
 (L:w.cell? ⟨g,off+n,N⟩=J (ae 275 (X j)))(R:n<=1048576):
 D Y 147 #[X p,I Z b.toNat] w λe w'=>e=ah (ai (decide ((125:UInt8)=b)&&(decide (want=5)||decide (want=1)||decide (want=2))))/\ar w w w':=by
 have T:∀w:S,(method 565 275 (X j) "affidavit/parse.sign").run Y w=au (359,X j) w:=λ_=>by kernel_rfl
 obtain⟨-,-,-,-,P,Q,-,-,-,-,-⟩:=b8 h;have z:O.wrap ((n:Int)+1-1)=(n:Int):=by rw[ct];omega
 have G:((n:Int)+1==0)=ac:=by simp;omega
 have B:(0:Int)<=(n:Int):=by omega
 have x:(n:Int)<(n:Int)+1:=by omega
 have o:=A (λw=>aDX w j);clear h
 have c:((125:UInt8)≠b/\((125:Int)!=(b.toNat:Int))=ag/\¬((125:Int)=(b.toNat:Int)))\/b=125:=by
  by_cases e:b=125
  .exact H e
  .refine U ⟨λh=>e h.symm,?_,?_⟩
   .have:b.toNat≠125:=λh=>e (by rw[<-dv];exact h)
    simp;omega
   .have:b.toNat≠125:=λh=>e (by rw[<-dv];exact h)
    omega
 rcases c with⟨i,W,-⟩|rfl
 .have f:(decide ((125:UInt8)=b)&&(decide (want=5)||decide (want=1)||decide (want=2)))=ac:=by rw[decide_eq_false i];rfl
  rw[f];clear i f;go_enter ck,co;go_wp2
  go_quiet (first|(go_at_call 359;refine cw (o.o _)))
  go_wp2;go_ret;exact⟨rfl,below_drewN _ _⟩
 .have l:((((125:UInt8)).toNat:Nat):Int)=125:=rfl;rw[l]
  have d:want=5\/want=1\/want=2\/(decide (want=5)||decide (want=1)||decide (want=2))=ac/\((want:Int)==5)=ac/\((want:Int)==1)=ac/\((want:Int)==2)=ac:=by
   by_cases k:want=5
   .exact U k
   by_cases q:want=1
   .exact H (U q)
   by_cases m:want=2
   .exact H (H (U m))
   exact H (H (H ⟨by simp[k,q,m],by simp;omega,by simp;omega,by simp;omega⟩))
  have a:decide ((125:UInt8)=125)=ag:=rfl;rw[a,ga];rcases d with rfl|rfl|rfl|⟨f,k,q,m⟩
  rotate_left 3
  .rw[f];clear f a l;go_enter ck,co;go_wp2
   go_quiet (first|(go_at_call 359;refine cw (o.o _)))
   go_wp2;go_ret;exact⟨rfl,below_drewN _ _⟩
  all_goals
   clear a l;go_enter ck,co;go_wp2
   go_quiet (first|(go_at_call 359;refine cw (o.o _)))
   go_wp2;go_ret;exact⟨rfl,below_drewN _ _⟩
def mK(F:Nat->Prop)(w:S)(p:Nat)(x:Ps)(s:LS)(toks:List Tok)(c:UInt8)(L:aG F w p x s toks)(v:x.e.length<=1048576):
 D Y 147 #[X p,I Z c.toNat] w λe w'=>e=ah (ai (x.J5 c))/\ar w w w':=by
 obtain⟨-,P,Q,R,T,W,q,y,-,i,-,-,r⟩:=L;rcases qH x.e with d|⟨f,B,b⟩
 .obtain⟨a,cap,rfl⟩:=nG r;unfold dM at i;rw[d,dt]at i;have j:x.J5 c=ac:=by unfold fj;rw[d];rfl
  rw[j];exact aIp w p cap x.a a c _ _ _ _ _ _ _ _ i
 .rw[b]at r;obtain⟨g,off,cap,u,rfl,l,C,z,G,a0,hQ,n⟩:=o6 r;have o:f.length<=1048576:=by rw[b]at v;simp at v;omega
  cases B with
  | list m=>
   obtain⟨t,rfl,-,-⟩:=n
   have j:x.J5 c=(decide ((93:UInt8)=c)&&(decide (x.a=5)||decide (x.a=1)||decide (x.a=2))):=by
    have h:x.e.getLast?=J (bx m):=by rw[b];simp
    unfold fj;rw[h];rfl
   rw[j];exact aIq w p g off f.length cap t x.a c _ _ _ _ _ _ _ _ i l o
  | object k=>
   obtain⟨t,mp,kV,rfl,-,-,-⟩:=n
   have j:x.J5 c=(decide ((125:UInt8)=c)&&(decide (x.a=5)||decide (x.a=1)||decide (x.a=2))):=by
    have h:x.e.getLast?=J (fi k):=by rw[b];simp
    unfold fj;rw[h];rfl
   rw[j];exact aDY w p g off f.length cap t x.a c _ _ _ _ _ _ _ _ i l o
