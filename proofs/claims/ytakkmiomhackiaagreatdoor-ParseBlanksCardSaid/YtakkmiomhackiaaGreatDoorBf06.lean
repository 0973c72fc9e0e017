/-
  The program, one part of its walk. Conditions: none.
-/
import Derived.Test.YtakkmiomhackiaaGreatDoorBf05
import Derived.Deep.RegionLaw
import Derived.Deep.AppendLies
import Derived.Maps.OwnSet
import Derived.Lib.AppendZerosOnto
set_option linter.all false
set_option maxRecDepth 100000
set_option maxHeartbeats 16000000
open Go.Proofs.Tryz
open Array renaming extract_size->iw,getElem?_append_left->iy,getElem?_modify->iz
open Bool renaming false->V,true->G
open Decidable renaming byContradiction->kj
open Except renaming error->dj
open Go renaming Addr->bk,Calls->ae,Leaves->dx,TypeId->co,Value->X,World->U,bodyPost_ret->ev,cell_of_one->av,free_of_one->bx,heap_alloc_new->bp,info_parts->im,leaves_cons->dw,lt_of_block->ba,maxLen->au,plainElem_int->jm,results->bm,rounds_succ->je,settle->dy,unitElem_mk->jq,wpOpsS->gq,wpS_region->gp,wp_loop_rounds->jd
open Go.Addr renaming add->ge
open Go.Addr.mk renaming injEq->kh
open Go.Ending renaming panicked->gj,returned->af
open Go.Exit renaming thenS->it
open Go.FrameMode renaming panicking->ir
open Go.Instr renaming lookup->ii,mapUpdate->jn
open Go.IntKind renaming bits->kz,i64->O,max->kw,min->ku,signed->ld,u64->ak,u8->cu,wrap_i64->bu,wrap_u8->ik
open Go.Lib renaming bitLen->iv,run_eql_slice_nil->io
open Go.Lit renaming int->ie,string->cg
open Go.Maps renaming IsMap->jg,has->ji,has_put_other->jk,has_put_same->jj,isMap_empty->jh
open Go.Obj renaming cells->H
open Go.Proofs renaming intOf->fq,sortWorld->fj
open Go.Proofs.Tryz renaming func162->ft,func175->ei,func179->dl,func196->du,func197->cv,func213->gn,func219->fa,func220->fh,func235->gl,func238->ga,func74->eo,func89->fk,ntmps162->fu,ntmps175->ej,ntmps179->dm,ntmps196->dv,ntmps197->cw,ntmps213->go,ntmps219->fc,ntmps220->fi,ntmps235->gm,ntmps238->gc,ntmps74->ep,ntmps89->fm,prog->Z,results196->ee,results238->gd,underlying184->fz,underlying263->ij,underlying276->jp,underlying3->fv,underlying9->jf
open Go.Proofs.YtakkmiomhackiaaGreatDoor.Keeps renaming A0->ah,A8->bz
open Go.Proofs.YtakkmiomhackiaaGreatDoor.Lim renaming bitlen->bw,bitlen_le->jt
open Go.Proofs.YtakkmiomhackiaaGreatDoor.Sz renaming A9->gk
open Go.Proofs.YtakkmiomhackiaaGreatDoor.Tr renaming A5->bh,flag->ek,list->di,null->ct,object->ib
open Go.Proofs.YtakkmiomhackiaaGreatDoor.aQ renaming E8->ez
open Go.Result renaming ok->bj
open Go.RowKit renaming Below->C
open Go.RowKit.Below renaming heap_alloc->gh,refl->aw
open Go.Sort renaming ahead->gy,grow->gv,mapBlock->gx,pdq_sorts->iu,putCells->gu,putRow->gw
open Go.Value renaming agg->ag,bool->T,iface->ac,int->J,map->em,nilIface->bc,pointer->E,slice->Q,tuple->cr
open Go.Value.slice renaming injEq->kb
open Go.WideAt renaming IsKeyLit->ig
open Go.WideMaps renaming keyOf_string_mk->kr
open Go.World renaming ownsMap_made->jr
open Go.World.ownsMap renaming look_ok->jl,lookup_int->kt,store->jo
open List renaming getElem?_drop->ip,getElem?_eq_getElem->eh,getElem?_eq_some_iff->gz,getElem?_map->ix,getElem?_take->iq,length_cons->jb,length_drop->cz,length_map->gr,length_take->fg,map_id->dt,mem_of_mem_drop->fe,takeWhile_cons->ja
open List.Perm renaming of_eq->ki
open Nat renaming eq_zero_or_pos->js,le_refl->aj,le_succ->dh,le_trans->ar,lt_of_lt_of_le->dq,mul_assoc->dp,mul_comm->jy,mul_le_mul_left->ju,mul_le_mul_right->cj,mul_pos->et,mul_right_comm->jv,pow_add->ck,pow_le_pow_right->fw,pow_pos->eu,pow_succ->jx,pow_zero->jz,two_pow_pos->il,zero_le->ew,zero_mul->jw
open Option renaming none->Y,some->I
open Option.some renaming injEq->ke
open Or renaming inl->ai,inr->ao
open UInt8.toNat renaming inj->jc
namespace Go.Proofs.YtakkmiomhackiaaGreatDoor
open Go.RowKit
variable {w w':U}{a b i k:Nat}{s:ByteArray}{F:Nat->Prop}{keys r:List Oo}
def l9:lB 184 97 1 16:=⟨fz,by decide,by
 have h:(Z.info? 97).map (λi=>(i.zero,i.size,i.bytes))=I (I bc,1,16):=by kernel_rfl
 obtain⟨i,c,a,d,b⟩:=im h;exact⟨i,_,c,a,d,b,rfl⟩⟩
def xH(w:U)(a:List X)(e:Ending)(w':U):Prop:=
 ∃v,e=af v/\Win 97 id w' v a/\(∀k,v.ownBlock=I k->w.heap.size<=k/\k<w'.heap.size)/\C w w w'
def xI(w:U):ae Z 238 #[()] w λe w'=>xH w [] e w':=by
 have f:∀(w:U)(a:Option bk)(n c b d:Nat),(binOp .eql 184 (Q a n c) (Q Y b d)).run Z w=bj (T a.isNone) w:=λw a n c b d=>io w _ _ a n c b d fz
 go_enter ga,gc;go_wp2_with fail;exact ev (v:=Q Y 0 0) (by simp[bm,gd,go_sem]) rfl ⟨_,rfl,.nil _ _ _,λk h=>(by cases h),aw _ _⟩
def nI(w:U)(g off cap:Nat)(b:List X)(s:b.length<=1048576)(f:∀v∈b,v.oneCell'=G)(l:∀i x,b[i]?=I x->w.cell? ⟨g,off+i,Y⟩=I x):
 ae Z 238 #[Q (g,off) b.length cap] w λe w'=>xH w b e w':=by
 have m:C w w (w.alloc (H #[] 97)):=(aw _ _).alloc (aj _) _;have h:=bp w (H #[] 97);have o:aQ 1 97 (w.alloc (H #[] 97)) (Q w 0 0) 0 []:=⟨by simp,ao ⟨w.heap.size,0,0,#[],rfl,h,aj _,by simp,ew _,λj u q=>by simp at q⟩⟩;have t:=A m;have r:=A o;have y:=A s;have p:=A f
 have d:∀j u,b[j]?=I u->(w.alloc (H #[] 97)).cell? ((⟨g,off,Y⟩:bk).add j)=I u:=by
  intro j u q;have B:(⟨g,off,Y⟩:bk).add j=⟨g,off+j,Y⟩:=by unfold ge;split<;>simp_all
  rw[B];have z:=l j u q;exact(World.cell?_of_block (gh _ _ _ (World.block_lt_of_cell? w _ z))).trans z
 have F:=A d;clear m h o s l d f;have K:∀(w:U)(a:Option bk)(n c m o:Nat),(binOp .eql 184 (Q a n c) (Q Y m o)).run Z w=bj (T a.isNone) w:=λw a n c m o=>io w _ _ a n c m o fz
 by_cases f:b= []
 .subst f;go_enter ga,gc
  go_wp2_with (at_builtin;refine sD l9 rfl _ _ rfl rfl r.o (I ⟨g,off,Y⟩) cap rfl ?_)
  go_wp2_with fail;exact ev (v:=Q w 0 0) (by simp[bm,gd,go_sem]) rfl ⟨_,rfl,ez (by simpa using r.o),λk l=>(by cases l;exact⟨aj _,by simp⟩),t.o⟩
 .obtain⟨n,h⟩:∃n,b.length=n+1:=⟨b.length-1,by have:=List.length_pos_iff.2 f;omega⟩;rw[h];have d:=A h;clear f h;go_enter ga,gc
  go_wp2_with (at_builtin;refine bC l9 rfl _ _ rfl rfl r.o ⟨g,off,Y⟩ (n+1) cap b rfl ?_ F.o ?_ ?_ ?_ ?_ ?_)
  .rw[d.o];omega
  .exact p.o
  .omega
  .have:=y.o;rw[d.o]at this;omega
  .have:=y.o;rw[d.o]at this;unfold au;omega
  intro L f c w' z B h;have s:=A z;have N:=A B;have D:=A h;clear z B h;go_wp2_with fail;refine ev (v:=Q (L,f) (n+1) c) (by simp[bm,gd,go_sem]) rfl ?_;refine⟨_,rfl,?_,?_,?_⟩
  .exact ez (n:=n+1) (by simpa using s.o)
  .intro k h;cases h;rcases N.o with l|l
   .cases l;exact⟨aj _,dq (by simp) D.o.size⟩
   .exact⟨ar (by simp) l.1,l.2⟩
  .exact((ah (λ_=>False) t.o).trans D.o (λk l=>ao (by cases l;exact aj _))).C6 (aj _) (λ_ l=>l.elim)
def aCO(w:U)(b n:Nat)(l:X)(a:List X)(h:w.heap[b]?=I (H #[l] 195 (0,0)))(d:Win 97 id w l a)(g:a.length<n):
 ae Z 219 #[E b,n] w λe w'=>e=gj [{v:=ac 29 (J O 102),recovered:=V}]/\w'=w:=by
 have j:=av h;obtain⟨i,k,c⟩:=d.A7;have f:(a.length:Int)<(n:Int):=by omega
 clear h d g;subst c;go_enter fa,fc;go_wp2_with fail;exact⟨rfl,rfl,rfl⟩
def wK(w:U)(b n:Nat)(a0:X)(a:List X)(R:w.heap[b]?=I (H #[a0] 195 (0,0)))(S:Win 97 id w a0 a)(B:a.length<=1048576)(f:∀v∈a,v.oneCell'=G)(u:n<=a.length):
 ae Z 219 #[E b,n] w λe w'=>xH w (a.drop (a.length-n)) e w':=by
 have W:=av R;have q:¬(a.length:Int)<(n:Int):=by omega
 have j:(n:Int)<=(a.length:Int):=by omega
 rcases S with⟨rfl,rfl⟩|⟨g,off,cap,g2,rfl,D,g3,-,F,hi⟩
 .have c:n=0:=by simpa using u
  subst c;have p:=A (xI w);clear R f B u q j;go_enter fa,fc;go_wp2_with fail;refine(p.o).mono ?_;rintro e w1 ⟨v,rfl,h,l,m⟩;have o:=A (And.intro h (And.intro l m));obtain⟨a2,c2,rfl⟩:=h.A7;clear h l m;go_wp2;go_ret;exact⟨_,rfl,o.o.1,o.o.2⟩
 .obtain⟨k,y⟩:∃k,a.length-n=k:=⟨_,rfl⟩;have g4:k<=a.length:=by omega
  rw[y];have K:O.wrap ((a.length:Int)-(n:Int))=(k:Int):=by rw[bu];omega
  have g5:(0:Int)<=(k:Int):=by omega
  have L:(k:Int)<=(a.length:Int):=by omega
  have g6:cap<=9223372036854775807:=by unfold au at F;omega
  have r:(a.drop k).length=a.length-k:=cz
  have c:∀i x,(a.drop k)[i]?=I x->w.cell? ⟨g,off+k+i,Y⟩=I x:=λi x z=>by
   rw[ip]at z;rw[aA D,show off+k+i=off+(k+i) by omega];exact hi (k+i) x z
  have d:∀v∈a.drop k,v.oneCell'=G:=λv N=>f v (fe N)
  have HK:=A (And.intro y r)
  by_cases P:cap=k
  .have s:a.drop k= []:=List.eq_nil_of_length_eq_zero (by omega);rw[s];have p:=A (nI w g off 0 [] (by simp) (λv N=>by simp at N) (λi x z=>by simp at z));have t:a.length=k:=by omega
   subst P;clear R f B u hi D F c d s r y;rw[t]at W q j K L;clear t;go_enter fa,fc;go_wp2_with fail;refine(p.o).mono ?_;rintro e w1 ⟨v,rfl,h,l,m⟩;have o:=A (And.intro h (And.intro l m));obtain⟨a2,c2,rfl⟩:=h.A7;clear h l m;go_wp2;go_ret;exact⟨_,rfl,o.o.1,o.o.2⟩
  .have p:=A (nI w g (off+k) (cap-k) (a.drop k) (by rw[r];omega) d c);rw[r]at p;clear R f B u hi D F c d y r;go_enter fa,fc;go_wp2_with fail;refine(p.o).mono ?_;rintro e w1 ⟨v,rfl,h,l,m⟩;have o:=A (And.intro h (And.intro l m));obtain⟨a2,c2,rfl⟩:=h.A7;clear h l m;go_wp2;go_ret;have c:=o.o.1;have d:=o.o.2;rw[HK.o.2]at c d;exact⟨_,rfl,c,d⟩
def jX(w:U)(b:Nat)(c:X)(a:List X)(k:Nat)(d:co)(v:X)(w':U):Prop:=
 ∃g off cap,w'.heap[b]?=I (H #[Q (I ⟨g,off,Y⟩) (k+1) cap] 195 (0,0))/\Win 97 id w' (Q (I ⟨g,off,Y⟩) (k+1) cap) (a.take k++ [ac d v])/\(c.ownBlock=I g\/w.heap.size<=g)/\Keeps (λk=>k=b\/c.ownBlock=I k) w w'
def Win.take{t:Type}{e:Nat}{enc:t->X}{g off n cap:Nat}{l:List t}(h:Win e enc w (Q (g,off) n cap) l){k:Nat}(q:k<=l.length):Win e enc w (Q (g,off) k cap) (l.take k):=by
 have o:(l.take k).length=k:=by rw[fg];omega
 rcases h with⟨c,_⟩|⟨r,d,f,b,c,j,s,m,p,hi⟩
 .cases c
 .cases c;refine ao ⟨g,off,cap,b,by rw[o],j,by omega,m,p,λi x a=>?_⟩;rw[iq]at a;split at a
  .exact hi i x a
  .cases a
def aAL(w:U)(n a d:Nat)(h:(⟨n,a,d⟩:Sz).A9=V)(m:n<=4611686018427387904)(l:a<=4611686018427387904)(f:d<=4611686018427387904):ae Z 235 #[ag #[n,a,d]] w λe w'=>e=af (T V)/\C w w w':=by
 by_cases j:n<=65536
 .have b:(n:Int)<=65536:=by omega
  by_cases i:a<=2097152
  .have c:(a:Int)<=2097152:=by omega
   have g:¬(d:Int)<=512:=by
    intro k;simp[gk]at h;omega
   clear h;go_enter gl,gm;go_wp2;go_ret;exact⟨rfl,(aw _ _).alloc (aj _) _⟩
  .have c:¬(a:Int)<=2097152:=by omega
   clear h;go_enter gl,gm;go_wp2;go_ret;exact⟨rfl,(aw _ _).alloc (aj _) _⟩
 .have b:¬(n:Int)<=65536:=by omega
  clear h;go_enter gl,gm;go_wp2;go_ret;exact⟨rfl,(aw _ _).alloc (aj _) _⟩
def pG(a:Option bk)(n c b d:Nat):(Q a n c).ownBlock=(Q a b d).ownBlock:=by cases a<;>rfl
def vX(w:U)(b n p h d a:Nat)(c:Array X)(S:co)(r:w.heap[p]?=I (H c S (0,0)))(m:c[0]?=I (J O h))(o:c[1]?=I (J O d))(l:c[2]?=I (J O a))
 (q:(⟨h,d,a⟩:Sz).A9=V)(y:h<=4611686018427387904)(t:d<=4611686018427387904)(s:a<=4611686018427387904):
 ae Z 220 #[E b,n,ac 181 (E p)] w λe w'=>e=gj [{v:=ac 29 (J O 3),recovered:=V}]/\C w w w':=by
 have B:=qK r m o l;have x:=A (λi=>jF i h d a);have u:=A (λi=>aAL i h d a q y t s);clear r m o l q;go_enter fh,fi;go_wp2_with fail;refine(x.o _).mono ?_;rintro e w1 ⟨rfl,g⟩;have j:=A g;clear g;go_wp2_with fail;refine(u.o _).mono ?_;rintro e w2 ⟨rfl,f⟩;have k:=A (chain j.o f);clear f;go_wp2_with fail;refine(wZ _ 3).mono ?_;rintro e z ⟨rfl,rfl⟩;go_wp2_with fail;exact⟨rfl,rfl,k.o⟩
def vY(w:U)(b n p D F K:Nat)(c:Array X)(S:co)(a1:X)(a:List X)(L:w.heap[p]?=I (H c S (0,0)))(m:c[0]?=I (J O D))(t:c[1]?=I (J O F))(f:c[2]?=I (J O K))
 (v:(⟨D,F,K⟩:Sz).A9=G)(a0:w.heap[b]?=I (H #[a1] 195 (0,0)))(i:Win 97 id w a1 a)(x:a.length<=1048576)(hn:n<=a.length):
 ae Z 220 #[E b,n,ac 181 (E p)] w λe w'=>e=af (cr #[])/\jX w b a1 a (a.length-n) 181 (E p) w':=by
 have hm:=qK L m t f;have HS:=A (λN=>jF N D F K);have HO:=A (λN=>kS N D F K v);obtain⟨k,P⟩:∃k,a.length-n=k:=⟨_,rfl⟩;rw[P];have h8:O.wrap ((a.length:Int)-(n:Int))=(k:Int):=by rw[bu];omega
 have h9:(0:Int)<=(k:Int):=by omega
 have i0:(k:Int)<=(a.length:Int):=by omega
 have o:k<=a.length:=by omega
 have R:=A (i.ne a0 (by decide));have a2:=A a0;have s:=A (And.intro x o)
 obtain⟨r,d,W,i1,h⟩:∃r d,a1=Q r a.length d/\a.length<=d/\Win 97 id w (Q r k d) (a.take k):=by
  rcases i with⟨rfl,rfl⟩|⟨g,off,cap,l,rfl,z,y,B,hm,hi⟩
  .have:k=0:=by simp at o;exact o
   subst this;exact⟨Y,0,rfl,aj _,.nil _ _ _⟩
  .exact⟨_,cap,rfl,y,Win.take (n:=a.length) (ao ⟨g,off,cap,l,rfl,z,y,B,hm,hi⟩) o⟩
 have i2:(k:Int)<=(d:Int):=by omega
 have g0:=A h;clear L m t f v a0 i x h;subst W;go_enter fh,fi;go_wp2_with fail;refine(HS.o _).mono ?_;rintro e w1 ⟨rfl,h⟩;have g1:=A h;clear h;go_wp2_with fail;refine(HO.o _).mono ?_;rintro e w2 ⟨rfl,h⟩;have i:=chain g1.o h;have f:=keep a2.o i;have g2:=av f;have g3:=bx f;have g4:=A f;have HB:=A i;have h7:=ba f;clear h i f;go_wp2_with fail;refine(dT _ 3).mono ?_;rintro e f ⟨rfl,rfl⟩;have i:Keeps (λ_=>False) f (f.drew.alloc (H #[ac 181 (E p)] 97)):=((bz _ f).B0).A6 _;have l:=((g0.o.A2 (ah (λ_=>False) HB.o) (λ_ _=>id)).A2 i (λ_ _=>id)).M7;rw[dt,show(a.take k).length=k by rw[fg];omega]at l
 have h:∀j u,([ac 181 (E p)]:List X)[j]?=I u->(f.drew.alloc (H #[ac 181 (E p)] 97)).cell? ((⟨f.heap.size,0,Y⟩:bk).add j)=I u:=by
  intro j u m;have L:(⟨f.heap.size,0,Y⟩:bk).add j=⟨f.heap.size,j,Y⟩:=by unfold ge;split<;>simp_all
  rw[L]
  show(f.drew.alloc _).cell? ⟨f.drew.heap.size,j,Y⟩=_
  rw[aA (bp f.drew _)]
  simpa using m
 have m:∀u∈([ac 181 (E p)]:List X),u.oneCell'=G:=λu hu=>by simp at hu;subst hu;rfl
 have t:(k+1)*16<=140737488355328:=by have:=s.o;omega
 have v:k+1<=au:=by have:=s.o;unfold au;omega
 have g5:=A l;have x:=A h;have g6:=A m;have g7:=A t;have g8:=A v;have g9:=A (i.B7 g4.o id);have y:=A (show(Q r k d).ownBlock≠I b by rw[pG r k d a.length d];exact R.o);clear l h m t v i;go_wp2
 go_region_law (refine bP l9 rfl _ _ rfl rfl g5.o f 1 1 [ac 181 (E p)] rfl rfl x.o g6.o (by decide) g7.o g8.o ?_;intro z t v w' i l h;have h:Keeps (λq=>(Q r k d).ownBlock=I q) (f.drew.alloc (H #[ac 181 (E p)] 97)) w':=h;have l:(Q r k d).ownBlock=I z\/(f.drew.alloc (H #[ac 181 (E p)] 97)).heap.size<=z/\z<w'.heap.size:=l;have m:=h.B7 g9.o y.o;have i3:=av m;have i4:=bx m)
 all_goals
  have h3:=A m;have B:=A i;rw[pG r k d a.length d]at l h;have h4:=A l;have h5:=A h;have h6:=A (i.ne m (by decide));clear m i l h g2 g3;go_wp2
  go_end0
  have i:Keeps (λk=>k=b) w' (w'.setCell b (Q (z,t) (k+1) v)):=(bz (λk=>k=b) w').A3 (p:=b) (ai rfl) _
  refine⟨rfl,z,t,v,aB h3.o _,?_,?_,?_⟩
  .refine ez (n:=k+1) ?_;rw[dt];exact B.o.A2 i (λk e P=>h6.o (e.trans (congrArg I P)))
  .exact h4.o.imp id (λa0=>ar HB.o.size (ar (by simp) a0.1))
  .exact((((ah (λk=>k=b\/(Q r a.length d).ownBlock=I k) HB.o).B0.A6 _).same (h5.o.mono (λk e=>ao e)))).same (i.mono (λk e=>ai e))
def sE(w:U)(b n p h d a:Nat)(c:Array X)(S:co)(r:w.heap[p]?=I (H c S (0,0)))(m:c[0]?=I (J O h))(o:c[1]?=I (J O d))(l:c[2]?=I (J O a))
 (q:(⟨h,d,a⟩:Sz).A9=V)(y:h<=4611686018427387904)(t:d<=4611686018427387904)(s:a<=4611686018427387904):
 ae Z 220 #[E b,n,ac 187 (E p)] w λe w'=>e=gj [{v:=ac 29 (J O 3),recovered:=V}]/\C w w w':=by
 have B:=qL r m o l;have x:=A (λi=>jF i h d a);have u:=A (λi=>aAL i h d a q y t s);clear r m o l q;go_enter fh,fi;go_wp2_with fail;refine(x.o _).mono ?_;rintro e w1 ⟨rfl,g⟩;have j:=A g;clear g;go_wp2_with fail;refine(u.o _).mono ?_;rintro e w2 ⟨rfl,f⟩;have k:=A (chain j.o f);clear f;go_wp2_with fail;refine(wZ _ 3).mono ?_;rintro e z ⟨rfl,rfl⟩;go_wp2_with fail;exact⟨rfl,rfl,k.o⟩
def lO(w:U)(b n p D F K:Nat)(c:Array X)(S:co)(a1:X)(a:List X)(L:w.heap[p]?=I (H c S (0,0)))(m:c[0]?=I (J O D))(t:c[1]?=I (J O F))(f:c[2]?=I (J O K))
 (v:(⟨D,F,K⟩:Sz).A9=G)(a0:w.heap[b]?=I (H #[a1] 195 (0,0)))(i:Win 97 id w a1 a)(x:a.length<=1048576)(hn:n<=a.length):
 ae Z 220 #[E b,n,ac 187 (E p)] w λe w'=>e=af (cr #[])/\jX w b a1 a (a.length-n) 187 (E p) w':=by
 have hm:=qL L m t f;have HS:=A (λN=>jF N D F K);have HO:=A (λN=>kS N D F K v);obtain⟨k,P⟩:∃k,a.length-n=k:=⟨_,rfl⟩;rw[P];have h8:O.wrap ((a.length:Int)-(n:Int))=(k:Int):=by rw[bu];omega
 have h9:(0:Int)<=(k:Int):=by omega
 have i0:(k:Int)<=(a.length:Int):=by omega
 have o:k<=a.length:=by omega
 have R:=A (i.ne a0 (by decide));have a2:=A a0;have s:=A (And.intro x o)
 obtain⟨r,d,W,i1,h⟩:∃r d,a1=Q r a.length d/\a.length<=d/\Win 97 id w (Q r k d) (a.take k):=by
  rcases i with⟨rfl,rfl⟩|⟨g,off,cap,l,rfl,z,y,B,hm,hi⟩
  .have:k=0:=by simp at o;exact o
   subst this;exact⟨Y,0,rfl,aj _,.nil _ _ _⟩
  .exact⟨_,cap,rfl,y,Win.take (n:=a.length) (ao ⟨g,off,cap,l,rfl,z,y,B,hm,hi⟩) o⟩
 have i2:(k:Int)<=(d:Int):=by omega
 have g0:=A h;clear L m t f v a0 i x h;subst W;go_enter fh,fi;go_wp2_with fail;refine(HS.o _).mono ?_;rintro e w1 ⟨rfl,h⟩;have g1:=A h;clear h;go_wp2_with fail;refine(HO.o _).mono ?_;rintro e w2 ⟨rfl,h⟩;have i:=chain g1.o h;have f:=keep a2.o i;have g2:=av f;have g3:=bx f;have g4:=A f;have HB:=A i;have h7:=ba f;clear h i f;go_wp2_with fail;refine(dT _ 3).mono ?_;rintro e f ⟨rfl,rfl⟩;have i:Keeps (λ_=>False) f (f.drew.alloc (H #[ac 187 (E p)] 97)):=((bz _ f).B0).A6 _;have l:=((g0.o.A2 (ah (λ_=>False) HB.o) (λ_ _=>id)).A2 i (λ_ _=>id)).M7;rw[dt,show(a.take k).length=k by rw[fg];omega]at l
 have h:∀j u,([ac 187 (E p)]:List X)[j]?=I u->(f.drew.alloc (H #[ac 187 (E p)] 97)).cell? ((⟨f.heap.size,0,Y⟩:bk).add j)=I u:=by
  intro j u m;have L:(⟨f.heap.size,0,Y⟩:bk).add j=⟨f.heap.size,j,Y⟩:=by unfold ge;split<;>simp_all
  rw[L]
  show(f.drew.alloc _).cell? ⟨f.drew.heap.size,j,Y⟩=_
  rw[aA (bp f.drew _)]
  simpa using m
 have m:∀u∈([ac 187 (E p)]:List X),u.oneCell'=G:=λu hu=>by simp at hu;subst hu;rfl
 have t:(k+1)*16<=140737488355328:=by have:=s.o;omega
 have v:k+1<=au:=by have:=s.o;unfold au;omega
 have g5:=A l;have x:=A h;have g6:=A m;have g7:=A t;have g8:=A v;have g9:=A (i.B7 g4.o id);have y:=A (show(Q r k d).ownBlock≠I b by rw[pG r k d a.length d];exact R.o);clear l h m t v i;go_wp2
 go_region_law (refine bP l9 rfl _ _ rfl rfl g5.o f 1 1 [ac 187 (E p)] rfl rfl x.o g6.o (by decide) g7.o g8.o ?_;intro z t v w' i l h;have h:Keeps (λq=>(Q r k d).ownBlock=I q) (f.drew.alloc (H #[ac 187 (E p)] 97)) w':=h;have l:(Q r k d).ownBlock=I z\/(f.drew.alloc (H #[ac 187 (E p)] 97)).heap.size<=z/\z<w'.heap.size:=l;have m:=h.B7 g9.o y.o;have i3:=av m;have i4:=bx m)
 all_goals
  have h3:=A m;have B:=A i;rw[pG r k d a.length d]at l h;have h4:=A l;have h5:=A h;have h6:=A (i.ne m (by decide));clear m i l h g2 g3;go_wp2
  go_end0
  have i:Keeps (λk=>k=b) w' (w'.setCell b (Q (z,t) (k+1) v)):=(bz (λk=>k=b) w').A3 (p:=b) (ai rfl) _
  refine⟨rfl,z,t,v,aB h3.o _,?_,?_,?_⟩
  .refine ez (n:=k+1) ?_;rw[dt];exact B.o.A2 i (λk e P=>h6.o (e.trans (congrArg I P)))
  .exact h4.o.imp id (λa0=>ar HB.o.size (ar (by simp) a0.1))
  .exact((((ah (λk=>k=b\/(Q r a.length d).ownBlock=I k) HB.o).B0.A6 _).same (h5.o.mono (λk e=>ao e)))).same (i.mono (λk e=>ai e))
def tV(w:U)(n:Nat):ae Z 213 #[ag #[J O 5,T V,J ak 0,"",n,()]] w λe w'=>e=af (T G)/\C w w w':=by
 have a:(((n:Nat):Int)==0)=G\/(((n:Nat):Int)==0)=V:=by cases h:(((n:Nat):Int)==0)<;>simp
 have b:(0:Int)<=(n:Int):=by omega
 rcases a with a|a
 all_goals
  go_enter gn,go;go_wp2;go_ret;exact⟨rfl,(aw _ _).alloc (aj _) _⟩
def l4(p:bk)(x:X)(no:Nat)(a:List PanicEntry)(w:U)(d:w.cell? p=I x)(g:w.frozen? p=V):
 CallsD Z 211 #[E (I p)] (ir ({v:=ac 29 (J O no),recovered:=V}::a)) w λe f w'=>
  e=af (cr #[])/\f=ir ({v:=ac 29 (J O no),recovered:=G}::a)/\w'=w.setCell p (ac 29 (J O no)):=by
 have b:∀w:U,(Instr.typeAssert (ac 29 (J O no)) 20 29 V).run Z w=bj (J O no) w:=λ_=>by kernel_rfl
 refine callsD_of_wpS func211 rfl λh i c=>?_
 apply wpS_seq;apply gp;simp[gq,go_sem,recoverD,c,ntmps211,it,Array.replicate];apply wpS_seq;apply gp;simp[gq,go_sem,recoverD,c,it];refine wpS_cond (t:=G) (by simp[Act.eval]) ?_;simp only[if_true];apply gp;simp[gq,go_sem,d,g,b,bodyPostS,bm,results211]
def aEK(w:U)(b:Nat)(c:X)(a:List X)(k:Nat)(d:co)(v:X)(R:Nat)(w':U):Prop:=
 ∃g off cap,w'.heap[b]?=I (H #[Q (I ⟨g,off,Y⟩) (k+1) cap] 195 (0,0))/\Win 97 id w' (Q (I ⟨g,off,Y⟩) (k+1) cap) (a.take k++ [ac d v])/\(c.ownBlock=I g\/w.heap.size<=g)/\Keeps (λq=>q=b\/c.ownBlock=I q\/q=R) w w'
def jX.E9{w1 w2:U}{x:X}{c:List X}{t:co}{v:X}{R:Nat}{n:X}(s:w.heap.size<=R)(i:w1.heap[R]?=I (H #[n] 26 (0,0)))(j:∀k,x.ownBlock=I k->k<w.heap.size)(o:b<w.heap.size)(h:jX w1 b x c k t v w2)(u:X):
 w2.cell? R=I n/\w2.frozen? R=V/\aEK w1 b x c k t v R (w2.setCell R u)/\(w2.setCell R u).cell? R=I u:=by
 obtain⟨g,off,cap,q,l,r,m⟩:=h
 have f:¬(R=b\/x.ownBlock=I R):=by
  rintro(e|e)
  .omega
  .have:=j R e;omega
 have a:=m.B7 i f;have d:Keeps (λk=>k=R) w2 (w2.setCell R u):=(bz (λk=>k=R) w2).A3 (p:=R) (ai rfl) _;refine⟨av a,bx a,⟨g,off,cap,(aE u (by omega)).trans q,?_,r,(m.mono λk e=>e.imp id ai).same (d.mono λk e=>ao (ao e))⟩,?_⟩
 .exact l.A2 d (λk e d=>l.ne a (by decide) (e.trans (congrArg I d)))
 .rw[aA (aB a u)];rfl
def jY(w:U)(b:Nat)(e:X)(c:List X)(k:Nat)(z:Sz)(w':U):Prop:=
 ∃(d:U)(R p:Nat)(a:X),C w w d/\w.heap.size<=R/\d.heap[R]?=I (H #[bc] 26 (0,0))/\w.heap.size<=p/\d.heap[p]?=I (H #[z.g,z.bytes,z.h,a] 186 (0,0))/\
  Win 97 id d a (c.drop k)/\(∀q,a.ownBlock=I q->w.heap.size<=q)/\aEK d b e c k 181 (E p) R w'
def jY.M8{w1:U}{s:X}{c:List X}{z:Sz}(d:C w w w1)(h:jY w1 b s c k z w'):jY w b s c k z w':=by
 obtain⟨f,R,p,a,j,g,o,i,m,r,l,n⟩:=h;exact⟨f,R,p,a,d.trans (j.mono d.size),ar d.size g,o,ar d.size i,m,r,λq e=>ar d.size (l q e),n⟩
def uY{bytes:Nat}{l:List Sz}(h:∀z∈l,z.A9=G)(a:l.length<=65536)(b:bytes<=1073741824):(fY bytes l).g<=4611686018427387904/\(fY bytes l).bytes<=4611686018427387904/\(fY bytes l).h<=4611686018427387904:=by
 have:=sC (bytes:=bytes) h;rw[lA];exact⟨by show(cT bytes l).g<=_;omega,by show(cT bytes l).bytes<=_;omega,by show(cT bytes l).h+1<=_;omega⟩
def aCP(w:U)(b n:Nat)(S:X)(a:List X)(h:w.heap[b]?=I (H #[S] 195 (0,0)))(r:Win 97 id w S a)(s:a.length<n):
 ae Z 196 #[E b,ag #[J O 5,T V,J ak 0,"",n,()]] w λe w'=>(∃v,e=af v)/\C w w w':=by
 have x:=A (λw=>tV w n);have z:=A (λw'(o:C w w w')=>aCO w' b n S a (keep h o) (r.A2 (ah (λ_=>False) o) (λ_ _=>id)) s);clear h r s
 go_enter_defers du,dv
 go_wp2_with fail;refine(x.o _).mono ?_;rintro e w1 ⟨rfl,i⟩;obtain⟨g1,q,d,t⟩:=after2 i;obtain⟨B,D,R,F,P,L,N⟩:=bJ g1;have u:=A q;have g:=A d;clear i g1 q d;go_wp2_with fail;refine(dT _ 2).mono ?_;rintro e w2 ⟨rfl,rfl⟩;go_wp2_with fail;refine(z.o _ g.o).mono ?_;rintro e m ⟨rfl,rfl⟩;have j:=u;have k:=g;go_wp2_with fail;refine dw (f:=211) (args:= #[E (I ⟨w.heap.size+1,0,Y⟩)]) (by simp) (by simp[go_sem]) ?_;refine(l4 ⟨w.heap.size+1,0,Y⟩ bc 102 [] _ (av j.o) (bx j.o)).mono ?_;rintro e K y ⟨rfl,rfl,rfl⟩;have l:(m.setCell ⟨w.heap.size+1,0,Y⟩ (ac 29 (J O 102))).cell? ⟨w.heap.size+1,0,Y⟩=I (ac 29 (J O 102)):=by rw[aA (aB j.o _)];rfl
 have c:C w w (m.setCell ⟨w.heap.size+1,0,Y⟩ (ac 29 (J O 102))):=k.o.setCell (p:=⟨w.heap.size+1,0,Y⟩) (dh _) _;simp[dx,dy,bm,ee,go_sem,l];exact c
def eF.F5{b:List X}{a:List Tr}(h:eF F w b a):∀v∈b,v.oneCell'=G:=by
 intro v d;obtain⟨i,hi,rfl⟩:=List.mem_iff_getElem.1 d;have c:i<a.length:=by have:=h.1;omega
 obtain⟨f,x,e⟩:=(h.2 i _ _ (eh hi) (eh c)).K5;rw[e];rfl
def eF.G0{b:List X}{a:List Tr}(h:eF F w b a)(k:Nat):eF F w (b.drop k) (a.drop k):=by
 refine⟨by simp[h.1],λi v t c d=>?_⟩;rw[ip]at c d;exact h.2 _ v t c d
def eF.take{b:List X}{a:List Tr}(h:eF F w b a)(k:Nat):eF F w (b.take k) (a.take k):=by
 refine⟨by simp[h.1],λi v t c d=>?_⟩;rw[iq]at c d;split at c
 .rename_i e;rw[if_pos e]at d;exact h.2 _ v t c d
 .cases c
def aBy(w:U)(F:Nat->Prop)(b n:Nat)(S:X)(a:List X)(c:List Tr)(s:w.heap[b]?=I (H #[S] 195 (0,0)))(o:Win 97 id w S a)(h:eF F w a c)(g:∀t∈c,t.A5.A9=G)(r:c.length<=65536)(k:n<=a.length)(i:(fY 0 ((c.drop (a.length-n)).map bh)).A9=V):
 ae Z 196 #[E b,ag #[J O 5,T V,J ak 0,"",n,()]] w λe w'=>(∃v,e=af v)/\C w w w':=by
 have W:=A (λw=>tV w n);have HN:=A k;have g0:=h.1;have HT:=A (λw'(y:C w w w')=>wK w' b n S a (keep s y) (o.A2 (ah (λ_=>False) y) (λ_ _=>id)) (by omega) h.F5 k);have HS:=A (λw'(y:C w w w') d(hi:Win 97 id w' d (a.drop (a.length-n)))=>mT F w' d (a.drop (a.length-n)) (c.drop (a.length-n)) 0 hi ((h.A2 (ah (λ_=>False) y) (λ_ _=>id)).G0 _) (λt m=>g t (fe m)) (by rw[cz];omega) (by decide));have j:=A (uY (bytes:=0) (l:=(c.drop (a.length-n)).map bh) (by intro z i;obtain⟨t,h,rfl⟩:=List.mem_map.1 i;exact g t (fe h)) (by rw[gr,cz];omega) (by decide));have B:=A i;clear s o k h g r i
 go_enter_defers du,dv
 go_wp2_with fail;refine(W.o _).mono ?_;rintro e w1 ⟨rfl,g⟩;obtain⟨g1,o,h,g3⟩:=after2 g;obtain⟨N,P,R,q3,q4,q5,qf⟩:=bJ g1;have G1:=A g1;have G2:=A o;have k:=A h;clear g g1 o h;go_wp2_with fail;refine(dT _ 2).mono ?_;rintro e w2 ⟨rfl,rfl⟩;go_wp2_with fail;refine(HT.o _ k.o).mono ?_;rintro e w3 ⟨d,rfl,g,o,h⟩;have r:=chain k.o h;obtain⟨K,L,s⟩:=g.A7;obtain⟨p0,p1,p2,p3,p4,p5,pf⟩:=bJ (keep G1.o h);have G3:=A (keep G2.o h);have u:=A r;have x:(a.drop (a.length-n)).length=n:=by rw[cz];have:=HN.o;omega
 rw[x]at s;have g4:=A (And.intro g (λq(e:d.ownBlock=I q)=>(⟨ar k.o.size (o q e).1,(o q e).2⟩:w.heap.size<=q/\q<w3.heap.size)));have D:=A (HS.o _ u.o d g);clear g o h r x N P R q3 q4 q5 qf;subst s;go_wp2_with fail;refine(D.o).mono ?_;rintro e N ⟨rfl,g⟩;have h:∀z:Sz,szV z=ag #[z.g,z.bytes,z.h]:=λ_=>rfl
 obtain⟨z,i⟩:∃z:Sz,fY 0 ((c.drop (a.length-n)).map bh)=z:=⟨_,rfl⟩;have r:=A i;rw[i,h];have o:=A (chain u.o g);have G4:=A (keep G3.o g);clear g i h;go_wp2_with fail;have P:=bp N (H #[z.g,z.bytes,z.h,Q K n L] 186);have h:=o.o.alloc o.o.size (H #[z.g,z.bytes,z.h,Q K n L] 186);refine(vX _ b n N.heap.size z.g z.bytes z.h _ _ P rfl rfl rfl (by have:=B.o;rw[r.o]at this;exact this) (by have:=j.o;rw[r.o]at this;exact this.1) (by have:=j.o;rw[r.o]at this;exact this.2.1) (by have:=j.o;rw[r.o]at this;exact this.2.2)).mono ?_;rintro e R ⟨rfl,g⟩;have i:=A (keep (keep G4.o ((aw _ _).alloc (aj _) _)) g);have x:=A (chain h g);clear P h g;go_wp2_with fail;refine dw (f:=211) (args:= #[E (I ⟨w.heap.size+1,0,Y⟩)]) (by simp) (by simp[go_sem]) ?_;refine(l4 ⟨w.heap.size+1,0,Y⟩ bc 3 [] _ (av i.o) (bx i.o)).mono ?_;rintro e u' P ⟨rfl,rfl,rfl⟩;have h:(R.setCell ⟨w.heap.size+1,0,Y⟩ (ac 29 (J O 3))).cell? ⟨w.heap.size+1,0,Y⟩=I (ac 29 (J O 3)):=by rw[aA (aB i.o _)];rfl
 have g:C w w (R.setCell ⟨w.heap.size+1,0,Y⟩ (ac 29 (J O 3))):=x.o.setCell (p:=⟨w.heap.size+1,0,Y⟩) (dh _) _;simp[dx,dy,bm,ee,go_sem,h];exact g
def aEL(w:U)(F:Nat->Prop)(b n:Nat)(K:X)(a:List X)(d:List Tr)(s:w.heap[b]?=I (H #[K] 195 (0,0)))(i:Win 97 id w K a)(o:eF F w a d)(h:∀t∈d,t.A5.A9=G)(u:d.length<=65536)(r:n<=a.length)(j:(fY 0 ((d.drop (a.length-n)).map bh)).A9=G):
 ae Z 196 #[E b,ag #[J O 5,T V,J ak 0,"",n,()]] w λe w'=>e=af bc/\jY w b K a (a.length-n) (fY 0 ((d.drop (a.length-n)).map bh)) w':=by
 have HU:=A (λw=>tV w n);have HN:=A r;have g3:=o.1;have HT:=A (λw'(l:C w w w')=>wK w' b n K a (keep s l) (i.A2 (ah (λ_=>False) l) (λ_ _=>id)) (by omega) o.F5 r);have HS:=A (λw'(l:C w w w') g(hi:Win 97 id w' g (a.drop (a.length-n)))=>mT F w' g (a.drop (a.length-n)) (d.drop (a.length-n)) 0 hi ((o.A2 (ah (λ_=>False) l) (λ_ _=>id)).G0 _) (λt m=>h t (fe m)) (by rw[cz];omega) (by decide));have L:=A j;have HV:=A (λk(e:K.ownBlock=I k)=>i.lt e);have N:=ba s;have HG:=A (λw' p z c S(l:C w w w') hp h0 h1 h2 j=>vY w' b n p (Sz.g z) (Sz.bytes z) (Sz.h z) c S K a hp h0 h1 h2 j (keep s l) (i.A2 (ah (λ_=>False) l) (λ_ _=>id)) (by omega) r);clear s i r o h u j
 go_enter_defers du,dv
 go_wp2_with fail;refine(HU.o _).mono ?_;rintro e w1 ⟨rfl,h⟩;obtain⟨g1,r,i,g4⟩:=after2 h;obtain⟨B,D,q2,q3,q4,q5,qf⟩:=bJ g1;have G1:=A g1;have G2:=A r;have o:=A i;clear h g1 r i;go_wp2_with fail;refine(dT _ 2).mono ?_;rintro e w2 ⟨rfl,rfl⟩;go_wp2_with fail;refine(HT.o _ o.o).mono ?_;rintro e w3 ⟨g,rfl,h,r,i⟩;have s:=chain o.o i;obtain⟨P,R,u⟩:=h.A7;obtain⟨p0,p1,p2,p3,p4,p5,pf⟩:=bJ (keep G1.o i);have G3:=A (keep G2.o i);have v:=A s;have x:(a.drop (a.length-n)).length=n:=by rw[cz];have:=HN.o;omega
 rw[x]at u;have y:=A (And.intro h (λq(e:g.ownBlock=I q)=>(⟨ar o.o.size (r q e).1,(r q e).2⟩:w.heap.size<=q/\q<w3.heap.size)));have W:=A (HS.o _ v.o g h);clear h r i s x B D q2 q3 q4 q5 qf;subst u;go_wp2_with fail;refine(W.o).mono ?_;rintro e B ⟨rfl,h⟩;have i:∀z:Sz,szV z=ag #[z.g,z.bytes,z.h]:=λ_=>rfl
 obtain⟨z,j⟩:∃z:Sz,fY 0 ((d.drop (a.length-n)).map bh)=z:=⟨_,rfl⟩;have HZ:=A j;rw[j,i];have r:=A (chain v.o h);have G4:=A (keep G3.o h);have g0:=A (y.o.1.A2 (ah (λ_=>False) h) (λ_ _=>id));clear h j i;go_wp2_with fail;have hx:=bp B (H #[z.g,z.bytes,z.h,Q P n R] 186);have j:=r.o.alloc r.o.size (H #[z.g,z.bytes,z.h,Q P n R] 186);refine(HG.o _ B.heap.size z _ _ j hx rfl rfl rfl (by have:=L.o;rw[HZ.o]at this;exact this)).mono ?_;rintro e w5 ⟨rfl,s⟩;have D:=(aw B B).alloc (aj _) (H #[z.g,z.bytes,z.h,Q P n R] 186);obtain⟨r0,rf,h,rc⟩:=s.E9 (dh _) (keep G4.o D) HV.o N bc
 have i:jY w b K a (a.length-n) (fY 0 ((d.drop (a.length-n)).map bh)) (w5.setCell ⟨w.heap.size+1,0,Y⟩ bc):=by
  rw[HZ.o];exact⟨_,_,_,_,j,dh _,keep G4.o D,r.o.size,hx,g0.o.A2 (ah (λ_=>False) D) (λ_ _=>id),λq e=>(y.o.2 q e).1,h⟩
 have x:=A i;clear s h hx j D i;go_wp2_with fail;refine dw (f:=211) (args:= #[E (I ⟨w.heap.size+1,0,Y⟩)]) (by simp) (by simp[go_sem]) ?_;refine(gF ⟨w.heap.size+1,0,Y⟩ _).mono ?_;rintro e j i ⟨rfl,rfl,rfl⟩;have h:=x.o;rw[List.map_drop]at h;simp[dx,dy,bm,ee,go_sem,rc];exact h
def jY.F4{l:Nat}{L:X}{b:List X}{a:List Tr}{z:Sz}(N:F l)(d:∀k,F k->k<w.heap.size)(P:eK F 97 id w L b)(ht:eF (λk=>F k/\k≠l/\L.ownBlock≠I k) w b a)
 (hz:z=(di (a.drop k)).A5)(D:jY w l L b k z w'):Keeps F w w'/\cN (Since F w w') w' l (a.take k++ [di (a.drop k)]):=by
 obtain⟨w4,R,p,j,K,hR,hr,hp,n,hi,o,g,off,cap,h1,S,s,u⟩:=D;have f:∀q,L.ownBlock=I q->q<w.heap.size:=λq e=>d q (P.2 q e)
 have hk:Keeps F w w':=(ah F K).trans u (λq e=>by
  rcases e with e|e|e
  .exact ai (e▸N)
  .exact ai (P.2 q e)
  .exact ao (e▸hR))
 have g3:=d l N
 have W:¬(p=l\/L.ownBlock=I p\/p=R):=by
  rintro(e|e|e)
  .omega
  .have:=f p e;omega
  .rw[e,hr]at n;cases n
 have h:=u.B7 n W
 have g2:g≠p:=λe=>by
  obtain⟨c,m⟩:=S.E0 rfl;rw[e,h]at m;cases m
 have x:∀q,q<w4.heap.size->L.ownBlock≠I q->g≠q:=λq hq hn e=>by
  rcases s with s|s
  .exact hn (e▸s)
  .omega
 refine⟨hk,ai N,aF d hk.size,_,_,h1,⟨S,?_⟩,?_⟩
 .intro q e;cases e;exact s.elim (λe=>ai (P.2 _ e)) (λm=>ao ⟨ar K.size m,S.lt rfl⟩)
 .have m:∀q,(F q/\q≠l/\L.ownBlock≠I q)->Since F w w' q/\q≠l/\(Q (g,off) (k+1) cap).ownBlock≠I q:=λq D=>⟨ai D.1,D.2.1,λe=>by
   cases e;exact x g (dq (d g D.1) K.size) D.2.2 rfl⟩
  have y:=(ht.A2 (ah (λ_=>False) K) (λ_ _=>id)).A2 u (λq D=>by
   rintro(e|e|e)
   .exact D.2.1 e
   .exact D.2.2 e
   .have:=d q D.1;omega)
  refine eF.J8 ((y.take k).mono m) ?_;subst hz;refine .list p j (b.drop k) (a.drop k) ⟨ao ⟨hp,ba h⟩,by omega,λe=>g2 (by cases e;rfl)⟩ h ⟨hi.A2 u ?_,?_⟩ ((ht.G0 k).1) ?_
  .intro q e;rintro(r|r|r)
   .have:=o q e;omega
   .have:=f q r;have:=o q e;omega
   .exact hi.ne hr (by decide) (e.trans (congrArg I r))
  .intro q e;have B:=hi.lt e;have hq:=o q e;exact⟨ao ⟨hq,dq B u.size⟩,by omega,λr=>x q B (λe3=>by have:=f q e3;omega) (by cases r;rfl)⟩
  .intro i v t B r;exact((y.G0 k).mono m).2 i v t B r
def aHl(w:U)(b n:Nat)(p:X)(h:w.heap[b]?=I (H #[p] 195 (0,0)))(P:U->U->Prop)(f:M (∀w1,C w w w1->ae Z 196 #[E b,ag #[J O 5,T V,J ak 0,"",n,()]] w1 λe w'=>(∃v,e=af v)/\P w1 w')):
 ae Z 175 #[E b,ag #[J O 5,T V,J ak 0,"",n,()]] w λe w'=>(∃v,e=af v)/\∃w1,C w w w1/\P w1 w':=by
 have a:C w w (w.alloc (H #[J O 5,T V,J ak 0,"",n,()] 147)):=(aw _ _).alloc (aj _) _;obtain⟨i,j,o,k,m,l,-⟩:=bJ (bp w (H #[J O 5,T V,J ak 0,"",n,()] 147));have c:=A a;clear a h;go_enter ei,ej;go_wp2
 go_region_with (go_at_call 196;refine(f.o _ c.o.drew).mono ?_;rintro e w2 ⟨⟨v,rfl⟩,d⟩)
 all_goals
  have g:=A d;clear d;go_wp2;go_ret;exact⟨⟨_,rfl⟩,_,c.o.drew,g.o⟩
def tW(w:U)(b n:Nat)(g:X)(h:w.heap[b]?=I (H #[g] 195 (0,0)))(P:U->U->Prop)(c:M (∀w1,C w w w1->ae Z 196 #[E b,ag #[J O 5,T V,J ak 0,"",n,()]] w1 λe w'=>(∃v,e=af v)/\P w1 w')):
 ae Z 173 #[E b,n] w λe w'=>(∃v,e=af v)/\∃w1,C w w w1/\P w1 w':=by
 have d:=A (aHl w b n g h P c);clear c h;go_enter func173,ntmps173;go_wp2_with fail;refine(d.o).mono ?_;rintro e w2 ⟨⟨v,rfl⟩,a⟩;have f:=A a;clear a;go_wp2;go_ret;exact⟨⟨_,rfl⟩,f.o⟩
def aEM(F:Nat->Prop)(w:U)(f:Nat)(a:List Tr)(n:Nat)(h:cN F w f a)(u:∀t∈a,t.A5.A9=G)(B:a.length<=65536):
 ae Z 173 #[E f,n] w λe w'=>(∃v,e=af v)/\Keeps F w w'/\cN (Since F w w') w' f (eI a n):=by
 have K:=h;obtain⟨N,r,P,b,q,z,y⟩:=h;have s:=y.1;have g:∀w',C w w w'->Keeps F w w'/\cN (Since F w w') w' f a:=λw' l=>⟨ah F l,(K.D8 (ah (λ_=>False) l) (λ_ _=>id)).mono (λk L=>ai L) (aF r l.size)⟩
 have o:∀w1,C w w w1->Win 97 id w1 P b:=λw1 c=>z.1.A2 (ah (λ_=>False) c) (λ_ _=>id)
 by_cases j:a.length<n
 .have i:eI a n=a:=by unfold eI;rw[if_pos j]
  rw[i];refine(tW w f n P q (λw1 w'=>C w1.heap.size w1 w') (A λw1 c=>aCP w1 f n P b (keep q c) (o w1 c) (by omega))).mono ?_;rintro e w' ⟨x,w1,c,p⟩;exact⟨x,g _ (chain c p)⟩
 .have m:(di (a.drop (b.length-n))).A5=fY 0 ((a.drop (b.length-n)).map bh):=gU _
  by_cases d:(di (a.drop (b.length-n))).A5.A9=G
  .have i:eI a n=a.take (b.length-n)++ [di (a.drop (b.length-n))]:=by
    unfold eI fZ;rw[if_neg j,<-s,if_pos d]
   rw[i];refine(tW w f n P q (λw1 w'=>jY w1 f P b (b.length-n) (fY 0 ((a.drop (b.length-n)).map bh)) w') (A λw1 c=>(aEL w1 _ f n P b a (keep q c) (o w1 c) (y.A2 (ah (λ_=>False) c) (λ_ _=>id)) u B (by omega) (by rw[<-m];exact d)).mono (λe w' h=>⟨⟨_,h.1⟩,h.2⟩))).mono ?_;rintro e w' ⟨x,w1,c,D⟩;exact⟨x,(D.M8 c).F4 N r z y m.symm⟩
  .have i:eI a n=a:=by
    unfold eI fZ;rw[if_neg j,<-s,if_neg d]
   rw[i];refine(tW w f n P q (λw1 w'=>C w1.heap.size w1 w') (A λw1 c=>aBy w1 _ f n P b a (keep q c) (o w1 c) (y.A2 (ah (λ_=>False) c) (λ_ _=>id)) u B (by omega) (by rw[<-m];simpa using d))).mono ?_;rintro e w' ⟨x,w1,c,p⟩;exact⟨x,g _ (chain c p)⟩
def aHm(w:U):ae Z 213 #[ag #[J O 1,T V,J ak 0,"",J O 0,()]] w λe w'=>e=af (T G)/\C w w w':=by
 go_enter gn,go;go_wp2;go_ret;exact⟨rfl,(aw _ _).alloc (aj _) _⟩
def aJl(w:U)(b:Nat)(z:X)(a:List X)(x:w.heap[b]?=I (H #[z] 195 (0,0)))(c:Win 97 id w z a)(S:a.length<=1048576):
 ae Z 214 #[E b,ac 177 (ag #[])] w λe w'=>e=af (cr #[])/\eW w b z a 177 (ag #[]) w':=by
 have W:∀w:U,(method 565 177 (ag #[]) "affidavit/node.sized").run Z w=bj (343,ag #[]) w:=λ_=>by kernel_rfl
 have B:=A (xE w);have D:=A (λw=>kS w 1 0 1 (by decide));have K:=A c;have a0:=A x;have l:=A (c.ne x (by decide));obtain⟨m,n,o⟩:=c.A7;clear x c;subst o;go_enter func214,ntmps214;go_wp2_with fail;refine(B.o).mono ?_;rintro e w1 ⟨rfl,c⟩;have q:=A c;clear c;go_wp2_with fail;refine(D.o _).mono ?_;rintro e w2 ⟨rfl,c⟩;have f:=chain q.o c;have h:=keep a0.o f;have r:=av h;have s:=A h;have y:=A f;have i:=ba h;have d:Win 97 id (w2.alloc (H #[ac 177 (ag #[])] 97)) (Q m a.length n) a:=(K.o.A2 (ah (λ_=>False) f) (λ_ _=>id)).A2 (F:=λ_=>False) ((bz _ w2).A6 _) (λ_ _=>id);have L:=A d;clear c f h d
 go_wp2_with (at_builtin;refine dE sA rfl _ _ rfl rfl L.o w2 1 (ac 177 (ag #[])) rfl ?_ rfl ?_ ?_ ?_)
 .exact fQ rfl
 .omega
 .unfold au;omega
 intro g off cap w' c f h;have d:=(h.block b (by simp;omega) (λe=>l.o e.symm)).trans ((gh w2 _ _ i).trans s.o);have t:=A (c.ne d (by decide));have u:=A (show(Q m a.length n).ownBlock=I g\/w.heap.size<=g from f.elim ai (λx=>ao (ar y.o.size (ar (by simp) x.1))));have N:=A (((ah (λk=>k=b\/(Q m a.length n).ownBlock=I k) y.o).A6 (H #[ac 177 (ag #[])] 97)).D7 h (λk e=>ai (ao e)));have j:=A c;have P:=av d;have R:=bx d;have v:=A d;clear d c f h r;go_wp2
 go_end0
 have c:Keeps (λk=>k=b) w' (w'.setCell b (Q (g,off) (a.length+1) cap)):=(bz (λk=>k=b) w').A3 (p:=b) (ai rfl) _;exact⟨rfl,g,off,cap,aB v.o _,j.o.A2 c (λk e d=>t.o (e.trans (congrArg I d))),u.o,N.o.A3 (p:=b) (ai (ai rfl)) _⟩
def aLa(w:U)(b:Nat)(l:X)(a:List X)(d:w.heap[b]?=I (H #[l] 195 (0,0)))(c:Win 97 id w l a)(n:a.length<=1048576):
 ae Z 196 #[E b,ag #[J O 1,T V,J ak 0,"",J O 0,()]] w λe w'=>e=af bc/\eW w b l a 177 (ag #[]) w':=by
 have o:=A (λw=>aHm w);have i:=ba d;have p:=A (λw'(m:C w w w')=>aJl w' b l a (keep d m) (c.A2 (ah (λ_=>False) m) (λ_ _=>id)) n);have j:=A (λk(q:l.ownBlock=I k)=>c.lt q);clear d c
 go_enter_defers du,dv
 go_wp2_with fail;refine(o.o _).mono ?_;rintro e w1 ⟨rfl,c⟩;obtain⟨g1,h,d,r⟩:=after2 c;obtain⟨u,v,x,y,z,B,D⟩:=bJ g1;have s:=A h;have g:=A d;clear c g1 h d;go_wp2_with fail;refine(dT _ 2).mono ?_;rintro e w2 ⟨rfl,rfl⟩;go_wp2_with fail;refine(p.o _ g.o).mono ?_;rintro e F ⟨rfl,d⟩;obtain⟨K,L,c,t⟩:=d.E9 g.o (dh _) s.o j.o i bc;have h:=A c;clear d c;go_wp2_with fail;refine dw (f:=211) (args:= #[E (I ⟨w.heap.size+1,0,Y⟩)]) (by simp) (by simp[go_sem]) ?_;refine(gF ⟨w.heap.size+1,0,Y⟩ _).mono ?_;rintro e N d ⟨rfl,rfl,rfl⟩;have c:=h.o;simp[dx,dy,bm,ee,go_sem,t];exact c
def aHn(w:U)(b:Nat)(S:X)(a:List X)(h:w.heap[b]?=I (H #[S] 195 (0,0)))(k:Win 97 id w S a)(v:a.length<=1048576)(i:a.length<65536):
 ae Z 175 #[E b,ag #[J O 1,T V,J ak 0,"",J O 0,()]] w λe w'=>e=af bc/\eW w b S a 177 (ag #[]) w':=by
 have d:C w w (w.alloc (H #[J O 1,T V,J ak 0,"",J O 0,()] 147)):=(aw _ _).alloc (aj _) _;have x:=A (λw1(m:C w w w1)=>aLa w1 b S a (keep h m) (k.A2 (ah (λ_=>False) m) (λ_ _=>id)) v);have P:=av h;have t:=ba h;obtain⟨F,B,j⟩:=k.A7;
 have n:¬(65536:Int)<=(a.length:Int):=by omega
 obtain⟨z,D,R,K,N,L,-⟩:=bJ (bp w (H #[J O 1,T V,J ak 0,"",J O 0,()] 147));have c:=A d;clear h k i d;subst j;go_enter ei,ej;go_wp2
 go_region_with (go_at_call 196;refine(x.o _ c.o.drew).mono ?_;rintro e w2 ⟨rfl,f⟩)
 all_goals
  obtain⟨g,off,cap,p,l,q,o⟩:=f;have u:=A p;have y:=A l;have r:=A q;have s:=A o;clear p l q o;go_wp2;go_ret;exact⟨rfl,g,off,cap,u.o,y.o,r.o.elim ai (λh=>ao (ar (by simp) h)),(ah _ c.o.drew).same s.o⟩
def xJ(w:U)(b:Nat)(p:X)(a:List X)(h:w.heap[b]?=I (H #[p] 195 (0,0)))(i:Win 97 id w p a)(j:65536<=a.length):
 ae Z 175 #[E b,ag #[J O 1,T V,J ak 0,"",J O 0,()]] w λe w'=>(∃v,e=af v)/\C w w w':=by
 have c:C w w (w.alloc (H #[J O 1,T V,J ak 0,"",J O 0,()] 147)):=(aw _ _).alloc (aj _) _;have o:=av h;have k:=ba h;obtain⟨n,m,d⟩:=i.A7;have g:(65536:Int)<=(a.length:Int):=by omega
 obtain⟨l,-,-,-,-,-,-⟩:=bJ (bp w (H #[J O 1,T V,J ak 0,"",J O 0,()] 147));have f:=A c;clear h i c;subst d;go_enter ei,ej;go_wp2;go_ret;exact⟨⟨_,rfl⟩,f.o⟩
def aEN(F:Nat->Prop)(w:U)(i:Nat)(a:List Tr)(h:cN F w i a)(B:a.length<=1048576):
 ae Z 152 #[E i] w λe w'=>(∃v,e=af v)/\Keeps F w w'/\cN (Since F w w') w' i (bB a ct):=by
 have r:=h;obtain⟨s,f,D,c,o,n,p⟩:=h;have m:=p.1
 by_cases b:65536<=a.length
 .have d:bB a ct=a:=by unfold bB;rw[if_pos b]
  rw[d];have u:=A (xJ w i D c o n.1 (by omega));have x:=A r;have q:=A f;clear r o n p m b d s f;go_enter func152,ntmps152;go_wp2_with fail;refine(u.o).mono ?_;rintro e w1 ⟨⟨v,rfl⟩,l⟩;have j:=A l;clear l;go_wp2;go_ret;exact⟨⟨_,rfl⟩,ah F j.o,(x.o.D8 (ah (λ_=>False) j.o) (λ_ _=>id)).mono (λk z=>ai z) (aF q.o j.o.size)⟩
 .have d:bB a ct=a++ [ct]:=by unfold bB pA;rw[if_neg b];simp[bh,gk]
  rw[d];have u:=A (aHn w i D c o n.1 (by omega) (by omega));have y:=A (λw'(h:eW w i D c 177 (ag #[]) w')=>h.F4 (t:=ct) s f n p (λ_ _=>.null));clear r o n p m b d s f;go_enter func152,ntmps152;go_wp2_with fail;refine(u.o).mono ?_;rintro e w1 ⟨rfl,g⟩;have j:=A (y.o _ g);clear g;go_wp2;go_ret;exact⟨⟨_,rfl⟩,j.o.1,j.o.2⟩
def aHo(w:U)(c:Bool):ae Z 213 #[ag #[J O 2,c,J ak 0,"",J O 0,()]] w λe w'=>e=af (T G)/\C w w w':=by
 cases c
 all_goals
  go_enter gn,go;go_wp2;go_ret;exact⟨rfl,(aw _ _).alloc (aj _) _⟩
def aJm(w:U)(b:Nat)(B:X)(a:List X)(c:Bool)(y:w.heap[b]?=I (H #[B] 195 (0,0)))(d:Win 97 id w B a)(W:a.length<=1048576):
 ae Z 214 #[E b,ac 178 (T c)] w λe w'=>e=af (cr #[])/\eW w b B a 178 (T c) w':=by
 have hm:∀w:U,(method 565 178 (T c) "affidavit/node.sized").run Z w=bj (345,T c) w:=λ_=>by kernel_rfl
 have D:=A (xF w c);have K:=A (λw=>kS w 1 0 1 (by decide));have L:=A d;have a0:=A y;have m:=A (d.ne y (by decide));obtain⟨n,o,q⟩:=d.A7;clear y d;subst q;go_enter func214,ntmps214;go_wp2_with fail;refine(D.o).mono ?_;rintro e w1 ⟨rfl,d⟩;have r:=A d;clear d;go_wp2_with fail;refine(K.o _).mono ?_;rintro e w2 ⟨rfl,d⟩;have h:=chain r.o d;have i:=keep a0.o h;have s:=av i;have t:=A i;have z:=A h;have j:=ba i;have f:Win 97 id (w2.alloc (H #[ac 178 (T c)] 97)) (Q n a.length o) a:=(L.o.A2 (ah (λ_=>False) h) (λ_ _=>id)).A2 (F:=λ_=>False) ((bz _ w2).A6 _) (λ_ _=>id);have N:=A f;clear d h i f
 go_wp2_with (at_builtin;refine dE sA rfl _ _ rfl rfl N.o w2 1 (ac 178 (T c)) rfl ?_ rfl ?_ ?_ ?_)
 .exact fQ rfl
 .omega
 .unfold au;omega
 intro g off cap w' d h i;have f:=(i.block b (by simp;omega) (λe=>m.o e.symm)).trans ((gh w2 _ _ j).trans t.o);have u:=A (d.ne f (by decide));have v:=A (show(Q n a.length o).ownBlock=I g\/w.heap.size<=g from h.elim ai (λy=>ao (ar z.o.size (ar (by simp) y.1))));have P:=A (((ah (λk=>k=b\/(Q n a.length o).ownBlock=I k) z.o).A6 (H #[ac 178 (T c)] 97)).D7 i (λk e=>ai (ao e)));have l:=A d;have R:=av f;have S:=bx f;have x:=A f;clear f d h i s;go_wp2
 go_end0
 have d:Keeps (λk=>k=b) w' (w'.setCell b (Q (g,off) (a.length+1) cap)):=(bz (λk=>k=b) w').A3 (p:=b) (ai rfl) _;exact⟨rfl,g,off,cap,aB x.o _,l.o.A2 d (λk e f=>u.o (e.trans (congrArg I f))),v.o,P.o.A3 (p:=b) (ai (ai rfl)) _⟩
def aLb(w:U)(b:Nat)(m:X)(a:List X)(c:Bool)(g:w.heap[b]?=I (H #[m] 195 (0,0)))(d:Win 97 id w m a)(o:a.length<=1048576):
 ae Z 196 #[E b,ag #[J O 2,c,J ak 0,"",J O 0,()]] w λe w'=>e=af bc/\eW w b m a 178 (T c) w':=by
 have p:=A (λw=>aHo w c);have j:=ba g;have q:=A (λw'(n:C w w w')=>aJm w' b m a c (keep g n) (d.A2 (ah (λ_=>False) n) (λ_ _=>id)) o);have l:=A (λk(r:m.ownBlock=I k)=>d.lt r);clear g d
 go_enter_defers du,dv
 go_wp2_with fail;refine(p.o _).mono ?_;rintro e w1 ⟨rfl,d⟩;obtain⟨g1,i,g,s⟩:=after2 d;obtain⟨v,x,y,z,B,D,F⟩:=bJ g1;have t:=A i;have h:=A g;clear d g1 i g;go_wp2_with fail;refine(dT _ 2).mono ?_;rintro e w2 ⟨rfl,rfl⟩;go_wp2_with fail;refine(q.o _ h.o).mono ?_;rintro e K ⟨rfl,g⟩;obtain⟨L,N,d,u⟩:=g.E9 h.o (dh _) t.o l.o j bc;have i:=A d;clear g d;go_wp2_with fail;refine dw (f:=211) (args:= #[E (I ⟨w.heap.size+1,0,Y⟩)]) (by simp) (by simp[go_sem]) ?_;refine(gF ⟨w.heap.size+1,0,Y⟩ _).mono ?_;rintro e P g ⟨rfl,rfl,rfl⟩;have d:=i.o;simp[dx,dy,bm,ee,go_sem,u];exact d
def aHp(w:U)(b:Nat)(W:X)(a:List X)(c:Bool)(h:w.heap[b]?=I (H #[W] 195 (0,0)))(l:Win 97 id w W a)(x:a.length<=1048576)(j:a.length<65536):
 ae Z 175 #[E b,ag #[J O 2,c,J ak 0,"",J O 0,()]] w λe w'=>e=af bc/\eW w b W a 178 (T c) w':=by
 have f:C w w (w.alloc (H #[J O 2,c,J ak 0,"",J O 0,()] 147)):=(aw _ _).alloc (aj _) _;have y:=A (λw1(n:C w w w1)=>aLb w1 b W a c (keep h n) (l.A2 (ah (λ_=>False) n) (λ_ _=>id)) x);have R:=av h;have u:=ba h;obtain⟨K,D,k⟩:=l.A7;
 have o:¬(65536:Int)<=(a.length:Int):=by omega
 obtain⟨B,F,S,L,P,N,-⟩:=bJ (bp w (H #[J O 2,c,J ak 0,"",J O 0,()] 147));have d:=A f;clear h l j f;subst k;go_enter ei,ej;go_wp2
 go_region_with (go_at_call 196;refine(y.o _ d.o.drew).mono ?_;rintro e w2 ⟨rfl,i⟩)
 all_goals
  obtain⟨g,off,cap,q,m,r,p⟩:=i;have v:=A q;have z:=A m;have s:=A r;have t:=A p;clear q m r p;go_wp2;go_ret;exact⟨rfl,g,off,cap,v.o,z.o,s.o.elim ai (λh=>ao (ar (by simp) h)),(ah _ d.o.drew).same t.o⟩
def xK(w:U)(b:Nat)(q:X)(a:List X)(c:Bool)(h:w.heap[b]?=I (H #[q] 195 (0,0)))(j:Win 97 id w q a)(k:65536<=a.length):
 ae Z 175 #[E b,ag #[J O 2,c,J ak 0,"",J O 0,()]] w λe w'=>(∃v,e=af v)/\C w w w':=by
 have d:C w w (w.alloc (H #[J O 2,c,J ak 0,"",J O 0,()] 147)):=(aw _ _).alloc (aj _) _;have p:=av h;have l:=ba h;obtain⟨o,n,g⟩:=j.A7;have i:(65536:Int)<=(a.length:Int):=by omega
 obtain⟨m,-,-,-,-,-,-⟩:=bJ (bp w (H #[J O 2,c,J ak 0,"",J O 0,()] 147));have f:=A d;clear h j d;subst g;go_enter ei,ej;go_wp2;go_ret;exact⟨⟨_,rfl⟩,f.o⟩
def aEO(F:Nat->Prop)(w:U)(j:Nat)(a:List Tr)(c:Bool)(h:cN F w j a)(D:a.length<=1048576):
 ae Z 153 #[E j,c] w λe w'=>(∃v,e=af v)/\Keeps F w w'/\cN (Since F w w') w' j (bB a (ek c)):=by
 have s:=h;obtain⟨u,g,K,d,p,o,q⟩:=h;have n:=q.1
 by_cases b:65536<=a.length
 .have f:bB a (ek c)=a:=by unfold bB;rw[if_pos b]
  rw[f];have x:=A (xK w j K d c p o.1 (by omega));have y:=A s;have r:=A g;clear s p o q n b f u g;go_enter func153,ntmps153;go_wp2_with fail;refine(x.o).mono ?_;rintro e w1 ⟨⟨v,rfl⟩,m⟩;have l:=A m;clear m;go_wp2;go_ret;exact⟨⟨_,rfl⟩,ah F l.o,(y.o.D8 (ah (λ_=>False) l.o) (λ_ _=>id)).mono (λk B=>ai B) (aF r.o l.o.size)⟩
 .have f:bB a (ek c)=a++ [ek c]:=by unfold bB pA;rw[if_neg b];simp[bh,gk]
  rw[f];have x:=A (aHp w j K d c p o.1 (by omega) (by omega));have z:=A (λw'(h:eW w j K d 178 (T c) w')=>h.F4 (t:=ek c) u g o q (λ_ _=>.flag _));clear s p o q n b f u g;go_enter func153,ntmps153;go_wp2_with fail;refine(x.o).mono ?_;rintro e w1 ⟨rfl,i⟩;have l:=A (z.o _ i);clear i;go_wp2;go_ret;exact⟨⟨_,rfl⟩,l.o.1,l.o.2⟩
def qM(d:Array zX):(gM d).size=d.size:=
 (iu (ltOf vV) rW d 0 d.size (iv d.size) G G (ew _) (aj _) (ai rfl)).1.1
def aEP(d:Array zX):(gM d).toList.Perm d.toList:=by
 have h:=(iu (ltOf vV) rW d 0 d.size (iv d.size) G G (ew _) (aj _) (ai rfl)).1;have a:=h.2.2;have c:d.extract 0 d.size=d:=iw;have e:(gM d).extract 0 d.size=gM d:=by rw[<-qM d];exact iw
 rw[c]at a;have b:((gM d).extract 0 d.size).toList.Perm d.toList:=a;rw[e]at b;exact b
def aJn(w:U)(g off cap:Nat)(a:List zX)(v:Win 9 encS w (Q (g,off) a.length cap) (a.map (·.1)))(L:a.length<=1048576):
 ae Z 239 #[Q (g,off) a.length cap,.func (.func 240) #[] #[]] w λe w'=>e=af (cr #[])/\Win 9 encS w' (Q (g,off) a.length cap) ((gM a.toArray).toList.map (·.1))/\Keeps (λk=>k=g) w w':=by
 rcases v with⟨n,_⟩|⟨N,s,t,d,n,f,z,B,D,hi⟩
 .cases n
 .simp only[kb,ke,kh]at n;obtain⟨⟨rfl,rfl,_⟩,_,rfl⟩:=n;rw[gr]at z
  have F:Sort.Holds encR w g off a.toArray:=by
   intro j h;have b:j<a.length:=by simpa using h
   have c:=hi j (a[j]).1 (by rw[ix,eh b];rfl);refine⟨?_,free_at f _⟩;rw[aA f,c];simp[encR,encS,b]
  have u:=aJc g off cap a.toArray w F (ba f) (by simp;omega);rw[List.size_toArray]at u;refine u.mono ?_;rintro e w' ⟨rfl,m,p,rfl⟩;have b:(gM a.toArray).size=a.length:=by rw[qM];simp
  have q:=ba f
  have h:(fj encR w g off m (gM a.toArray) p).heap[g]?=I (H (gu encR off (gM a.toArray) d) 9 (0,0)):=by
   unfold fj gv gw gx gy
   show(w.heap.modify g _++p)[g]?=_
   rw[iy (by simpa using q),iz,if_pos rfl,f];rfl
  refine⟨rfl,ao ⟨g,off,cap,_,?_,h,?_,?_,?_,?_⟩,?_⟩
  .simp[b]
  .simp[b];omega
  .simpa[gu]using B
  .exact D
  .intro i x c;rw[ix]at c;cases o:(gM a.toArray).toList[i]? with
   | none=>rw[o]at c;cases c
   | some y=>
    rw[o]at c;cases c;have K:i<a.length:=by have:=(gz.1 o).1;simpa[b]using this
    have r:(gM a.toArray)[i]! =y:=by
     have l:(gM a.toArray)[i]?=I y:=by simpa using o
     rw[getElem!_def,l]
    have l:off+i<d.size:=by omega
    unfold gu;rw[Array.getElem?_mapIdx,Array.getElem?_eq_getElem l,Option.map_some,if_pos ⟨by omega,by rw[b];omega⟩,show off+i-off=i by omega,r];rfl
  .refine⟨rfl,rfl,rfl,?_,λk c l=>?_⟩
   .unfold fj gv gw gx gy;simp
   .unfold fj gv gw gx gy
    show(w.heap.modify g _++p)[k]?=_
    rw[iy (by simpa using c),iz,if_neg (λe=>l e.symm)]
def bK(keys:List (List UInt8)):Prop:=∀k∈keys,aV k=G/\k.length<=2097152
instance (keys:List (List UInt8)):Decidable (bK keys):=by unfold bK;infer_instance
def qA(keys:List (List UInt8))(h:bK keys):List zX:=keys.attach.map λk=>⟨k.1,h k.1 k.2⟩
def aAM(keys:List Oo)(h:bK keys):(qA keys h).map (·.1)=keys:=by
 unfold qA;rw[List.map_map];exact(List.attach_map_val (f:=id) (l:=keys)).trans (dt _)
def mU(keys:List Oo)(h:bK keys):(qA keys h).length=keys.length:=by
 unfold qA;rw[gr,List.length_attach]
def dC(keys:List (List UInt8)):List (List UInt8):=if h:bK keys then(gM (qA keys h).toArray).toList.map (·.1)else keys
def oD(h:bK keys):dC keys=(gM (qA keys h).toArray).toList.map (·.1):=by unfold dC;rw[dif_pos h]
def fL(keys:List Oo):(dC keys).Perm keys:=by
 by_cases h:bK keys
 .rw[oD h];have:=(aEP (qA keys h).toArray).map (·.1);rw[show((qA keys h).toArray.toList).map (·.1)=keys from aAM keys h]at this;exact this
 .unfold dC;rw[dif_neg h]
def besides(keys:List (List UInt8))(l:List Tr):List Tr:=(dC keys).map λk=>l.getD (keys.idxOf k) ct
def po(a:List Tr)(keys:List (List UInt8)):List Tr:=
 if a.length<keys.length then a else fZ a keys.length (ib (dC keys) (besides keys (a.drop (a.length-keys.length))))
def aEQ(a:keys.Nodup){i:Nat}{k:Oo}(h:keys[i]?=I k):keys.idxOf k=i:=by
 obtain⟨hi,rfl⟩:=gz.1 h;exact a.idxOf_getElem i hi
def aBz{l:List Tr}(a:keys.Nodup)(c:l.length=keys.length):(besides keys l).Perm l:=by
 have b:=(fL keys).map (λk=>l.getD (keys.idxOf k) ct);refine b.trans (ki ?_);apply List.ext_getElem
 .simp[c]
 .intro i b d;rw[List.getElem_map];rw[aEQ a (eh (by omega))];rw[List.getD_eq_getElem?_getD,eh d];rfl
def aCQ{bytes:Nat}{l a:List Sz}(h:l.Perm a):cT bytes l=cT bytes a:=by
 unfold cT;refine h.foldl_eq' (λx _ y _ z=>?_) _;simp only[Sz.mk.injEq];omega
def aBA{l a:List Oo}(h:l.Perm a):bD l=bD a:=by
 unfold bD;refine h.foldl_eq' (λx _ y _ z=>?_) _;omega
def mV{l:List Tr}(a:keys.Nodup)(b:l.length=keys.length):(ib (dC keys) (besides keys l)).A5=fY (bD keys) (l.map bh):=by
 rw[hZ,lA,lA,aBA (fL keys),aCQ ((aBz a b).map bh)]
def sF(l:List Oo)(k:Oo):bD (l++ [k])=bD l+k.length:=by
 unfold bD;rw[List.foldl_append];rfl
def aBB{l:List Oo}{k:Oo}(h:l[i]?=I k):bD (l.take (i+1))=bD (l.take i)+k.length:=by
 rw[List.take_add_one,h];exact sF _ _
def over(l:List UInt8):Nat:=(l.takeWhile isD).length
def bR(l:List UInt8):Bool:=match l with
 | c::_=>isD c
 | []=>V
def iC(t:List UInt8):Nat:=match t with
 | d::_=>if d=43\/d=45 then 1 else 0
 | []=>0
def jA(n:Nat)(l:List UInt8):Nat×Bool:=match l with
 | c::t=>if c=101\/c=69 then(if bR (t.drop (iC t))then(n+1+iC t+over (t.drop (iC t)),G)else(n+1+iC t,V))else(n,G)
 | []=>(n,G)
def dP(n:Nat)(l:List UInt8):Nat×Bool:=match l with
 | c::t=>if c=46 then(if bR t then jA (n+1+over t) (t.drop (over t))else(n+1,V))else jA n (c::t)
 | []=>(n,G)
def dQ(n:Nat)(l:List UInt8):Nat×Bool:=match l with
 | c::t=>if isD c then(if c=48 then dP (n+1) t else dP (n+over (c::t)) ((c::t).drop (over (c::t))))else(n,V)
 | []=>(n,V)
def dB(l:List UInt8):Nat×Bool:=match l with
 | c::t=>if c=45 then dQ 1 t else dQ 0 (c::t)
 | []=>(0,V)
inductive Pc(α:Type)|cut|bad(no at_:Nat)|ok(a:α)
def gV(a:Bool)(k n v:Nat):Bool:=if a then(if k=0 then decide (v≠13)else if k=1 then decide (v<12)else V)else(decide (k=1)&&decide (n=13)&&decide (12<=v))
def cX(a:Bool):Nat->Nat->List UInt8->Pc Nat
 | 0,n,_=>.ok n
 | _+1,_,[]=>.cut
 | m+1,n,c::l=>match hexOf c with
  | none=>.bad (if a then 93 else 92) (3-m)
  | some v=>if gV a (3-m) n v then .bad 93 (3-m)else cX a m (16*n+v) l
def Pc.O2{c b:Type}(k:Nat)(f:c->Pc b):Pc c->Pc b
 | .cut=>.cut
 | .bad no a=>.bad no (k+a)
 | .ok a=>f a
def qN(n:Nat)(l:List UInt8):Pc (List UInt8×Nat):=match l with
 | []=>.cut
 | c::t=>if c=92 then(match t with
  | []=>.cut
  | d::u=>if d=117 then(cX G 4 0 u).O2 8 λm=>.ok (aT (65536+(n-55296)*1024+m-56320),12)else .bad 93 7)
  else .bad 93 6
def jG(l:List UInt8):Pc (List UInt8×Nat):=match l with
 | []=>.cut
 | c::t=>if c=117 then(cX V 4 0 t).O2 2 λn=>if n<55296\/56319<n then .ok (aT n,6)else qN n (t.drop 4)
  else match cO c with
   | none=>.bad 92 1
   | some b=>.ok ([b],2)
def cJ(f:Form):Nat->Nat->List UInt8->Pc Nat
 | 0,i,_=>.ok i
 | _+1,_,[]=>.cut
 | m+1,i,c::t=>if f.B9 i c then cJ f m (i+1) t else .bad 90 i
def eC(l:List UInt8):Pc Nat:=match l with
 | []=>.cut
 | c::t=>if(aC c).a=0 then .bad 90 0 else cJ (aC c) ((aC c).a-1) 1 t
def eX(l:List UInt8):Pc (List UInt8×Nat):=match l with
 | []=>.cut
 | c::t=>if c=92 then jG t else if c.toNat<32 then .bad 91 0 else(eC (c::t)).O2 0 λn=>.ok ((c::t).take n,n)
def cM(b:List UInt8)(i:Nat)(l:List UInt8):Pc (List UInt8×Nat):=match l with
 | []=>.cut
 | c::t=>if c=34 then .ok (b,i+1)else match eX (c::t)with
  | .cut=>.cut
  | .bad no a=>.bad no (i+a)
  | .ok x=>cM (b++x.1) (i+x.2) (t.drop (x.2-1))
termination_by l.length
decreasing_by simp_wf;omega
structure RFr where
 object:Bool
 a:List (List UInt8)
 b:List Tr
structure Rr where
 a:Nat
 e:List RFr
 g:Nat
 bytes:Nat
 done:Tr
def Rr.C9(r:Rr)(t:Tr):Rr:=match r.e.getLast? with
 | none=>{r with done:=t,a:=6}
 | some f=>{r with e:=r.e.dropLast++ [{f with b:=f.b++ [t]}],a:=5}
inductive Ra|on(n:Nat)(r:Rr)|cut|bad(no at_:Nat)
def Rr.B9(r:Rr)(a:Nat):Except Nat Rr:=
 if r.a≠0/\r.a≠1 then dj 120 else if a<=r.e.length then dj 121 else if 65536<=r.g then dj 3 else .ok {r with g:=r.g+1}
def Rr.I4(r:Rr)(a:Nat)(f:Rr->Ra):Ra:=match r.B9 a with
 | .error no=>.bad no 0
 | .ok r=>f r
def madeOf(f:RFr):Tr:=if f.object then ib (dC f.a) (besides f.a f.b)else di f.b
def Rr.P3(r:Rr):Rr:=match r.e.getLast? with
 | none=>r
 | some f=>Rr.C9 {r with e:=r.e.dropLast} (madeOf f)
def Rr.M9(r:Rr):Bool:=match r.e.getLast? with
 | some f=>f.object
 | none=>V
def Rr.L0(r:Rr):Bool:=match r.e.getLast? with
 | some f=>!f.object
 | none=>V
def Rr.J6(r:Rr)(a:Nat)(c:UInt8):Ra:=
 if c=91\/c=123 then r.I4 a λr=>.on 1 {r with e:=r.e++ [⟨c==123,[],[]⟩],a:=if c=123 then 2 else 1}
 else if c=58/\r.a=4 then .on 1 {r with a:=0}
 else if c=44/\r.a=5/\r.M9=G then .on 1 {r with a:=3}
 else if c=44/\r.a=5/\r.L0=G then .on 1 {r with a:=0}
 else if c=93/\r.L0=G/\(r.a=5\/r.a=1)\/c=125/\r.M9=G/\(r.a=5\/r.a=2)then .on 1 r.P3
 else .bad 120 0
def Rr.L9(r:Rr):List (List UInt8):=match r.e.getLast? with
 | some f=>f.a
 | none=> []
def Rr.O3(r:Rr)(s:List UInt8):Rr:=match r.e.getLast? with
 | some f=>{r with e:=r.e.dropLast++ [{f with a:=f.a++ [s]}],a:=4}
 | none=>r
def Rr.K6(r:Rr):Bool:=r.a=2||r.a=3
def Rr.L3(r:Rr)(l:List UInt8):Ra:=match cM [] 1 l with
 | .cut=>.cut
 | .bad no a=>.bad no a
 | .ok (s,n)=>
  if r.K6=G/\s∈r.L9 then .bad 101 0
  else if 2097152<r.bytes+s.length then .bad 3 0
  else if r.K6 then .on n (Rr.O3 {r with bytes:=r.bytes+s.length} s)else .on n (Rr.C9 {r with bytes:=r.bytes+s.length} (.text s))
def Rr.J0(r:Rr)(a:Nat)(l:List UInt8):Ra:=if r.K6 then r.L3 l else r.I4 a λr=>r.L3 l
def alike:List UInt8->List UInt8->Nat
 | x::a,y::b=>if x=y then alike a b+1 else 0
 | _,_=>0
def Rr.P4(r:Rr)(a:Nat)(w l:List UInt8):Ra:=r.I4 a λr=>
 if alike w l<w.length/\alike w l<l.length then .bad 120 (alike w l)else if alike w l<w.length then .cut else .on (alike w l) (r.C9 (jE w))
def Rr.N7(r:Rr)(a:Nat)(l:List UInt8):Ra:=r.I4 a λr=>
 if(dB l).2=V/\(dB l).1<l.length then .bad 120 (dB l).1
 else if(dB l).2=V then .cut
 else match bitsOf (l.take (dB l).1)with
  | none=>.bad 41 0
  | some b=>.on (dB l).1 (r.C9 (.num (dW b)))
def Rr.B4(r:Rr)(a:Nat)(c:UInt8)(t:List UInt8):Ra:=
 if aY c then r.J6 a c
 else if c=34 then r.J0 a t
 else if aH c≠ []then r.P4 a (aH c) (c::t)
 else if c=45\/isD c=G then r.N7 a (c::t)
 else .bad 120 0
def Rr.K8(b:Nat)(r:Rr)(i:Nat)(l:List UInt8):Except (Nat×Nat) Tr:=match l with
 | []=>if r.a=6 then .ok r.done else dj (95,i)
 | c::t=>if aI c then Rr.K8 b r (i+1) t else match r.B4 b c t with
  | .cut=>dj (95,i+(t.length+1))
  | .bad no a=>dj (no,i+a)
  | .on n d=>Rr.K8 b d (i+n) (t.drop (n-1))
termination_by l.length
decreasing_by all_goals(simp_wf;try omega)
def jR(l:List UInt8)(a:Nat):Except (Nat×Nat) Tr:=Rr.K8 a ⟨0,[],0,0,ct⟩ 0 l
def bA(h:i<s.size):s.data.toList.drop i=s[i]::s.data.toList.drop (i+1):=by
 have a:i<s.data.toList.length:=by simpa using h
 rw[List.drop_eq_getElem_cons a];rfl
def cY(h:¬i<s.size):s.data.toList.drop i= []:=List.drop_eq_nil_of_le (by simpa using h)
def aJo(c:UInt8):isD c=(decide (48<=c.toNat)&&decide (c.toNat<=57)):=rfl
def aER(h:bR (s.data.toList.drop k)=G):k<s.size/\over (s.data.toList.drop k)=over (s.data.toList.drop (k+1))+1:=by
 have a:k<s.size:=kj λe=>by rw[cY e]at h;cases h
 refine⟨a,?_⟩;rw[bA a]at h⊢;have h:isD s[k]=G:=h;unfold over;rw[ja,if_pos h,jb]
def aGE(h:bR (s.data.toList.drop k)=V):over (s.data.toList.drop k)=0:=by
 by_cases a:k<s.size
 .rw[bA a]at h⊢;have h:isD s[k]=V:=h;unfold over;rw[ja,if_neg (by rw[h];decide)];rfl
 .rw[cY a];rfl
def qO(w:U)(s:ByteArray)(i:Nat):ae Z 89 #[s,i] w λe w'=>e=af (T (bR (s.data.toList.drop i)))/\w'=w:=by
 by_cases h:i<s.size
 .have a:bR (s.data.toList.drop i)=isD s[i]:=by rw[bA h];rfl
  rw[a,aJo];have b:(i:Int)<(s.size:Int):=by omega
  by_cases a1:48<=s[i].toNat
  .have b1:(48:Int)<=((s[i].toNat:Nat):Int):=by omega
   by_cases a2:s[i].toNat<=57
   .have b2:((s[i].toNat:Nat):Int)<=57:=by omega
    rw[decide_eq_true a1,decide_eq_true a2];go_enter fk,fm;go_wp2;go_ret;exact⟨rfl,rfl⟩
   .have b2:¬((s[i].toNat:Nat):Int)<=57:=by omega
    rw[decide_eq_true a1,decide_eq_false a2];go_enter fk,fm;go_wp2;go_ret;exact⟨rfl,rfl⟩
  .have b1:¬(48:Int)<=((s[i].toNat:Nat):Int):=by omega
   rw[decide_eq_false a1];go_enter fk,fm;go_wp2;go_ret;exact⟨rfl,rfl⟩
 .have a:bR (s.data.toList.drop i)=V:=by rw[cY h];rfl
  rw[a];have b:¬(i:Int)<(s.size:Int):=by omega
  go_enter fk,fm;go_wp2;go_ret;exact⟨rfl,rfl⟩
def aHq(w:U)(s:ByteArray)(i:Nat)(hi:i<=s.size)(l:s.size<=2147483648):ae Z 119 #[s,i] w λe w'=>e=af (J O ((i+over (s.data.toList.drop i):Nat):Int))/\w'=w:=by
 obtain⟨r,c⟩:∃r,i+over (s.data.toList.drop i)=r:=⟨_,rfl⟩;rw[c];have h:=A (λW k=>qO W s k);go_enter func119,ntmps119;go_wp2
 go_loopw [1] (λv wr=>∃k:Nat,v=J O k/\k<=s.size/\k+over (s.data.toList.drop k)=r/\w=wr) (λv _=>s.size-(fq v).toNat)
 case atStart=>exact⟨i,rfl,hi,c,rfl⟩
 case round=>
  obtain⟨k,rfl,-,a,rfl⟩:=hrel;have d:=A a;clear a;go_wp2_with fail;refine(h.o _ _).mono ?_;rintro e w1 ⟨rfl,rfl⟩;cases b:bR (s.data.toList.drop k)with
  | true=>
   obtain⟨j,f⟩:=aER b;have g:=d.o;have m:O.wrap ((k:Int)+1)=(k:Int)+1:=by rw[bu];omega
   clear b;go_wp2_with fail;exact⟨⟨k+1,by go_num,by omega,by omega,trivial⟩,by simp[fq];omega⟩
  | false=>
   have f:=aGE b;have g:=d.o;obtain rfl:k=r:=by omega
   clear b;go_wp2;go_ret;exact⟨rfl,rfl⟩
def uZ(w:U)(s:ByteArray)(i:Nat):ae Z 162 #[s,i] w λe w'=>e=af (T (bR (s.data.toList.drop i)))/\w'=w:=by
 by_cases h:i<s.size
 .have a:bR (s.data.toList.drop i)=isD s[i]:=by rw[bA h];rfl
  rw[a,aJo];have b:(i:Int)<(s.size:Int):=by omega
  by_cases a1:48<=s[i].toNat
  .have b1:(48:Int)<=((s[i].toNat:Nat):Int):=by omega
   by_cases a2:s[i].toNat<=57
   .have b2:((s[i].toNat:Nat):Int)<=57:=by omega
    rw[decide_eq_true a1,decide_eq_true a2];go_enter ft,fu;go_wp2;go_ret;exact⟨rfl,rfl⟩
   .have b2:¬((s[i].toNat:Nat):Int)<=57:=by omega
    rw[decide_eq_true a1,decide_eq_false a2];go_enter ft,fu;go_wp2;go_ret;exact⟨rfl,rfl⟩
  .have b1:¬(48:Int)<=((s[i].toNat:Nat):Int):=by omega
   rw[decide_eq_false a1];go_enter ft,fu;go_wp2;go_ret;exact⟨rfl,rfl⟩
 .have a:bR (s.data.toList.drop i)=V:=by rw[cY h];rfl
  rw[a];have b:¬(i:Int)<(s.size:Int):=by omega
  go_enter ft,fu;go_wp2;go_ret;exact⟨rfl,rfl⟩
def aES(w:U)(s:ByteArray)(i:Nat)(hi:i<=s.size)(l:s.size<=2147483648):ae Z 161 #[s,i] w λe w'=>e=af (J O ((i+over (s.data.toList.drop i):Nat):Int))/\w'=w:=by
 obtain⟨r,c⟩:∃r,i+over (s.data.toList.drop i)=r:=⟨_,rfl⟩;rw[c];have h:=A (λW k=>uZ W s k);go_enter func161,ntmps161;go_wp2
 go_loopw [1] (λv wr=>∃k:Nat,v=J O k/\k<=s.size/\k+over (s.data.toList.drop k)=r/\w=wr) (λv _=>s.size-(fq v).toNat)
 case atStart=>exact⟨i,rfl,hi,c,rfl⟩
 case round=>
  obtain⟨k,rfl,-,a,rfl⟩:=hrel;have d:=A a;clear a;go_wp2_with fail;refine(h.o _ _).mono ?_;rintro e w1 ⟨rfl,rfl⟩;cases b:bR (s.data.toList.drop k)with
  | true=>
   obtain⟨j,f⟩:=aER b;have g:=d.o;have m:O.wrap ((k:Int)+1)=(k:Int)+1:=by rw[bu];omega
   clear b;go_wp2_with fail;exact⟨⟨k+1,by go_num,by omega,by omega,trivial⟩,by simp[fq];omega⟩
  | false=>
   have f:=aGE b;have g:=d.o;obtain rfl:k=r:=by omega
   clear b;go_wp2;go_ret;exact⟨rfl,rfl⟩
def gP(b:Nat):Pc (List UInt8×Nat)->X
 | .cut=>ag #["",J O 0,J O 0,J O 0,T G]
 | .bad no a=>ag #["",J O 0,no,J O ((b+a:Nat):Int),T V]
 | .ok x=>ag #[.string ⟨x.1.toArray⟩,x.2,J O 0,J O 0,T V]
def aS{f:U}{m l k j n:X}{r:co}(e i d c g:X)(h:w.heap[b]?=I (H #[m,l,k,j,n] r (0,0)))(q:C f f w)(a:f.heap.size<=b):
 (((((w.setCell b e).setCell ⟨b,1,Y⟩ i).setCell ⟨b,2,Y⟩ d).setCell ⟨b,3,Y⟩ c).setCell ⟨b,4,Y⟩ g).heap[b]?=I (H #[e,i,d,c,g] r (0,0))/\
 C f f (((((w.setCell b e).setCell ⟨b,1,Y⟩ i).setCell ⟨b,2,Y⟩ d).setCell ⟨b,3,Y⟩ c).setCell ⟨b,4,Y⟩ g):=
 ⟨aB (o:=4) (aB (o:=3) (aB (o:=2) (aB (o:=1) (aB (o:=0) h e) i) d) c) g,((((q.setCell (p:=b) a e).setCell (p:=⟨b,1,Y⟩) a i).setCell (p:=⟨b,2,Y⟩) a d).setCell (p:=⟨b,3,Y⟩) a c).setCell (p:=⟨b,4,Y⟩) a g⟩
def mA(w:U)(no a:Nat):ae Z 156 #[no,a] w λe w'=>e=af (ag #["",J O 0,no,a,T V])/\C w w w':=by
 go_enter func156,ntmps156;go_wp2;exact ev (v:=ag #["",J O 0,no,a,T V]) (by simp[bm,results156,go_sem]) rfl ⟨rfl,(aw _ _).alloc (aj _) _⟩
def gN(c:UInt8):Int:=match cO c with
 | some b=>(b.toNat:Int)
 | none=> -1
def aCR(w:U)(c:UInt8):ae Z 176 #[J cu c.toNat] w λe w'=>e=af (J O (gN c))/\w'=w:=by
 have d:∃k,(k=0/\c=34/\gN c=34)\/(k=1/\c=92/\gN c=92)\/(k=2/\c=47/\gN c=47)\/(k=3/\c=98/\gN c=8)\/(k=4/\c=102/\gN c=12)\/(k=5/\c=110/\gN c=10)\/(k=6/\c=114/\gN c=13)\/(k=7/\c=116/\gN c=9)\/
  (k=8/\(c≠34/\c≠92/\c≠47/\c≠98/\c≠102/\c≠110/\c≠114/\c≠116)/\gN c= -1):=by
  by_cases b:c=34
  .subst b;exact⟨0,ai ⟨rfl,rfl,rfl⟩⟩
  by_cases f:c=92
  .subst f;exact⟨1,by simp[gN,cO]⟩
  by_cases a:c=47
  .subst a;exact⟨2,by simp[gN,cO]⟩
  by_cases g:c=98
  .subst g;exact⟨3,by simp[gN,cO]⟩
  by_cases h:c=102
  .subst h;exact⟨4,by simp[gN,cO]⟩
  by_cases i:c=110
  .subst i;exact⟨5,by simp[gN,cO]⟩
  by_cases j:c=114
  .subst j;exact⟨6,by simp[gN,cO]⟩
  by_cases l:c=116
  .subst l;exact⟨7,by simp[gN,cO]⟩
  exact⟨8,by simp[gN,cO,b,f,a,g,h,i,j,l]⟩
 obtain⟨k,d⟩:=d
 have b:∀{x:UInt8},c≠x->¬(x.toNat:Int)=(c.toNat:Int)/\((x.toNat:Int)==(c.toNat:Int))=V:=λo=>by
  have a:∀x:UInt8,c≠x->¬(x.toNat:Int)=(c.toNat:Int):=λx d e=>d (jc (by omega))
  exact⟨a _ o,by simpa using a _ o⟩
 have p:(((⟨#[34,92,47,98,102,110,114,116]⟩:ByteArray)[0].toNat:Nat):Int)=34:=rfl;have q:(((⟨#[34,92,47,8,12,10,13,9]⟩:ByteArray)[0].toNat:Nat):Int)=34:=rfl;have r:(((⟨#[34,92,47,98,102,110,114,116]⟩:ByteArray)[1].toNat:Nat):Int)=92:=rfl;have s:(((⟨#[34,92,47,8,12,10,13,9]⟩:ByteArray)[1].toNat:Nat):Int)=92:=rfl;have t:(((⟨#[34,92,47,98,102,110,114,116]⟩:ByteArray)[2].toNat:Nat):Int)=47:=rfl;have u:(((⟨#[34,92,47,8,12,10,13,9]⟩:ByteArray)[2].toNat:Nat):Int)=47:=rfl;have v:(((⟨#[34,92,47,98,102,110,114,116]⟩:ByteArray)[3].toNat:Nat):Int)=98:=rfl;have y:(((⟨#[34,92,47,8,12,10,13,9]⟩:ByteArray)[3].toNat:Nat):Int)=8:=rfl;have z:(((⟨#[34,92,47,98,102,110,114,116]⟩:ByteArray)[4].toNat:Nat):Int)=102:=rfl;have B:(((⟨#[34,92,47,8,12,10,13,9]⟩:ByteArray)[4].toNat:Nat):Int)=12:=rfl;have D:(((⟨#[34,92,47,98,102,110,114,116]⟩:ByteArray)[5].toNat:Nat):Int)=110:=rfl;have F:(((⟨#[34,92,47,8,12,10,13,9]⟩:ByteArray)[5].toNat:Nat):Int)=10:=rfl;have K:(((⟨#[34,92,47,98,102,110,114,116]⟩:ByteArray)[6].toNat:Nat):Int)=114:=rfl;have L:(((⟨#[34,92,47,8,12,10,13,9]⟩:ByteArray)[6].toNat:Nat):Int)=13:=rfl;have N:(((⟨#[34,92,47,98,102,110,114,116]⟩:ByteArray)[7].toNat:Nat):Int)=116:=rfl;have P:(((⟨#[34,92,47,8,12,10,13,9]⟩:ByteArray)[7].toNat:Nat):Int)=9:=rfl;rcases d with⟨rfl,rfl,a⟩|⟨rfl,rfl,a⟩|⟨rfl,rfl,a⟩|⟨rfl,rfl,a⟩|⟨rfl,rfl,a⟩|⟨rfl,rfl,a⟩|⟨rfl,rfl,a⟩|⟨rfl,rfl,a⟩|⟨rfl,⟨f,g,h,i,j,l,m,n⟩,a⟩
 case inr.inr.inr.inr.inr.inr.inr.inr=>
  rw[a];have R:((34:Int)==(c.toNat:Int))=V:=(b f).2;have b1:((92:Int)==(c.toNat:Int))=V:=(b g).2;have b2:((47:Int)==(c.toNat:Int))=V:=(b h).2;have b3:((98:Int)==(c.toNat:Int))=V:=(b i).2;have b4:((102:Int)==(c.toNat:Int))=V:=(b j).2;have S:((110:Int)==(c.toNat:Int))=V:=(b l).2;have W:((114:Int)==(c.toNat:Int))=V:=(b m).2;have b7:((116:Int)==(c.toNat:Int))=V:=(b n).2;clear a b f g h i j l m n;go_enter func176,ntmps176;go_wp2_with fail;refine jd 9 ?_
  iterate 9 (rw[je];go_wp2_with fail)
  go_ret;exact⟨rfl,rfl⟩
 all_goals
  rw[a];clear a b;go_enter func176,ntmps176;go_wp2_with fail;refine jd 9 ?_
  iterate 9 (try(rw[je];go_wp2_with fail))
  go_ret;exact⟨rfl,rfl⟩
def qP:Maps.Keyed Z 9:=Maps.string_keyed jf
def aET(k:Oo)(h:k.length<=au):keyOf Z 9 (encS k)=I (cg k):=by
 have a:(⟨k.toArray⟩:ByteArray).size<=au:=by show k.toArray.size<=_;simpa using h
 have e:=kr (P:=Z) jf a;unfold encS
 simpa using e
def aEU:List (List UInt8)->DataW Unit
 | []=>.map []
 | k::r=>(aEU r).put (cg k) (.lit (ie O r.length))
def aJp:List (List UInt8)->DataW Unit
 | []=>.map []
 | k::r=>(aJp r).put (cg k) (.agg [])
def xL:∀r,jg (aEU r)
 | []=>jh
 | k::r=>(xL r).put _ _
def aCS:∀r,jg (aJp r)
 | []=>jh
 | k::r=>(aCS r).put _ _
def aCT(k:Oo):∀r,ji (aEU r) (cg k)=decide (k∈r)
 | []=>rfl
 | x::r=>by
  unfold aEU
  by_cases h:k=x
  .subst h;rw[jj (xL r) (show ig (cg _)from trivial)];simp
  .rw[jk (by simpa using h),aCT k r];simp[h]
def aCU(k:Oo):∀r,ji (aJp r) (cg k)=decide (k∈r)
 | []=>rfl
 | x::r=>by
  unfold aJp
  by_cases h:k=x
  .subst h;rw[jj (aCS r) (show ig (cg _)from trivial)];simp
  .rw[jk (by simpa using h),aCU k r];simp[h]
def aGF{k:Oo}(z:DataW Unit):∀(r:List Oo),r.Nodup->∀i:Nat,r.reverse[i]?=I k->(aEU r).atKey (cg k) z=.lit (ie O i)
 | [],_,i,h=>by simp at h
 | x::r,b,i,h=>by
  have c:=List.nodup_cons.1 b;unfold aEU;rw[List.reverse_cons]at h
  by_cases hi:i<r.reverse.length
  .rw[List.getElem?_append_left hi]at h
   have d:k∈r:=by
    have:=List.mem_of_getElem? h
    simpa using this
   have a:k≠x:=λe=>c.1 (e▸d)
   rw[Maps.atKey_put_other (by simpa using a)];exact aGF z r c.2 i h
  .rw[List.getElem?_append_right (by omega)]at h;have f:=(gz.1 h).1;simp at f;have e:i=r.length:=by simp at hi;omega
   subst e;simp at h;subst h;rw[Maps.atKey_put_same (xL r) (show ig (cg _)from trivial)]
def iD(w:U)(b:Nat)(r:List (List UInt8)):Prop:=w.ownsMap Z 9 (plainElem Z 3) b r.length (aEU r)
def eY(w:U)(b:Nat)(r:List (List UInt8)):Prop:=w.ownsMap Z 9 unitElem b r.length (aJp r)
def aJq(w:U):(zeroValue 3).run Z w=bj (J O 0) w:=by kernel_rfl
def iD.N8(h:iD w b r){k:Oo}(d:k.length<=au):∃c:Int,(ii 263 (em (I b)) (encS k) G).run Z w=bj (cr #[c,T (decide (k∈r))]) w:=by
 obtain⟨v,f,a,e⟩:=jl h qP ij (aJq w) (jm fv (by decide)) (aET k d);obtain⟨c,rfl,_,_⟩:=plainElem_int_inv fv e;rw[aCT]at a;exact⟨c,a⟩
def iD.P5(h:iD w b r)(e:r.Nodup){k:Oo}(f:k.length<=au){i:Nat}(hi:r.reverse[i]?=I k):(ii 263 (em (I b)) (encS k) V).run Z w=bj (J O i) w:=by
 obtain⟨c,a,d,_⟩:=kt h qP ij fv (aJq w) (aET k f);rw[aGF _ r e i hi]at d;cases d;exact a
def aMh(n:Nat)(h:n<=4194304):(ie O n).wf=G:=by simp[Lit.wf,ku,kw,kz,ld];omega
def iD.C9(h:iD w b r)(c:r.length<=4194304){k:Oo}(a:k.length<=au):∃w',(jn 263 (em (I b)) (encS k) (J O r.length)).run Z w=bj () w'/\iD w' b (k::r)/\w.mapTurned w' b:=
 jo h qP ij (by unfold au;omega) (aET k a) (jm fv (aMh _ (by omega)))
def aJr(w:U):(zeroValue 101).run Z w=bj (ag #[]) w:=by kernel_rfl
def eY.N8(h:eY w b r){k:Oo}(c:k.length<=au):(ii 276 (em (I b)) (encS k) G).run Z w=bj (cr #[ag #[],T (decide (k∈r))]) w:=by
 obtain⟨v,e,a,d⟩:=jl h qP jp (aJr w) jq (aET k c);obtain⟨rfl,_⟩:=unitElem_inv d;rw[aCU]at a;exact a
def eY.C9(h:eY w b r)(c:r.length<=4194304){k:Oo}(a:k.length<=au):∃w',(jn 276 (em (I b)) (encS k) (ag #[])).run Z w=bj () w'/\eY w' b (k::r)/\w.mapTurned w' b:=
 jo h qP jp (by unfold au;omega) (aET k a) jq
def iD.N0(w:U):iD (w.alloc (.map #[] 0)) w.heap.size []:=jr w _ _ _
def eY.N0(w:U):eY (w.alloc (.map #[] 0)) w.heap.size []:=jr w _ _ _
def iD.A2(h:iD w b r)(c:Keeps F w w')(g:¬F b):iD w' b r:=by
 obtain⟨f,a,e,d⟩:=h;exact⟨f,a,c.B7 e g,d⟩
def eY.A2(h:eY w b r)(c:Keeps F w w')(g:¬F b):eY w' b r:=by
 obtain⟨f,a,e,d⟩:=h;exact⟨f,a,c.B7 e g,d⟩
def mW(h:w.mapTurned w' b):Keeps (λk=>k=b) w w':=by
 have g:=h.grown;exact⟨g.os,g.tape,g.output,g.size,λk a c=>g.block k a (λe=>c (by cases e;rfl))⟩
def aJ(c d:UInt8):Bool:=if d.toNat<128\/191<d.toNat then V else if c.toNat=224 then decide (160<=d.toNat)else if c.toNat=237 then decide (d.toNat<=159)else if c.toNat=240 then decide (144<=d.toNat)else if c.toNat=244 then decide (d.toNat<=143)else G
def xQ(w:U)(c:UInt8):ae Z 74 #[J cu c.toNat] w λe w'=>e=af (T (aI c))/\w'=w:=by
 by_cases d:c=32
 .subst d;rw[show aI 32=G by decide];go_enter eo,ep;go_wp2;go_ret;exact⟨rfl,rfl⟩
 .have i:=aD (n:=32) d rfl
  by_cases f:c=9
  .subst f;rw[show aI 9=G by decide];go_enter eo,ep;go_wp2;go_ret;exact⟨rfl,rfl⟩
  .have k:=aD (n:=9) f rfl
   by_cases b:c=10
   .subst b;rw[show aI 10=G by decide];go_enter eo,ep;go_wp2;go_ret;exact⟨rfl,rfl⟩
   .have g:=aD (n:=10) b rfl
    by_cases a:c=13
    .subst a;rw[show aI 13=G by decide];go_enter eo,ep;go_wp2;go_ret;exact⟨rfl,rfl⟩
    .have h:=aD (n:=13) a rfl;rw[show aI c=V by unfold aI;simp[d,f,b,a]];obtain⟨-,l,-⟩:=i;obtain⟨-,o,-⟩:=k;obtain⟨-,j,-⟩:=g;obtain⟨-,m,-⟩:=h;go_enter eo,ep;go_wp2;go_ret;exact⟨rfl,rfl⟩
def aJz(w:U)(c:UInt8):ae Z 197 #[J cu c.toNat] w λe w'=>e=af (J O (match hexOf c with|some v=>(v:Int)|none=> -1))/\w'=w:=by
 have s:=c.toNat_lt
 by_cases r:c.toNat<48
 .have a:hexOf c=Y:=by unfold hexOf;rw[if_neg (by omega),if_neg (by omega),if_neg (by omega)]
  rw[a];have d:¬(48:Int)<=(c.toNat:Int):=by omega
  have b:¬(97:Int)<=(c.toNat:Int):=by omega
  have f:¬(65:Int)<=(c.toNat:Int):=by omega
  go_enter cv,cw;go_wp2;go_ret;exact⟨rfl,rfl⟩
 .skip
  by_cases m:c.toNat<58
  .have a:hexOf c=I (c.toNat-48):=by unfold hexOf;rw[if_pos (by omega)]
   rw[a];have d:(48:Int)<=(c.toNat:Int):=by omega
   have g:((c.toNat:Int):Int)<=57:=by omega
   have b:¬(97:Int)<=(c.toNat:Int):=by omega
   have f:¬(65:Int)<=(c.toNat:Int):=by omega
   have j:cu.wrap ((c.toNat:Int)-48)=((c.toNat-48:Nat):Int):=by rw[ik];omega
   have i:O.wrap ((c.toNat-48:Nat):Int)=((c.toNat-48:Nat):Int):=by rw[bu];omega
   go_enter cv,cw;go_wp2;go_ret;exact⟨rfl,rfl⟩
  .skip
   by_cases p:c.toNat<65
   .have a:hexOf c=Y:=by unfold hexOf;rw[if_neg (by omega),if_neg (by omega),if_neg (by omega)]
    rw[a];have d:(48:Int)<=(c.toNat:Int):=by omega
    have g:¬((c.toNat:Int):Int)<=57:=by omega
    have b:¬(97:Int)<=(c.toNat:Int):=by omega
    have f:¬(65:Int)<=(c.toNat:Int):=by omega
    go_enter cv,cw;go_wp2;go_ret;exact⟨rfl,rfl⟩
   .skip
    by_cases n:c.toNat<71
    .have a:hexOf c=I (c.toNat-55):=by unfold hexOf;rw[if_neg (by omega),if_neg (by omega),if_pos (by omega)]
     rw[a];have d:(48:Int)<=(c.toNat:Int):=by omega
     have g:¬((c.toNat:Int):Int)<=57:=by omega
     have b:¬(97:Int)<=(c.toNat:Int):=by omega
     have f:(65:Int)<=(c.toNat:Int):=by omega
     have h:((c.toNat:Int):Int)<=70:=by omega
     have j:cu.wrap ((c.toNat:Int)-65)=((c.toNat-65:Nat):Int):=by rw[ik];omega
     have o:O.wrap (((c.toNat-65:Nat):Int)+10)=((c.toNat-55:Nat):Int):=by rw[bu];omega
     have i:O.wrap ((c.toNat-65:Nat):Int)=((c.toNat-65:Nat):Int):=by rw[bu];omega
     go_enter cv,cw;go_wp2;go_ret;exact⟨rfl,rfl⟩
    .skip
     by_cases q:c.toNat<97
     .have a:hexOf c=Y:=by unfold hexOf;rw[if_neg (by omega),if_neg (by omega),if_neg (by omega)]
      rw[a];have d:(48:Int)<=(c.toNat:Int):=by omega
      have g:¬((c.toNat:Int):Int)<=57:=by omega
      have b:¬(97:Int)<=(c.toNat:Int):=by omega
      have f:(65:Int)<=(c.toNat:Int):=by omega
      have h:¬((c.toNat:Int):Int)<=70:=by omega
      go_enter cv,cw;go_wp2;go_ret;exact⟨rfl,rfl⟩
     .skip
      by_cases k:c.toNat<103
      .have a:hexOf c=I (c.toNat-87):=by unfold hexOf;rw[if_neg (by omega),if_pos (by omega)]
       rw[a];have d:(48:Int)<=(c.toNat:Int):=by omega
       have g:¬((c.toNat:Int):Int)<=57:=by omega
       have b:(97:Int)<=(c.toNat:Int):=by omega
       have l:((c.toNat:Int):Int)<=102:=by omega
       have h:¬((c.toNat:Int):Int)<=70:=by omega
       have j:cu.wrap ((c.toNat:Int)-97)=((c.toNat-97:Nat):Int):=by rw[ik];omega
       have o:O.wrap (((c.toNat-97:Nat):Int)+10)=((c.toNat-87:Nat):Int):=by rw[bu];omega
       have i:O.wrap ((c.toNat-97:Nat):Int)=((c.toNat-97:Nat):Int):=by rw[bu];omega
       go_enter cv,cw;go_wp2;go_ret;exact⟨rfl,rfl⟩
      .skip;have a:hexOf c=Y:=by unfold hexOf;rw[if_neg (by omega),if_neg (by omega),if_neg (by omega)]
       rw[a];have d:(48:Int)<=(c.toNat:Int):=by omega
       have g:¬((c.toNat:Int):Int)<=57:=by omega
       have b:(97:Int)<=(c.toNat:Int):=by omega
       have l:¬((c.toNat:Int):Int)<=102:=by omega
       have f:(65:Int)<=(c.toNat:Int):=by omega
       have h:¬((c.toNat:Int):Int)<=70:=by omega
       go_enter cv,cw;go_wp2;go_ret;exact⟨rfl,rfl⟩
def aHs(w:U)(c:UInt8):ae Z 179 #[J cu c.toNat] w λe w'=>e=af (J O ((aC c).a:Int))/\w'=w:=by
 have p:=c.toNat_lt
 by_cases j:c.toNat<128
 .have a:(aC c).a=1:=by(unfold aC;(repeat' split)<;>first|rfl|omega)
  rw[a];have g:((c.toNat:Int):Int)<128:=by omega
  have d:¬(194:Int)<=(c.toNat:Int):=by omega
  have b:¬(224:Int)<=(c.toNat:Int):=by omega
  have f:¬(240:Int)<=(c.toNat:Int):=by omega
  go_enter dl,dm;go_wp2;go_ret;exact⟨rfl,rfl⟩
 .skip
  by_cases i:c.toNat<194
  .have a:(aC c).a=0:=by(unfold aC;(repeat' split)<;>first|rfl|omega)
   rw[a];have g:¬((c.toNat:Int):Int)<128:=by omega
   have d:¬(194:Int)<=(c.toNat:Int):=by omega
   have b:¬(224:Int)<=(c.toNat:Int):=by omega
   have f:¬(240:Int)<=(c.toNat:Int):=by omega
   go_enter dl,dm;go_wp2;go_ret;exact⟨rfl,rfl⟩
  .skip
   by_cases n:c.toNat<224
   .have a:(aC c).a=2:=by(unfold aC;(repeat' split)<;>first|rfl|omega)
    rw[a];have g:¬((c.toNat:Int):Int)<128:=by omega
    have d:(194:Int)<=(c.toNat:Int):=by omega
    have h:((c.toNat:Int):Int)<=223:=by omega
    have b:¬(224:Int)<=(c.toNat:Int):=by omega
    have f:¬(240:Int)<=(c.toNat:Int):=by omega
    go_enter dl,dm;go_wp2;go_ret;exact⟨rfl,rfl⟩
   .skip
    by_cases k:c.toNat<240
    .have a:(aC c).a=3:=by(unfold aC;(repeat' split)<;>first|rfl|omega)
     rw[a];have g:¬((c.toNat:Int):Int)<128:=by omega
     have d:(194:Int)<=(c.toNat:Int):=by omega
     have h:¬((c.toNat:Int):Int)<=223:=by omega
     have b:(224:Int)<=(c.toNat:Int):=by omega
     have m:((c.toNat:Int):Int)<=239:=by omega
     have f:¬(240:Int)<=(c.toNat:Int):=by omega
     go_enter dl,dm;go_wp2;go_ret;exact⟨rfl,rfl⟩
    .skip
     by_cases l:c.toNat<245
     .have a:(aC c).a=4:=by(unfold aC;(repeat' split)<;>first|rfl|omega)
      rw[a];have g:¬((c.toNat:Int):Int)<128:=by omega
      have d:(194:Int)<=(c.toNat:Int):=by omega
      have h:¬((c.toNat:Int):Int)<=223:=by omega
      have b:(224:Int)<=(c.toNat:Int):=by omega
      have m:¬((c.toNat:Int):Int)<=239:=by omega
      have f:(240:Int)<=(c.toNat:Int):=by omega
      have o:((c.toNat:Int):Int)<=244:=by omega
      go_enter dl,dm;go_wp2;go_ret;exact⟨rfl,rfl⟩
     .skip;have a:(aC c).a=0:=by(unfold aC;(repeat' split)<;>first|rfl|omega)
      rw[a];have g:¬((c.toNat:Int):Int)<128:=by omega
      have d:(194:Int)<=(c.toNat:Int):=by omega
      have h:¬((c.toNat:Int):Int)<=223:=by omega
      have b:(224:Int)<=(c.toNat:Int):=by omega
      have m:¬((c.toNat:Int):Int)<=239:=by omega
      have f:(240:Int)<=(c.toNat:Int):=by omega
      have o:¬((c.toNat:Int):Int)<=244:=by omega
      go_enter dl,dm;go_wp2;go_ret;exact⟨rfl,rfl⟩
section
def aLt{c d:Nat}(m:0<c)(g:0<d):18014398509481984<=c*2^(nM c d).toNat/(d*2^(-nM c d).toNat):=by
 have l:0<bw c:=by
  rcases js (bw c)with h|h
  .have:=jt.1 (Nat.le_of_eq h);simp at this;omega
  .exact h
 have j:2^(bw c-1)<=c:=Lim.bitlen_gt.1 (by omega);have i:d<2^bw d:=jt.1 (aj _);obtain⟨a,e⟩:∃a,(nM c d).toNat=a:=⟨_,rfl⟩;obtain⟨b,f⟩:∃b,(-nM c d).toNat=b:=⟨_,rfl⟩;have k:(a:Int)-b=66-((bw c:Int)-bw d):=by rw[<-e,<-f];unfold nM;omega
 rw[e,f,Nat.le_div_iff_mul_le (et g (il _))]
 show 2^54*(d*2^b)<=c*2^a
 calc 2^54*(d*2^b)<=2^54*(2^bw d*2^b):=ju _ (cj _ (Nat.le_of_lt i))
  _=2^(54+(bw d+b)):=by rw[<-ck,<-ck]
  _<=2^(bw c-1+a):=fw (by decide) (by omega)
  _=2^(bw c-1)*2^a:=ck ..
  _<=c*2^a:=cj _ j
def aJ9(a b:Nat):bH a b=kD (a*2^(nM a b).toNat/(b*2^(-nM a b).toNat)) (a*2^(nM a b).toNat%(b*2^(-nM a b).toNat)) (nM a b):=rfl
def aGQ(a b:Nat)(c:Cut):Prop:=
 (c=⟨aM,1,V⟩/\(∃K d,aM<K*4503599627370496+d/\4503599627370496<=d/\d<9007199254740992/\d*2^K*b<=a*2^1074))\/
  (c.bits<=aM/\aLQ a b c.bits c.a/\(0<=c.a->c.exact=V))
def aFq{d c:Nat}{e:Int}(f:nM d c=e)(j:e.toNat=a)(l:(-e).toNat=b)(m:0<d)(h:0<c):aGQ d c (kD (d*2^a/(c*2^b)) (d*2^a%(c*2^b)) e):=by
 have i:=aLt m h;rw[f,j,l]at i;have k:0<c*2^b:=et h (il _);have g:(a:Int)-b=e:=by omega
 exact aLd g (Nat.div_add_mod' _ _).symm (Nat.mod_lt _ k) i
def aHZ(d:0<a)(c:0<b):aGQ a b (bH a b):=by
 rw[aJ9];exact aFq rfl rfl rfl d c
def numOf(d:Dml):Nat:=bO (bG d.b)*10^(eD d.b d.c).toNat
def fI(d:Dml):Nat:=10^(-eD d.b d.c).toNat
def fJ(d:Dml):Int:=d.b.length+d.c
def aW(d:Dml)(m:Nat)(k:Int):Int:=
 if d.b= []\/m=0 then(if d.b≠ []then 1 else if 0<m then -1 else 0)
 else if 320<fJ d then 1
 else if fJ d< -340 then -1
 else gG (numOf d*2^(-k).toNat) (m*fI d*2^k.toNat)
def fX(f:Nat):Int:=(nN f:Int)-1074
structure nC(d:Dml)(f:Nat):Prop where
 le:f<=aM
 low:0<=aW d (fN f) (fX f)
 h:f=aM\/aW d (fN (f+1)) (fX (f+1))<0
def lE(d:Dml)(f:Nat):Int:=aW d (2*fN f+1) (fX f-1)
def rC(d:Dml)(f:Nat):Nat:=if 0<lE d f\/(lE d f=0/\f%2=1)then f+1 else f
def gB(d:Dml)(f:Nat):Option Nat:=if aM<rC d f then Y else I (if d.a=G/\0<rC d f then rC d f+9223372036854775808 else rC d f)
structure gC(d:Dml):Prop where
 b:∀c∈d.b,isD c=G
 first:∀c t,d.b=c::t->c≠48
def uL(e:b<=9218868437227405312)(h:fN b=0):b=0:=by
 unfold fN at h;split at h
 .rename_i a;have d:=Nat.div_add_mod b 4503599627370496;have c:b/4503599627370496<2048:=by rw[Nat.div_lt_iff_lt_mul (by decide)];omega
  rw[Nat.mod_eq_of_lt c]at a;rw[a,h]at d;omega
 .omega
def lF{d:Dml}(b:d.b≠ [])(e:fJ d<=320)(c: -340<=fJ d){m:Nat}(a:m≠0)(S:Nat)(k:Int){K:Nat}(f:(K:Int)=k+S):aW d m k=gG (numOf d*2^S) (m*2^K*fI d):=by
 unfold aW;rw[if_neg (by simp[b,a]),if_neg (by omega),if_neg (by omega),jv m (2^K)];exact xT (p:=(-k).toNat) (q:=k.toNat) (p':=S) (q':=K) (by omega)
def aDv:0<=gG a b<->b<=a:=by unfold gG;split<;>(try split)<;>omega
def aKa:gG a b<0<->a<b:=by unfold gG;split<;>(try split)<;>omega
def aKb(h:b<a):gG a b=1:=by unfold gG;rw[if_neg (by omega),if_neg (by omega)]
def aH0(h:a<b):gG a b= -1:=by unfold gG;rw[if_pos h]
section
variable {d:Dml} {f:Nat}
def nC.I5(h:nC d f)(j:d.b≠ [])(i:fJ d<=320)(c: -340<=fJ d):iQ f*fI d<=numOf d*2^1074/\(f=aM\/numOf d*2^1074<iQ (f+1)*fI d):=by
 have b:=h.le;constructor
 .by_cases a:fN f=0
  .unfold iQ;rw[a,jw,jw];exact ew _
  .have:=h.low;rw[lF j i c a 1074 _ (K:=nN f) (by unfold fX;omega)]at this;exact aDv.1 this
 .refine h.h.imp id λg=>?_
  have a:fN (f+1)≠0:=λe=>by have:=uL (by unfold aM at b;omega) e;omega
  rw[lF j i c a 1074 _ (K:=nN (f+1)) (by unfold fX;omega)]at g;exact aKa.1 g
def oU(c:d.b≠ [])(b:fJ d<=320)(a: -340<=fJ d):lE d f=gG (numOf d*2^1075) ((2*fN f+1)*2^nN f*fI d):=by
 unfold lE;exact lF c b a (by omega) 1075 _ (by unfold fX;omega)
def aGR(d:Dml):0<fI d:=eu (by decide)
def aKc:iQ 9218868437227405312=4503599627370496*2^2046:=by
 have a:fN 9218868437227405312=4503599627370496/\nN 9218868437227405312=2046:=by
  unfold fN nN;constructor<;>decide
 unfold iQ;rw[a.1,a.2]
def aDw:fN aM=9007199254740991/\nN aM=2045:=by
 unfold fN nN aM;constructor<;>decide
def aMp{K e F f:Nat}(b:Nat)(c:b<=K)(d:4503599627370496<=e)(a:e*2^K*F<=f):4503599627370496*2^b*F<=f:=
 ar (cj _ (Nat.mul_le_mul d (fw (by decide) c))) a
def dbl{N:Nat}(a b:Nat)(h:b=a+1):N*2^b=2*(N*2^a):=by
 subst h;rw[jx,<-dp,jy]
def aLu{F N:Nat}(c:0<F):∀a a1 b b1:Nat,a1=a+1->b1=b+1->4503599627370496*2^a1*F<=N*2^b->(2*9007199254740991+1)*2^a*F<N*2^b1:=by
 rintro a _ b _ rfl rfl h;rw[jx]at h⊢;have d:0<2^a*F:=et (il _) c;generalize 2^a=x at*;generalize 2^b=y at*;rw[jy x 2,<-dp,dp]at h;rw[dp,<-dp N];generalize x*F=u at*;generalize N*y=v at*;omega
def aMq{F N B:Nat}(a b e:Nat)(c:52+b=a+e)(h:2^a<=B)(d:B*F<=N):4503599627370496*2^b*F<=N*2^e:=by
 rw[show 4503599627370496=2^52 from rfl,<-ck,c,ck,jv];exact cj _ (ar (cj _ h) d)
def nC.N1(h:nC d f)(g:d.b≠ [])(e:fJ d<=320)(c: -340<=fJ d)(n:4503599627370496*2^2046*fI d<=numOf d*2^1074):gB d f=Y:=by
 obtain⟨_,b⟩:=h.I5 g e c
 have i:f=aM:=by
  refine b.resolve_right λj=>?_
  have a:=h.le;have m:iQ (f+1)*fI d<=iQ 9218868437227405312*fI d:=cj _ (aBF (by unfold aM at a;omega) (aj _));rw[aKc]at m;omega
 subst i
 have k:lE d aM=1:=by
  rw[oU g e c,aDw.1,aDw.2];exact aKb (aLu (aGR d) 2045 2046 1074 1075 rfl rfl n)
 have l:rC d aM=aM+1:=by unfold rC;rw[k,if_pos (ai (by decide))]
 unfold gB;rw[l,if_pos (by omega)]
def aDx(e:d.b≠ [])(c:fJ d<=310)(b: -330<=fJ d):bQ d=bH (numOf d) (fI d):=by
 unfold bQ;unfold fJ at c b;rw[if_neg e,if_neg (by omega),if_neg (by omega)];unfold numOf fI
 by_cases a:0<=eD d.b d.c
 .rw[if_pos a,show(-eD d.b d.c).toNat=0 by omega,jz]
 .rw[if_neg a,show(eD d.b d.c).toNat=0 by omega,jz,Nat.mul_one]
def aLv{c:Cut}(a:0<=c.a->c.exact=V)(b:c.a= -1\/c.a=0\/c.a=1):cC c=if 0<c.a\/(c.a=0/\c.bits%2=1)then c.bits+1 else c.bits:=by
 unfold cC;rcases b with h|h|h
 .rw[if_neg (by omega),if_neg (by omega),if_neg (by omega)]
 .rcases Nat.mod_two_eq_zero_or_one c.bits with e|e
  .rw[if_pos ⟨h,e⟩,if_neg (by omega)]
  .rw[if_neg (by omega),if_pos ⟨by omega,a (by omega)⟩,if_pos (by omega)]
 .rw[if_neg (by omega),if_pos ⟨by omega,a (by omega)⟩,if_pos (by omega)]
def aFr(a b:Nat):gG a b= -1\/gG a b=0\/gG a b=1:=by unfold gG;split<;>(try split)<;>omega
end
end
section
def aH1(c:UInt8)(t:Oo):bO (c::t)=(c.toNat-48)*10^t.length+bO t:=by
 have:=jV [c] t
 simpa[bO]using this
def kK{c:UInt8}(h:isD c=G):48<=c.toNat/\c.toNat<=57:=by unfold isD at h;simpa using h
def yS(a:Oo)(e:Int):((bG a).length:Int)+eD a e=a.length+e:=by
 unfold bG eD
 by_cases h:800<a.length
 .rw[if_pos h,if_pos h,List.length_append,fg,Nat.min_eq_left (by omega)];simp;omega
 .rw[if_neg h,if_neg h]
def aDy{a:Oo}(h:a≠ []):∃c t u,a=c::t/\bG a=c::u:=by
 cases a with
 | nil=>exact absurd rfl h
 | cons c t=>
  unfold bG;split
  .exact⟨c,t,_,rfl,rfl⟩
  .exact⟨c,t,_,rfl,rfl⟩
def aFs{b:Oo}(h:∀c∈b,isD c=G):∀c∈bG b,c.toNat<=57:=by
 unfold bG;intro c a;split at a
 .rcases List.mem_append.1 a with a|a
  .exact(kK (h c (List.mem_of_mem_take a))).2
  .simp at a;subst a;decide
 .exact(kK (h c a)).2
section
variable {d:Dml} {f:Nat}
def gC.I6(a:gC d)(i:d.b≠ []):∃L:Nat,(L:Int)+1+eD d.b d.c=fJ d/\10^L<=bO (bG d.b)/\bO (bG d.b)<10^(L+1):=by
 obtain⟨c,t,u,f,j⟩:=aDy i;have g:=yS d.b d.c;have b:=aFs a.b;rw[j]at g b⊢;refine⟨u.length,?_,?_,?_⟩
 .unfold fJ;rw[<-g,jb];omega
 .rw[aH1];have k:=kK (a.b c (by rw[f];simp));have h:=a.first c t f;have l:c.toNat≠48:=λe=>h (jc e)
  have:1*10^u.length<=(c.toNat-48)*10^u.length:=cj _ (by omega);omega
 .exact kH b
def aGS(c:gC d)(b:d.b≠ []):0<numOf d:=by
 obtain⟨L,_,a,_⟩:=c.I6 b;unfold numOf;exact et (dq (eu (by decide)) a) (eu (by decide))
def aH2(c:gC d)(b:d.b≠ [])(g:310<fJ d):∃B,2^1024<=B/\B*fI d<=numOf d:=by
 obtain⟨z,f⟩:∃z,z=310:=⟨_,rfl⟩;refine⟨10^z,by subst f;decide+kernel,?_⟩;obtain⟨L,e,a,_⟩:=c.I6 b;unfold numOf fI;refine ar ?_ (cj _ a);rw[<-ck,<-ck];exact fw (by decide) (by omega)
def aH3(f:gC d)(b:d.b≠ [])(g:fJ d< -330):numOf d*10^331<fI d:=
 (show ∀z,z=331->numOf d*10^z<fI d from λz h=>by
 obtain⟨L,e,_,c⟩:=f.I6 b;unfold numOf fI;have a:0<10^(eD d.b d.c).toNat*10^z:=et (eu (by decide)) (eu (by decide));rw[dp];refine dq (Nat.mul_lt_mul_of_pos_right c a) ?_;rw[<-ck,<-ck];exact fw (by decide) (by omega)) 331 rfl
def aAl:2^1075<=10^331:=by decide+kernel
def l8(a:f=0)(b:lE d f= -1):gB d f=I 0:=by
 subst a;have c:rC d 0=0:=by unfold rC;rw[b,if_neg (by omega)]
 unfold gB;rw[c,if_neg (by omega),if_neg (by omega)]
def oV:fN 0=0/\nN 0=0:=by constructor<;>decide
def aH4(q:gC d)(g:nC d f):gB d f=cF d:=by
 by_cases a:d.b= []
 .
  have b:bQ d=⟨0,0,G⟩:=by unfold bQ;rw[if_pos a]
  have i:fN f=0:=by
   have:=g.low;unfold aW at this;rw[if_pos (ai a),if_neg (by simp[a])]at this;split at this<;>omega
  have e:f=0:=uL (by have:=g.le;unfold aM at this;omega) i
  have r:lE d f= -1:=by
   unfold lE aW;rw[if_pos (ai a),if_neg (by simp[a]),if_pos (by omega)]
  rw[l8 e r];unfold cF;rw[b];have:cC ⟨0,0,G⟩=0:=rfl;rw[this,if_neg (by omega),if_neg (by omega)]
 .by_cases j:310<fJ d
  .have b:bQ d=⟨aM,1,V⟩:=by
    unfold bQ;unfold fJ at j;rw[if_neg a,if_pos j]
   have l:cF d=Y:=by
    unfold cF;rw[b];have:cC ⟨aM,1,V⟩=aM+1:=rfl;rw[this,if_pos (by omega)]
   rw[l]
   by_cases n:320<fJ d
   .have h:∀m k,aW d m k=1:=by
     intro m k;unfold aW
     by_cases i:m=0
     .rw[if_pos (ao i),if_pos a]
     .rw[if_neg (by simp[a,i]),if_pos n]
    have o:f=aM:=by
     refine g.h.resolve_right ?_;rw[h];omega
    have p:rC d aM=aM+1:=by unfold rC lE;rw[h,if_pos (ai (by decide))]
    unfold gB;rw[o,p,if_pos (by omega)]
   .refine g.N1 a (by omega) (by omega) ?_;obtain⟨z,e,o⟩:=aH2 q a j;have e:= @aMq (fI d) (numOf d) z 1024 2046 1074 rfl e o;exact e
  .by_cases n:fJ d< -330
   .have b:bQ d=⟨0,-1,V⟩:=by
     unfold bQ;unfold fJ at j n;rw[if_neg a,if_neg j,if_pos n]
    have l:cF d=I 0:=by
     unfold cF;rw[b];have:cC ⟨0,-1,V⟩=0:=rfl;rw[this,if_neg (by omega),if_neg (by omega)]
    rw[l]
    by_cases o:fJ d< -340
    .have h:∀m k,m≠0->aW d m k= -1:=by
      intro m k i;unfold aW;rw[if_neg (by simp[a,i]),if_neg (by omega),if_pos o]
     have e:f=0:=by
      have:=g.low
      by_cases i:fN f=0
      .exact uL (by have:=g.le;unfold aM at this;omega) i
      .rw[h _ _ i]at this;omega
     exact l8 e (h _ _ (by omega))
    .have p:=aH3 q a n;have h:numOf d*2^1075<fI d:=Nat.lt_of_le_of_lt (ju _ aAl) p
     have e:f=0:=by
      obtain⟨i,_⟩:=g.I5 a (by omega) (by omega);rcases js f with s|s
      .exact s
      .exfalso;have u:iQ 0<iQ f:=aGJ s (by have:=g.le;unfold aM at this;omega);have v:1*fI d<=iQ f*fI d:=cj _ (by omega);have t:numOf d*2^1075=2*(numOf d*2^1074):= @dbl (numOf d) 1074 1075 rfl;rw[t]at h;generalize numOf d*2^1074=w at*;omega
     refine l8 e ?_;rw[oU a (by omega) (by omega),e,oV.1,oV.2];refine aH0 ?_;rw[show(2*0+1)*2^0*fI d=fI d by simp];exact h
   .
    have b:=aDx a (by omega) (by omega);obtain⟨i,s⟩:=g.I5 a (by omega) (by omega);rcases aHZ (aGS q a) (aGR d)with⟨h,K,y,o,t,w,x⟩|⟨p,h,v⟩
    .have l:cF d=Y:=by
      unfold cF;rw[b,h];have:cC ⟨aM,1,V⟩=aM+1:=rfl;rw[this,if_pos (by omega)]
     have u:2046<=K:=by unfold aM at o;omega
     have e:= @aMp K y (fI d) (numOf d*2^1074) 2046 u t x;rw[l];exact g.N1 a (by omega) (by omega) e
    .obtain⟨c,l⟩:∃c,bH (numOf d) (fI d)=c:=⟨_,rfl⟩;rw[l]at p h v b;have e:f=c.bits:=aHw (N:=numOf d*2^1074) (D:=fI d) g.le p i s h.low (ao h.h);have r:lE d f=c.a:=by rw[oU a (by omega) (by omega),e];exact h.a
     have u:cC c=rC d f:=by
      rw[aLv v (by rw[<-h.a];exact aFr _ _)];unfold rC;rw[r,e]
     unfold gB cF;rw[b,u]
end
end
def zJ:lB 22 5 1 1:=⟨underlying22,by decide,by
 have h:(Z.info? 5).map (λi=>(i.zero,i.size,i.bytes))=I (I (J cu 0),1,1):=by kernel_rfl
 obtain⟨i,c,a,d,b⟩:=im h;exact⟨i,_,c,a,d,b,rfl⟩⟩
