/-
  The program, one part of its walk. Conditions: none.
-/
import Derived.Test.YtakkmiomhackiaaGreatDoorAj29
import Derived.Lib.SlBytesConst
import Derived.Outline
import Derived.Lib.SliceRun
set_option linter.all false
set_option maxRecDepth 100000
set_option maxHeartbeats 16000000
open Go.Proofs.Tryz
open Array renaming replicate_succ->fv,replicate_zero->fw
open Bool renaming false->ai,true->af
open Except renaming ok->cj
open False renaming elim->gp
open Go renaming Addr->ak,Calls->bg,KeepsOthers->gh,TypeId->dt,Value->ac,World->H,callsIn_of_wp_marks->fk,callsIn_wide->bk,cell_of_one->av,convert->em,free_of_one->dp,lt_of_block->ao,maxLen->cr,results->dw,run_takeDeferred->gm,undef->h
open Go.Proofs.Tryz renaming prog->ag
open List renaming append_toArray->ga,length->gl,length_eq_zero_iff->ie,nodup_cons->io,nodup_nil->ir,push_toArray->fz
open Nat renaming reduceAdd->ft,reduceSub->fu
open Option renaming none->O,some->I
open Or renaming inl->bp,inr->bz
namespace Go.Proofs.YtakkmiomhackiaaGreatDoor
open Go.RowKit
open Builtin renaming clear_->ip
open CallsIn renaming inRound->iw
open Ending renaming returned->az
open Fn renaming func->bu
open FrameMode renaming returning->im
open Instr renaming typeAssert->gk
open IntKind renaming i64->Z,u64->L,u8->ah
open KeepsOthers renaming alloc->iv,refl->gd,setCell->gj
open Obj renaming cells->Y,deferred->co
open Proofs renaming intOf->ct
open Keeps renaming A2->au,A4->ar
open Ps renaming D3->gx,F5->fh
open Rd renaming E9->et
open Rr renaming E6->dy,F5->fe,F9->gr
open Sz renaming B9->gy
open Tr renaming A9->dv,F3->du
open aMB renaming A4->ge,M5->ei
open aMD renaming A0->iq
open Result renaming ok->cg
open RowKit renaming Below->ae
open Target renaming collected->eh
open Value renaming agg->cw,bool->E,func->bs,iface->bm,int->J,nilFunc->dl,nilIface->dh,ownBlock->ik,pointer->Q,slice->U,string->aw,tuple->bw
open World renaming putObj_heap_other->gn
variable {b c d n:Nat}{W w:H}{r:Rr}{t:Tr}{l:Oo}
section
open Go.RowKit Go.Shelf
attribute [local go_sem] Oper.semAt_some
def aMz:List UInt8:= [30,49,10,30,91,10,30,34,97,34,10]
def aNo.I7(B:Nat)(a:List (Except (Nat×Nat) Tr))(k:Nat)(x:Rec):aMI B (aNo a k x):=by
 rintro n C ⟨i,e⟩ f;refine⟨i,e.A0 f ?_⟩;rintro k c m b d ⟨_,(⟨l,T,p,g⟩|⟨o,p,j⟩)⟩
 .rw[d]at p;cases p;rcases g with rfl|rfl|rfl<;>exact absurd b (by decide)
 .rw[d]at p;cases p;simp[Obj.isCells]at j
def aMM(b c:Nat)(w:H)(a:List Rec)(W:H):Prop:=
 W.heap[c]?=I (Y #[a.length] 3 (0,0))/\W.heap[b]?=I (Y #[E ai] 4 (0,0))/\ae b w W
def aMM.I7{B:Nat}(hi:d<B)(j:c<B)(i:c=w.heap.size)(b:List Rec):aMI B (aMM c d w b):=by
 rintro l C ⟨g,f,e⟩ a;refine⟨a.B4 g (λm=>by omega),a.B4 f (λm=>by omega),e.trans (a.A6 ?_ (λk m=>by omega))⟩;have:=e.size;omega
def aNN{o:Nat}{c:Array ac}{T:dt}(j:W.heap[b]?=I (Y c T (0,0)))(f:T=3\/T=4)(v:ac):aMB W (W.setCell ⟨b,o,O⟩ v):=
 ei (F:=λk=>k=b) ((ar (λk=>k=b) W).A3 (p:=⟨b,o,O⟩) (bp rfl) _) (λk e=>by
  subst e;rintro⟨i,g,d,a⟩;rw[j]at d;cases d;rcases f with rfl|rfl<;>exact absurd a (by decide))
def aNp(W:H)(o:Obj):aMB W (W.alloc o):=ei (F:=λ_=>False) ((ar _ W).A5 o) (λ_ a=>a.elim)
def aOH(w:H):bg ag 24 #[] w λe w'=>e=az (E af)/\ae w w w':=by
 have b:=Lib.run_convert_bytes_const (P:=ag) (w.alloc (Y #[E ai] 4)) 22 5 (aMz.map bZ).toArray 11 11 ku underlying5;have c:=aL (w.alloc (Y #[E ai] 4)) (Y (aMz.map bZ).toArray 5 ((aMz.map bZ).toArray.size,(aMz.map bZ).toArray.size+1));rw[my]at b c;obtain⟨s,a⟩:∃s,(w.alloc (Y #[E ai] 4)).alloc (Y (aMz.map bZ).toArray 5 ((aMz.map bZ).toArray.size,(aMz.map bZ).toArray.size+1))=s:=⟨_,rfl⟩;have g:ae w.heap.size w s:=by rw[<-a];exact((dk _ _).alloc (hU _) _).alloc (by simp) _
 have d:s.heap[w.heap.size]?=I (Y #[E ai] 4 (0,0)):=by rw[<-a];exact(de _ _ _ (by simp)).trans (aL w _)
 have j:s.heap.size=w.heap.size+2:=by rw[<-a];simp
 rw[a]at b c
 have f:aM4 s (U (I ⟨w.heap.size+1,0,O⟩) 11 11) aMz:=by
  refine⟨⟨_,11,rfl,hU _,by decide,bz ⟨w.heap.size+1,0,rfl,id,λi x z=>?_⟩⟩,bz ⟨_,_,_,_,rfl⟩⟩;rw[cell_any c,jw]
  have:((aMz.map bZ).toArray)[i]?=I (bZ x):=by
   rw[List.getElem?_toArray,ed,z];rfl
  exact this
 have G:=A (aOj s _ aMz 4 (by decide) (by decide) f (by decide));have g6:=A g;have N:=A d;clear c a g d j f;have j:(em 22 22 (U (I ⟨w.heap.size+1,0,O⟩) 11 11)).run ag ((w.alloc (Y #[E ai] 4)).alloc (Y #[J ah 30,J ah 49,J ah 10,J ah 30,J ah 91,J ah 10,J ah 30,J ah 34,J ah 97,J ah 34,J ah 10] 5))=cg (U (I ⟨w.heap.size+1,0,O⟩) 11 11) s:=b;clear b;refine(bk (n:=6)).1 ?_;refine fk func24 rfl trivial ?_ rfl;simp only[ntmps24,oy,cv,ib,ft,fu,fv,fw,fz,ga,mq,li];gi_wp2_with fail;refine⟨trivial,?_⟩;refine(bk.2 (G.o)).mono ?_;rintro e w2 ⟨o,r,v,rfl,m,t,u,g,-⟩;have y:ae w.heap.size w w2:=chain g6.o g;have b:=keep N.o g;have HB:=A y;have g7:=A m;have g8:=A t;have g9:=A u;have a:=A b;have h5:∀w:H,(binOp .eql 70 (bs (bu 66) #[] #[Q o,Q r]) dl).run ag w=cg (E ai) w:=λ_=>by kernel_rfl
 have d:=aNz;have f:=aNK 5 o r 4 aMz v w2 (by decide) (by decide) g7.o g8.o g9.o (by decide);rw[show((((et 4).C4 aMz).J6).b)=_ from d]at f;have R:=A f;clear y b m t u g j d f;gi_wp2_with fail;have u:(w2.alloc (Y #[J Z 0] 3)).heap[w2.heap.size]?=I (Y #[J Z 0] 3 (0,0)):=aL w2 _;have h0:(w2.alloc (Y #[J Z 0] 3)).heap[w.heap.size]?=I (Y #[E ai] 4 (0,0)):=(de _ _ _ (ao a.o)).trans a.o
 refine aNx (gf:=66) (lb:= #[Q o,Q r]) rfl (enters_of func66 (by kernel_rfl) rfl) R.o ((dk _ _).alloc (hU _) _) (λ_=>rfl)
  (aMM w.heap.size w2.heap.size w) (λ_ _ _=>False) (aMM.I7 (by simp) (by have:=ao a.o;simp;omega) rfl) (λ_ _ _ _ a0 _=>a0) ⟨u,h0,HB.o.alloc HB.o.size _⟩
  (λd x a1 W=>a1={tmps:=(Q (I ⟨w.heap.size,0,O⟩)::(bs (bu 66) #[] #[Q o,Q r])::dh::Q w2::Q x.q::x.e::h::h::(bw #[(bs (bu 66) #[] #[Q o,Q r]),dh])::(U (I ⟨w.heap.size+1,0,O⟩) 11 11)::(U (I ⟨w.heap.size+1,0,O⟩) 11 11)::(bw #[(bs (bu 66) #[] #[Q o,Q r]),dh])::(bs (bu 66) #[] #[Q o,Q r])::dh::dh::E ai::E ai::(bs (bu 66) #[] #[Q o,Q r])::E ai::E ai::(bs (bu 66) #[] #[Q o,Q r])::Q x.q::x.e::h::h::h::h::h::h::h::h::h::h::h::h::h::h::h::h::h::h::h::h::h::h::h::h::h::h::h::h::h::h::h::h::([]:List ac)).toArray,defers:= []}/\aMM w.heap.size w2.heap.size w d W/\aNo [cj (.num 4607182418800017408),.error (95,6),cj (.text [97])] d.length x W) ?minds ?assign ?body ?done (λ_ _ _ _ _ _ a0 _=>a0.elim)
 case minds=>
  rintro d x a1 j C ⟨b,f,g⟩ y;exact⟨b,aMM.I7 (by simp) (by have:=ao a.o;simp;omega) rfl d j C f y,aNo.I7 _ _ _ _ j C g y⟩
 case assign=>
  rintro l d x W K hi z hK;dsimp only[aN0];gi_wp2_with fail;exact hK _ _ (gd _) (ge _) ⟨rfl,hi,z⟩
 case body=>
  rintro l d x a1 W ⟨rfl,⟨hi,z,S⟩,b,B⟩;have V:=A hi;have X:w.heap.size≠w2.heap.size:=by have:=ao a.o;omega
  obtain⟨k,y⟩:∃k,d.length=k:=⟨_,rfl⟩;have g:(d++ [x]).length=k+1:=by rw[cn,y];rfl
  have j:=A g;have h6:=A y
  have t:∀W',W'=W.setCell w2 (J Z ((k+1:Nat):Int))->gh W W'/\aMB W W'/\aMM w.heap.size w2.heap.size w (d++ [x]) W':=by
   rintro W' rfl;refine⟨gj _ _ _,aNN hi (bp rfl) _,?_,?_,?_⟩
   .rw[g];exact aB hi _
   .exact(aE _ (by exact X)).trans z
   .exact S.setCell (p:=w2) (by have:=ao a.o;show w.heap.size<=w2.heap.size;omega) _
  have f:=A t;rw[y]at hi b;obtain⟨q,e,it⟩:=x;have m:W.cell? w2=I (J Z k):=av hi;have h4:W.frozen? w2=ai:=dp hi;clear hi z S t g y X
  match k,b with
  | 0,b=>
   cases b;obtain⟨g,T,v,t,_,_⟩:=B;cases t;simp only[]at g;subst g;clear b j;gi_wp2_with fail;exact f.o _ rfl
  | 1,b=>
   cases b;obtain⟨t,g⟩:=B;cases t;simp only[]at g;subst g;have m:W.cell? w2=I (J Z 1):=m;have hm:∀w,(gk (bm 151 (cw #[J Z 95,J Z 6])) 26 151 af).run ag w=cg (bw #[cw #[J Z 95,J Z 6],E af]) w:=λ_=>(by kernel_rfl);clear b j;rw[show cU 95 6=bm 151 (cw #[J Z 95,J Z 6])from rfl]at f⊢;have u:=ao (V.o);have c:=aL W (Y #[J Z 95,J Z 6] 151);have x1:(W.alloc (Y #[J Z 95,J Z 6] 151)).cell? ⟨W.heap.size,1,O⟩=I (J Z 6):=aA c;have y:(W.alloc (Y #[J Z 95,J Z 6] 151)).cell? w2=I (J Z 1):=((ar (λ_=>False) W).A5 _).B6 m id;have X:(W.alloc (Y #[J Z 95,J Z 6] 151)).frozen? w2=ai:=dp ((de _ _ _ u).trans V.o);clear c m h4;gi_wp2_with fail;obtain⟨g1,g2,c,g4,g5⟩:=f.o _ rfl;exact⟨g1.trans (iv _ _),g2.trans (aNp _ _),(de _ _ _ (ao c)).trans c,(de _ _ _ (ao g4)).trans g4,g5.alloc g5.size _⟩
  | 2,b=>
   cases b;obtain⟨g,T,v,t,_,_⟩:=B;cases t;simp only[]at g;subst g;clear b j;gi_wp2_with fail;exact f.o _ rfl
  | k+3,b=>simp at b
 case done=>
  rintro D X W d t ⟨hi,z,S⟩ hK;have y:X.length=3:=by have:=congrArg gl t;simpa using this
  rw[y]at hi;have m:W.cell? w2=I (J Z 3):=av hi;have B:W.cell? ⟨w.heap.size,0,O⟩=I (E ai):=av z;have V:W.frozen? ⟨w.heap.size,0,O⟩=ai:=dp z;have f:=A S;have g:=A z;have j:=A hK;have b:=A d;clear hi z S t y hK d;gi_wp2_with fail;refine⟨by simp,bp ⟨_,_,rfl,gm ((gj _ _ _).same D _ j.o rfl),?_⟩⟩;have t:(W.setCell ⟨w.heap.size,0,O⟩ (E af)).heap[w.heap.size]?=I (Y #[E af] 4 (0,0)):=aB g.o _
  have y:((W.setCell ⟨w.heap.size,0,O⟩ (E af)).putObj D (co O)).heap[w.heap.size]?=I (Y #[E af] 4 (0,0)):=
   (gn (by have a0:=b.o;rw[my]at a0;have:=ao a.o;omega)).trans t
  have z:=av y;refine⟨_,(by simp[dw,results24,go_sem,z]),rfl,?_⟩;have d:=f.o.setCell (p:=⟨w.heap.size,0,O⟩) (hU _) (E af);exact d.trans ((aML (F:=λk=>k=D) (co O) rfl).A6 d.size (λk e=>by subst e;have a0:=b.o;rw[my]at a0;have:=ao a.o;omega))
end
def cK.at{e:Nat}{V:ac}{P:List Stp}{i:Nat}(R:cK e w V P)(hi:i<P.length):∃(g off cap:Nat)(x:Int)(B:Bool)(z:Int)(D:ByteArray)(y:Int)(f:Option ak)(p n:Nat),V=U (g,off) P.length cap/\(∀W,ae w w W->
 (W.cell? ⟨g,off+i*6,O⟩=I (J Z x)/\W.cell? ⟨g,off+i*6+1,O⟩=I (E B)/\W.cell? ⟨g,off+i*6+2,O⟩=I (J L z)/\W.cell? ⟨g,off+i*6+3,O⟩=I (aw D)/\W.cell? ⟨g,off+i*6+4,O⟩=I (J Z y)/\W.cell? ⟨g,off+i*6+5,O⟩=I (U f p n)))/\
 (x=P[i].a/\B=P[i].c/\z=P[i].b/\D=⟨P[i].d.toArray⟩/\y=P[i].e/\p=P[i].f.length)/\∀W,ae w w W->Win 9 encS W (U f p n) P[i].f:=by
 obtain⟨d,G,v,C⟩:=R;have F:P[i]?=I P[i]:=bf hi;have t:d[i]?=I (d[i]'(by omega)):=bf (by omega);obtain⟨f,n,r,K⟩:=C i _ _ t F;rw[r]at t;obtain⟨g,off,cap,N⟩:=v.S0 (by omega);subst N
 have k:∀c∈d,c.length=6:=by
  intro c r;obtain⟨j,l⟩:=List.getElem?_of_mem r;have o:j<P.length:=by rw[<-G];exact(bt.1 l).1
  obtain⟨a,m,e,_⟩:=C j c _ l (bf o);rw[e];rfl
 refine⟨g,off,cap,_,_,_,_,_,f,_,n,rfl,λW q=>?_,⟨rfl,rfl,rfl,rfl,rfl,rfl⟩,λW q=>K.A0 (au (λ_=>False) q) λ_ _=>id⟩
 have b:∀(j:Nat)(u:ac),(aId P[i] (U f P[i].f.length n))[j]?=I u->W.cell? ⟨g,off+i*6+j,O⟩=I u:=λj u l=>by
  have s:j<6:=(bt.1 l).1;have:=(v.A0 (au (λ_=>False) q) λ_ _=>id).B6 (j:=i*6+j) (u:=u) (by rw[pH k t s];exact l);rw[fo];exact this
 exact⟨b 0 _ rfl,b 1 _ rfl,b 2 _ rfl,b 3 _ rfl,b 4 _ rfl,b 5 _ rfl⟩
def aKr{a:Option ak}{b:List Oo}(s:Win 9 encS w (U a n c) b){k:Nat}(d:k<b.length):∃g o,a=I ⟨g,o,O⟩/\b.length<=cr/\∀W,ae w w W->W.cell? ⟨g,o+k,O⟩=I (aw ⟨b[k].toArray⟩):=by
 rcases s with⟨_,e⟩|⟨g,off,cap,l,p,i,r,-,m,f⟩
 .rw[e]at d;simp at d
 .injection p with q x2 x3;exact⟨g,off,q,bo (by omega) m,λW j=>(aA (keep i j)).trans (f k _ (bf d))⟩
def aKs{a:H}(b:ae w w a){m j f c e d:ak}{n i k g l o:ac}(q:w.cell? m=I n)(s:w.cell? j=I i)(p:w.cell? f=I k)(u:w.cell? c=I g)(r:w.cell? e=I l)(t:w.cell? d=I o):
 a.cell? m=I n/\a.cell? j=I i/\a.cell? f=I k/\a.cell? c=I g/\a.cell? e=I l/\a.cell? d=I o:=
 ⟨bE b q,bE b s,bE b p,bE b u,bE b r,bE b t⟩
def aNT(w:H)(r x:Option ak)(m p:Nat)(a:List Oo)(t:Win 9 encS w (U r a.length m) a)(s:Win 9 encS w (U x a.length p) a):
 bg ag 123 #[U r a.length m,U x a.length p] w λe w'=>e=az (E af)/\Keeps (λ_=>False) w w':=by
 obtain⟨n,q⟩:∃n,a.length=n:=⟨_,rfl⟩;have y:=A (λk(b:k<a.length)=>And.intro (aKr t b) (aKr s b));have o:=A q;rw[q];clear t s q;go_enter func123,ntmps123;go_wp2;go_loopw [13] (λv wr=>∃i:Nat,v=J Z i/\i<=n/\Keeps (λ_=>False) w wr) (λv _=>n-(ct v).toNat)
 case atStart=>exact⟨0,rfl,dr _,ar _ _⟩
 case round=>
  obtain⟨i,rfl,hi,b⟩:=hrel;have g:=A b;by_cases d:i<n
  .have z:(i:Int)<(n:Int):=(by omega);have C:(0:Int)<=(i:Int):=(by omega);obtain⟨⟨g1,o1,rfl,c,l⟩,⟨B,o2,rfl,-,f⟩⟩:=y.o i (by rw[o.o];exact d);have c1:=b.B6 (l w (dk _ _)) id;have c2:=b.B6 (f w (dk _ _)) id;obtain⟨S,u⟩:∃S:ByteArray,(⟨(a[i]'(by rw[o.o];exact d)).toArray⟩:ByteArray)=S:=⟨_,rfl⟩;rw[u]at c1 c2;have j:n<=cr:=(by rw[<-o.o];exact c);have D:Z.wrap ((i:Int)+1)=(i:Int)+1:=(by rw[b9];unfold cr at j;omega);clear b l f c u j;go_wp2;go_quiet (fail);go_wp2;go_roundw
   case rel=>exact⟨i+1,by go_num,by omega,g.o.K9 rfl rfl rfl rfl⟩
   case measure=>simp[ct];omega
  .have z:¬(i:Int)<(n:Int):=(by omega);clear b;go_wp2;go_ret;exact⟨rfl,g.o⟩
def aNU(w:H)(s:Stp)(a b:Option ak)(m p:Nat)(i:Win 9 encS w (U a s.f.length m) s.f)(c:Win 9 encS w (U b s.f.length p) s.f):
 bg ag 99 #[cw #[s.a,s.c,J L s.b,aw ⟨s.d.toArray⟩,s.e,U a s.f.length m],cw #[s.a,s.c,J L s.b,aw ⟨s.d.toArray⟩,s.e,U b s.f.length p]] w λe w'=>e=az (E af)/\ae w w w':=by
 obtain⟨r,v,u,q,t,d⟩:=s;obtain⟨S,k⟩:∃S:ByteArray,(⟨q.toArray⟩:ByteArray)=S:=⟨_,rfl⟩;simp only[k]at*;have l:=A (λ(W:H)(f:ae w w W)=>aNT W a b m p d (i.A0 (au (λ_=>False) f) λ_ _=>id) (c.A0 (au (λ_=>False) f) λ_ _=>id));obtain⟨n,j⟩:∃n,d.length=n:=⟨_,rfl⟩;rw[j]at l⊢;clear i c k j;go_enter func99,ntmps99;go_wp2_with fail;refine(l.o _ (((dk w w).alloc (hU _) _).alloc (by simp) _)).mono ?_;rintro e w2 ⟨rfl,g⟩;have o:=A ((((dk w w).alloc (hU _) _).alloc (by simp) _).trans (g.A6 (n:=w.heap.size) (by simp;omega) λ_=>gp));clear g;go_wp2;go_ret;exact⟨rfl,o.o⟩
def aOc(w:H)(m o:ac)(j:List Stp)(a:cK 147 w m j)(b:cK 147 w o j)(B:j.length<=1048576):
 bg ag 97 #[m,o,bs (bu 99) #[] #[]] w λe w'=>e=az (E af)/\ae w w w':=by
 obtain⟨a1,c1,rfl⟩:=a.A8;obtain⟨a2,c2,rfl⟩:=b.A8;obtain⟨n,c⟩:∃n,j.length=n:=⟨_,rfl⟩;have C:=A a;have D:=A b;have F:=A c;rw[c]at B⊢;clear a b c;go_enter func97,ntmps97;go_wp2;go_loopw [17] (λv wr=>∃i:Nat,v=J Z i/\i<=n/\M (ae w w wr)) (λv _=>n-(ct v).toNat)
 case atStart=>exact⟨0,rfl,dr _,A (dk _ _)⟩
 case round=>
  obtain⟨i,rfl,hi,f⟩:=hrel;by_cases k:i<n
  .have G:(i:Int)<(n:Int):=(by omega);have i0:(0:Int)<=(i:Int):=(by omega);have a:i<j.length:=(by rw[F.o];exact k);obtain⟨g,off,cap,K,N,P,R,T,p,V,q,X,d,⟨rfl,rfl,rfl,rfl,rfl,rfl⟩,l⟩:=C.o.at a;obtain⟨g2,r,t,K,N,P,R,T,u,V,x,q2,b,⟨rfl,rfl,rfl,rfl,rfl,rfl⟩,c⟩:=D.o.at a;injection X with z1 _ z3;injection q2 with z4 _ z6;subst z1;subst z3;subst z4;subst z6;obtain⟨x0,x1,x2,x3,x4,x5⟩:=d wr f.o;have y:=A (λ(W:H)(z:ae w w W)=>aNU W j[i] p u q x (l W z) (c W z));have i1:Z.wrap ((i:Int)+1)=(i:Int)+1:=(by rw[b9];omega);clear d l c;generalize j[i]=s at*;obtain⟨S,l⟩:∃S:ByteArray,(⟨s.d.toArray⟩:ByteArray)=S:=⟨_,rfl⟩;rw[l]at x3 y;simp only[l]at b;have c:ae w w (wr.alloc (Y #[s.a,s.c,J L s.b,S,s.e,U p s.f.length q] 147)):=f.o.alloc f.o.size _;obtain⟨y0,y1,y2,y3,y4,y5⟩:=b _ c;have d:=A c;clear a b c l;go_wp2_with fail;have a:=A (d.o.alloc d.o.size (Y #[s.a,s.c,J L s.b,S,s.e,U u s.f.length x] 147));refine(y.o _ a.o).mono ?_;rintro e l ⟨rfl,b⟩;have c:=A (chain a.o b);clear b;go_wp2;go_roundw
   case rel=>exact⟨i+1,by go_num,by omega,c⟩
   case measure=>simp[ct];omega
  .have G:¬(i:Int)<(n:Int):=(by omega);go_wp2;go_ret;exact⟨rfl,f.o⟩
def jD(r:Rr):Prop:=(∀f∈r.e,∀t∈f.c,Small t)/\Small r.done
def jD.C5(k:jD r)(j:Small t):jD (r.C5 t):=by
 rcases lp r.e with c|⟨i,f,c⟩
 .unfold Rr.C5;rw[c];exact⟨λf d=>(by simp at d),j⟩
 .rw[ls]at c;have d:=k.1;rw[c]at d;have e:r.C5 t={r with e:=i++ [{f with c:=f.c++ [t]}],b:=5}:=by unfold Rr.C5;rw[c];simp
  rw[e];refine⟨λg b u a=>?_,k.2⟩;rcases mj.1 b with b|b
  .exact d g (ly _ b) u a
  .simp at b;subst b;rcases mj.1 a with a|a
   .exact d f (by simp) u a
   .simp at a;subst a;exact j
def jD.D4{b:Rr}(c:jD r)(a:r.D4 d=cj b):jD b:=by
 unfold Rr.D4 at a
 repeat' (first|(injection a with a;subst a;exact c)|(cases a;done)|split at a)
def jD.L8{a:List RFr}{f:RFr}(s:jD r)(m:ROk r d)(c:r.e=a++ [f])(p:f.object=af->r.b=5\/r.b=2):jD r.L8:=by
 rw[aKJ c];have j:=s.1;rw[c]at j;refine jD.C5 (r:={r with e:=a}) ⟨λg e=>j g (ly _ e),s.2⟩ ?_;have i:=m.a.c f (by rw[c];simp);have b:=j f (by simp);unfold madeOf;cases n:f.object with
 | false=>exact .list _ i b
 | true=>
  obtain⟨q,-,-⟩:=m.e a f c n (p n);have o:(dC f.a).length=f.a.length:=(fL f.a).length_eq;refine .object _ _ (by unfold besides;simp) (by unfold besides;simp;omega) λt l=>?_;unfold besides at l;obtain⟨k,_,rfl⟩:=ni.1 l;rw[List.getD_eq_getElem?_getD];cases e:f.c[f.a.idxOf k]? with
  | none=>exact .null
  | some u=>exact b u (lx e)
def jD.R6{j:Rr}{p:Pc (Oo×Nat)}(l:jD r)(b:jS r p=.on n j):jD j:=by
 cases p with
 | cut=>cases b
 | bad no a=>cases b
 | ok x=>
  obtain⟨s,m⟩:=x;unfold jS at b;simp only at b;split at b
  .cases b
  .split at b
   .cases b
   .split at b
    .injection b with _ b;subst b;rcases lp r.e with d|⟨k,f,d⟩
     .unfold Rr.N1;rw[d];exact⟨λf e=>(by simp at e),l.2⟩
     .rw[ls]at d;have e:=l.1;rw[d]at e;rw[aKM d];refine⟨λg c u i=>?_,l.2⟩;rcases mj.1 c with c|c
      .exact e g (ly _ c) u i
      .simp at c;subst c;exact e f (by simp) u i
    .injection b with _ b;subst b;exact jD.C5 (r:={r with bytes:=r.bytes+s.length}) l (.text s)
def jD.B5{p:Rr}{c:UInt8}{t:Oo}(x:jD r)(s:ROk r d)(a:r.B5 d c t=.on n p):jD p:=by
 unfold Rr.B5 at a;split at a
 .unfold Rr.C7 at a;split at a
  .unfold dy at a;split at a
   .cases a
   .rename_i k b;injection a with _ a;subst a;have o:=x.D4 b;refine⟨λg e u m=>?_,o.2⟩;rcases mj.1 e with e|e
    .exact o.1 g e u m
    .simp at e;subst e;simp at m
  .split at a
   .injection a with _ a;subst a;exact x
   .split at a
    .injection a with _ a;subst a;exact x
    .split at a
     .injection a with _ a;subst a;exact x
     .split at a
      .rename_i j;injection a with _ a;subst a;rcases lp r.e with i|⟨q,f,i⟩
       .unfold gr Rr.E4 at j;rw[i]at j;simp at j
       .rw[ls]at i;refine x.L8 s i λw=>?_;rcases j with⟨_,l,_⟩|⟨_,_,v⟩
        .unfold gr at l;rw[i]at l;simp[w]at l
        .exact v
      .cases a
 .split at a
  .unfold Rr.E7 at a;split at a
   .exact x.R6 a
   .unfold dy at a;split at a
    .cases a
    .rename_i k b;exact(x.D4 b).R6 a
  .split at a
   .unfold Rr.M8 dy at a;split at a
    .cases a
    .rename_i k b
     repeat' (first|(injection a with _ a;subst a;refine(x.D4 b).C5 ?_;unfold jE;(repeat' split)<;>constructor;done)|(cases a;done)|split at a)
   .split at a
    .unfold Rr.L4 dy at a;split at a
     .cases a
     .rename_i k b
      repeat' (first|(injection a with _ a;subst a;exact(x.D4 b).C5 (.num _))|(cases a;done)|split at a)
    .cases a
def rL(j:d<=512):∀(N:Nat){l:Oo}{p:Ps}{r:Rr}{i:Nat}{t:Tr},l.length<=N->Alike p r d i->i+l.length<=16777216->jD r->fe d r i l=cj t->Small t
 | _,[],p,r,i,t,_,_,_,v,b=>by
  rw[fe]at b;split at b
  .injection b with b;rw[<-b];exact v.2
  .cases b
 | 0,_::_,_,_,_,_,m,_,_,_,_=>by simp at m
 | N+1,c::l,p,r,i,t,m,k,o,v,b=>by
  rw[fe]at b;simp only[cv]at m o;by_cases g:aI c=af
  .rw[pz g]at b;obtain⟨p',e⟩:=vU k g (by omega);exact rL j N (by omega) e (by omega) v b
  .rw[py g]at b;cases f:r.B5 d c l with
   | cut=>rw[f]at b;cases b
   | bad no a=>rw[f]at b;cases b
   | on n u=>
    rw[f]at b;obtain⟨s,q,p',e⟩:=zV (en:=af) (t:=l) (c:=c) k (by simpa using g) (by omega) (by rw[rK];exact f);exact rL j N (by rw[ea];omega) e (by rw[ea];omega) (v.B5 (aBn k j) f) b
def aAD(a:d<=512)(c:l.length<=16777216)(e:jR l d=cj t):Small t:=
 rL a l.length (hU _) (uW a) (by omega) ⟨λf b=>by simp at b,.null⟩ e
def aEs{l:List Tr}(f:∀t∈l,t.F3.length=t.A9.g):(dX l).length=jJ l:=by
 induction l with
 | nil=>rfl
 | cons a l c=>
  have b:jJ (a::l)=a.A9.g+jJ l:=rfl;have e:dX (a::l)=a.F3++dX l:=by unfold dX;simp
  rw[b,e,cn,f a (fi ..),c λt d=>f t (jv _ d)]
def aLK(e:Small t):t.F3.length=t.A9.g:=by
 induction e with
 | null=>simp[du,dv]
 | flag b=>simp[du,dv]
 | num x=>simp[du,dv]
 | text s=>simp[du,dv]
 | list l c e a=>rw[tD,gU,(iM 0 l).1,cn,aEs a,ki,lw]
 | object keys l d c e a=>rw[nE,hZ,(iM _ l).1,cn,aEs a,ki,lw]
def aAE{x y:Ps}(f:fF x)(a:x.B7 po=cj y):∀t∈y.c,t.A9.B9=af:=by
 have b:x.B7 po=qV x.d.C0 (gx po {x with d:=x.d.C0.1} x.d.C0.2.1):=rfl;rw[b]at a;cases c:gx po {x with d:=x.d.C0.1} x.d.C0.2.1 with
 | error e=>rw[c]at a;cases a
 | ok z=>
  rw[c]at a;simp only[qV]at a;split at a
  .cases a
  .split at a
   .cases a
   .cases a;exact(pM (f.ps.R2 x.d.C0.1) (λt d=>qT t d) f.O4 c).1.Q6
def aEt(f:d<=512)(j:mP l d=cj t):t.A9.B9=af:=by
 have g:mP l d=oneOf (fh po l d):=rfl;rw[g]at j;cases a:fh po l d with
 | error e=>rw[a]at j;cases j
 | ok y=>
  rw[a]at j;have e:y.c.headD .null=t:=by injection j
  unfold fh at a;cases b:(Ps.E9 d).C4 po l with
  | error e=>rw[b]at a;cases a
  | ok z=>
   rw[b]at a;have c:=aAE ((pN d f).C4 b) a;subst e;cases hi:y.c with
   | nil=>simp[dv,gy]
   | cons u i=>exact c u (by rw[hi];exact fi ..)
def aLL(a:d<=512)(c:l.length<=16777216)(f:jR l d=cj t):Small t/\t.F3.length<=65536:=by
 have e:=aAD a c f;refine⟨e,?_⟩;have b:=aEt a ((aEp a c).trans f);rw[aLK e];unfold gy at b;simp only[Bool.and_eq_true,decide_eq_true_eq]at b;exact b.1.1
def wG(w:H)(a:List Stp)(i:Nat)(o:ac)(wr:H):Prop:=cK 147 wr o (a.take i)/\ae w w wr/\∀k,o.ownBlock=I k->w.heap.size<=k
def yB(i:Small t):∀s∈t.F3,s.f.length<=65536:=by
 have c:∀{l:List Tr},(∀t∈l,∀s∈t.F3,s.f.length<=65536)->∀s∈dX l,s.f.length<=65536:=λb s a=>by
  obtain⟨x,f,a⟩:=List.mem_flatten.1 a;obtain⟨t,e,rfl⟩:=ni.1 f;exact b t e s a
 induction i with
 | list l d i b=>
  intro s a;rw[tD]at a;rcases mj.1 a with a|a
  .exact c b s a
  .simp at a;subst a;exact dr _
 | object keys l g d i b=>
  intro s a;rw[nE]at a;rcases mj.1 a with a|a
  .exact c b s a
  .simp at a;subst a;show keys.length<=_;omega
 | _=>intro s a;simp[du]at a;subst a;exact dr _
def yC(w:H)(b:Nat)(i:w.heap.size=b)(f d c a g e:ac)(T:dt):∀(j:Nat)(u:ac),[f,d,c,a,g,e][j]?=I u->(w.alloc (Y #[f,d,c,a,g,e] T)).cell? ((⟨b,0,O⟩:ak).add j)=I u/\(w.alloc (Y #[f,d,c,a,g,e] T)).drew.cell? ((⟨b,0,O⟩:ak).add j)=I u:=by
 subst i;exact λj u k=>⟨lU w f d c a g e T j u k,lU w f d c a g e T j u k⟩
def lQ{e d c a f g:ac}{T:dt}(m:w.heap[b]?=I (Y #[e,d,c,a,f,g] T (0,0))):w.cell? b=I e/\w.cell? ⟨b,1,O⟩=I d/\w.cell? ⟨b,2,O⟩=I c/\w.cell? ⟨b,3,O⟩=I a/\w.cell? ⟨b,4,O⟩=I f/\w.cell? ⟨b,5,O⟩=I g:=by
 obtain⟨k,c1,c2,i,l,j,_⟩:=bJ m;exact⟨k,c1,c2,i,l,j⟩
def wG.N3{wr v:H}{C:List Stp}{i:Nat}{f:Option ak}{s:Stp}{K p:ac}{a:List (List ac)}(D:wG w C i (U f i b) wr)(t:a.length=(C.take i).length)(l:aQ 6 147 wr (U f i b) i a.flatten)(q:∀(j:Nat)(c:List ac)(s:Stp),a[j]?=I c->(C.take i)[j]?=I s->nK wr c s)
 (g:(C.take i).length=i)(n:C.take (i+1)=C.take i++ [s])(o:Keeps (λ_=>False) wr W)(y:nK W (aId s K) s)(r:aQ 6 147 v p (i+1) (a.flatten++aId s K))(u:∀k,p.ownBlock=I k->(U f i b).ownBlock=I k\/wr.heap.size<=k)(d:Keeps (λk=>(U f i b).ownBlock=I k) W v):wG w C (i+1) p v:=by
 obtain⟨_,m,x⟩:=D;refine⟨?_,m.trans (((o.mono λ_ D=>D.elim).trans d λk D=>bp D).A6 m.size x),λk e=>(u k e).elim (x k) λD=>bo m.size D⟩;rw[n];exact cK.L7 (w:=W) (V:=U f i b) (by decide) t (by rw[g];exact l.A0 o λ_ _=>id) (λj c s B z=>(q j c s B z).A0 o λ_ _ _=>id) y d (by rw[g];exact r)
def pP(w:H)(t:Tr)(c:Small t)(i4:t.F3.length<=65536)(G:Nat->Prop)
 (so:Int)(fl:Bool)(bi:Nat)(tx:ByteArray)(a:Option ak)(n m:Nat)(b:Option ak)(p q:Nat)(f:ValAt G w (eQ so fl bi tx (U a n m) (U b p q)) t):
 bg ag 98 #[cw #[so,fl,J L bi,tx,U a n m,U b p q]] w λe w'=>∃V,e=az V/\cK 147 w' V t.F3/\ae w w w'/\∀k,V.ownBlock=I k->w.heap.size<=k:=by
 have d:=A (λ(W:H)(hW:ae w w W)=>aAt c G W so fl bi tx a n m b p q (f.A0 (au (λ_=>False) hW) λ_ _ _ a0=>a0.elim) (by omega));have j2:=A (yB c);obtain⟨a1,l⟩:∃a1,t.F3=a1:=⟨_,rfl⟩;rw[l]at d i4 j2⊢;clear l f c;go_enter func98,ntmps98;go_wp2_with fail;refine(d.o _ ((dk w w).alloc (hU _) _)).mono ?_;rintro e w2 ⟨V,rfl,hs,hb,ho⟩;obtain⟨va,vc,rfl⟩:=hs.A8;have HS:=A hs;have HO:=A ho;have HB:=A (chain ((dk w w).alloc (hU _) (Y #[so,fl,J L bi,tx,U a n m,U b p q] 34)) hb);obtain⟨ln,c⟩:∃ln,a1.length=ln:=⟨_,rfl⟩;have i7:=A c;rw[c]at i4⊢;have j8:=A (show wG w2 a1 0 (U O 0 0) w2 from⟨cK.nil _ _,dk _ _,λk e=>by cases e⟩);clear hs ho hb c d;go_wp2;go_loopw [4,5] (λo v wr=>∃i:Nat,v=J Z i/\i<=ln/\M (wG w2 a1 i o wr)) (λ_ v _=>ln-(ct v).toNat)
 case atStart=>exact⟨0,rfl,dr _,j8⟩
 case round=>
  obtain⟨i,rfl,hi,HI⟩:=hrel;obtain⟨hs,hb,ho⟩:=HI.o;have c:(a1.take i).length=i:=by rw[List.length_take,i7.o];omega
  obtain⟨oa,oc,e0⟩:=hs.A8;rw[c]at e0;subst e0;have j3:=A c;clear c;by_cases j9:i<ln
  .have e1:(i:Int)<(ln:Int):=(by omega);have i0:(0:Int)<=(i:Int):=(by omega);have d:i<a1.length:=(by rw[i7.o];exact j9);obtain⟨g,off,cap,k6,k7,k8,k9,l0,ka,c,z,q1,r,⟨rfl,rfl,rfl,rfl,rfl,rfl⟩,y⟩:=HS.o.at d;injection q1 with z1 _ z3;subst z1;subst z3;obtain⟨x0,x1,x2,x3,x4,x5⟩:=r wr hb;have i8:=A (y wr hb);have f:=List.take_succ_eq_append_getElem d;have k0:=j2.o _ (ph d);generalize l:a1[i]=s at*;obtain⟨S,hS⟩:∃S:ByteArray,(⟨s.d.toArray⟩:ByteArray)=S:=⟨_,rfl⟩;rw[hS]at x3;have k1:=A f;have k2:=A hS;clear r y d hb ho hS f l;obtain⟨i2,j1,f,j4⟩:=hs;rw[j3.o]at f;obtain⟨c,C⟩:∃c,s.f.length=c:=⟨_,rfl⟩;have i1:=A C;have N:=i8.o;rw[C]at x5 N k0
   have i5:=A (λ(W:H)(g1 o1 l:Nat)(k3:wr.heap.size<W.heap.size)(D:Keeps (λ_=>False) wr W)(T:aQ 1 9 W (U (I ⟨g1,o1,O⟩) c l) c (s.f.map encS))=>
    show aQ 6 147 W (U oa i oc) i i2.flatten/\∀B X p5 d,aQ 6 147 d (U (I ⟨B,X,O⟩) (i+1) p5) (i+1) (i2.flatten++ [J Z s.a,E s.c,J L s.b,aw S,J Z s.e,U (I ⟨g1,o1,O⟩) c l])->
     ((U oa i oc).ownBlock=I B\/(W.heap.size<=B/\B<d.heap.size))->Keeps (λk=>(U oa i oc).ownBlock=I k) W d->wG w2 a1 (i+1) (U (I ⟨B,X,O⟩) (i+1) p5) d/\d.heap[wr.heap.size]?=W.heap[wr.heap.size]? from by
     refine⟨f.A0 D λ_ _=>id,λB X p5 d r F y=>⟨?_,y.block _ k3 λe=>absurd (f.lt e) (Nat.lt_irrefl _)⟩⟩;subst C;rw[<-k2.o]at r;refine HI.o.N3 (s:=s) (K:=U (I ⟨g1,o1,O⟩) s.f.length l) j1 f j4 j3.o k1.o D ⟨_,_,rfl,T.I4⟩ r (λk e=>?_) y;cases e;exact F.imp id λa0=>bo D.size a0.1)
   have i3:=A (show(i+1)*72<=140737488355328/\i+1<=cr from⟨by omega,by unfold cr;omega⟩)
   have P:∀g1 o1 n1 l,∀u∈([J Z s.a,E s.c,J L s.b,aw S,J Z s.e,U (I ⟨g1,o1,O⟩) n1 l]:List ac),u.oneCell'=af:=λg1 o1 n1 l u hu=>by
    simp at hu;rcases hu with rfl|rfl|rfl|rfl|rfl|rfl<;>rfl
   have i6:=A P;have R:=aL wr (Y #[s.a,s.c,J L s.b,S,s.e,U ka c z] 149);have i9:=((ar (λ_=>False) _).A5 (Y #[] 9)).B4 R id;obtain⟨c0,c1,c2,c3,c4,c5,cf⟩:=bJ R;obtain⟨d0,d1,d2,d3,d4,d5,df⟩:=bJ i9
   have j5:((wr.alloc (Y #[s.a,s.c,J L s.b,S,s.e,U ka c z] 149)).alloc (Y #[] 9)).heap[wr.heap.size+1]?=I (Y #[] 9 (0,0)):=by
    have:=aL (wr.alloc (Y #[s.a,s.c,J L s.b,S,s.e,U ka c z] 149)) (Y #[] 9);rwa[my]at this
   have j0:=A j5;have j6:=A i9;clear R i9 j1 f j4 P j5;go_wp2_with fail;by_cases j4:c=0
   focus
    subst j4
    obtain⟨f1,f2⟩:=i5.o (((wr.alloc (Y #[s.a,s.c,J L s.b,S,s.e,U ka 0 z] 149)).alloc (Y #[] 9)).alloc (Y #[s.a,s.c,J L s.b,S,s.e,U (I ⟨wr.heap.size+1,0,O⟩) 0 0] 147)).drew (wr.heap.size+1) 0 0 (by show _<(((wr.alloc _).alloc _).alloc _).heap.size;simp;omega)
     ((((ar (λ_=>False) wr).A5 _).A5 _).A5 _).B0 ⟨by rw[ie.1 i1.o];rfl,bz ⟨_,0,0,#[],rfl,((ar (λ_=>False) _).A5 _).B0.B4 j0.o id,hU _,hU _,dr _,λj u hj=>by rw[ie.1 i1.o]at hj;simp at hj⟩⟩
    have f:=A f1;have HF:=A f2;have P:=A (yC ((wr.alloc (Y #[s.a,s.c,J L s.b,S,s.e,U ka 0 z] 149)).alloc (Y #[] 9)) (wr.heap.size+1+1) (by simp) (J Z s.a) (E s.c) (J L s.b) (aw S) (J Z s.e) (U (I ⟨wr.heap.size+1,0,O⟩) 0 0) 147);have i9:M (aQ 1 9 ((wr.alloc (Y #[s.a,s.c,J L s.b,S,s.e,U ka 0 z] 149)).alloc (Y #[] 9)).drew (U (I ⟨wr.heap.size+1,0,O⟩) 0 0) 0 []):=A ⟨rfl,bz ⟨_,0,0,#[],rfl,j0.o,hU _,hU _,dr _,λj u hj=>by simp at hj⟩⟩;have R:=A (λ(d:H)(a0:d.heap[wr.heap.size]?=((((wr.alloc (Y #[s.a,s.c,J L s.b,S,s.e,U ka 0 z] 149)).alloc (Y #[] 9)).alloc (Y #[s.a,s.c,J L s.b,S,s.e,U (I ⟨wr.heap.size+1,0,O⟩) 0 0] 147)).drew).heap[wr.heap.size]?)=>lQ (a0.trans (((ar (λ_=>False) _).A5 _).B0.B4 j6.o id)));clear f1 f2
    go_region_held3 (λw'=>w'.cell? ⟨wr.heap.size,0,O⟩=I (J Z s.a)/\w'.cell? ⟨wr.heap.size,1,O⟩=I (E s.c)/\w'.cell? ⟨wr.heap.size,2,O⟩=I (J L s.b)/\w'.cell? ⟨wr.heap.size,3,O⟩=I (aw S)/\w'.cell? ⟨wr.heap.size,4,O⟩=I (J Z s.e)/\w'.cell? ⟨wr.heap.size,5,O⟩=I (U ka 0 z)) (first|with_reducible exact hS|go_keep) (first
     | (refine aMR sX rfl _ _ rfl rfl i9.o ka z (by rfl) ?_)
     | (refine bP aBW rfl _ _ rfl rfl f.o ⟨wr.heap.size+1+1,0,O⟩ 1 1 [J Z s.a,E s.c,J L s.b,aw S,J Z s.e,U (I ⟨wr.heap.size+1,0,O⟩) 0 0] (by rfl) (by rfl) (λj u a0=>(P.o j u a0).2) (i6.o _ _ _ _) (by decide) i3.o.1 i3.o.2 ?_;intro B X p5 d r F y;have hF:=HF.o B X p5 d r F y;have hS:=R.o d hF.2))
   rotate_left
   focus
    obtain⟨P,R,rfl⟩:∃P R,ka=I ⟨P,R,O⟩:=by
     rcases i8.o with⟨e,a0⟩|⟨P,R,_,_,e,_⟩
     .rw[a0]at i1;exact absurd i1.o.symm j4
     .injection e with e;exact⟨P,R,e⟩
    have i9:M (aQ 1 9 ((wr.alloc (Y #[s.a,s.c,J L s.b,S,s.e,U (I ⟨P,R,O⟩) c z] 149)).alloc (Y #[] 9)).drew (U (I ⟨wr.heap.size+1,0,O⟩) 0 0) 0 []):=A ⟨rfl,bz ⟨_,0,0,#[],rfl,j0.o,hU _,hU _,dr _,λj u hj=>by simp at hj⟩⟩;have C:=i1.o;have k4:=A (show(s.f.map encS).length=c*1 by rw[kt,C,nd]);have N:=i8.o;rw[C]at N;have j5:=A (show(0+c)*16<=140737488355328/\0+c<=cr from⟨by omega,by unfold cr;omega⟩)
    have k5:=A (show ∀j u,(s.f.map encS)[j]?=I u->((wr.alloc (Y #[s.a,s.c,J L s.b,S,s.e,U (I ⟨P,R,O⟩) c z] 149)).alloc (Y #[] 9)).drew.cell? ((⟨P,R,O⟩:ak).add j)=I u from λj u hj=>by
     have a0:=((N.A0 ((((ar (λ_=>False) wr).A5 (Y #[s.a,s.c,J L s.b,S,s.e,U (I ⟨P,R,O⟩) c z] 149)).A5 (Y #[] 9)).B0) λ_ _=>id).Q3);rw[C]at a0;rw[mi];exact a0.B6 hj)
    have j7:=A (show ∀u∈s.f.map encS,u.oneCell'=af from λu hu=>by
     obtain⟨x,_,rfl⟩:=ni.1 hu;rfl)
    have HX:=A (λ(g1 o1 l:Nat)(f:H)(T:aQ 1 9 f (U (I ⟨g1,o1,O⟩) (0+c) l) (0+c) ([]++s.f.map encS))(D:Keeps (λk=>(U (I ⟨wr.heap.size+1,0,O⟩) 0 0).ownBlock=I k) ((wr.alloc (Y #[s.a,s.c,J L s.b,S,s.e,U (I ⟨P,R,O⟩) c z] 149)).alloc (Y #[] 9)).drew f)=>
     show(f.cell? ⟨wr.heap.size,0,O⟩=I (J Z s.a)/\f.cell? ⟨wr.heap.size,1,O⟩=I (E s.c)/\f.cell? ⟨wr.heap.size,2,O⟩=I (J L s.b)/\f.cell? ⟨wr.heap.size,3,O⟩=I (aw S)/\f.cell? ⟨wr.heap.size,4,O⟩=I (J Z s.e)/\f.cell? ⟨wr.heap.size,5,O⟩=I (U (I ⟨P,R,O⟩) c z))/\aQ 6 147 (f.alloc (Y #[s.a,s.c,J L s.b,S,s.e,U (I ⟨g1,o1,O⟩) c l] 147)) (U oa i oc) i i2.flatten/\(∀j u,([J Z s.a,E s.c,J L s.b,aw S,J Z s.e,U (I ⟨g1,o1,O⟩) c l]:List ac)[j]?=I u->(f.alloc (Y #[s.a,s.c,J L s.b,S,s.e,U (I ⟨g1,o1,O⟩) c l] 147)).cell? ((⟨f.heap.size,0,O⟩:ak).add j)=I u)/\∀B X p5 d,aQ 6 147 d (U (I ⟨B,X,O⟩) (i+1) p5) (i+1) (i2.flatten++ [J Z s.a,E s.c,J L s.b,aw S,J Z s.e,U (I ⟨g1,o1,O⟩) c l])->
      ((U oa i oc).ownBlock=I B\/((f.alloc (Y #[s.a,s.c,J L s.b,S,s.e,U (I ⟨g1,o1,O⟩) c l] 147)).heap.size<=B/\B<d.heap.size))->Keeps (λk=>(U oa i oc).ownBlock=I k) (f.alloc (Y #[s.a,s.c,J L s.b,S,s.e,U (I ⟨g1,o1,O⟩) c l] 147)) d->wG w2 a1 (i+1) (U (I ⟨B,X,O⟩) (i+1) p5) d/\d.cell? ⟨wr.heap.size,0,O⟩=I (J Z s.a)/\d.cell? ⟨wr.heap.size,1,O⟩=I (E s.c)/\d.cell? ⟨wr.heap.size,2,O⟩=I (J L s.b)/\d.cell? ⟨wr.heap.size,3,O⟩=I (aw S)/\d.cell? ⟨wr.heap.size,4,O⟩=I (J Z s.e)/\d.cell? ⟨wr.heap.size,5,O⟩=I (U (I ⟨P,R,O⟩) c z)from by
      rw[jw,mq]at T;have j1:f.heap[wr.heap.size]?=_:=D.B4 j6.o (λe=>by simp[ik]at e);have N:Keeps (λ_=>False) wr f:=((((ar (λ_=>False) wr).A5 (Y #[s.a,s.c,J L s.b,S,s.e,U (I ⟨P,R,O⟩) c z] 149)).A5 (Y #[] 9)).B0).trans D (λk a0=>bz (by simp[ik]at a0;omega));have l1:=ao j1;obtain⟨f1,f2⟩:=i5.o (f.alloc (Y #[s.a,s.c,J L s.b,S,s.e,U (I ⟨g1,o1,O⟩) c l] 147)) g1 o1 l (by simp;omega) (N.A5 _) (T.A0 ((ar (λ_=>False) f).A5 _) λ_ _=>id);refine⟨lQ j1,f1,lU f _ _ _ _ _ _ 147,λB X p5 d r F y=>?_⟩;obtain⟨f3,f4⟩:=f2 B X p5 d r F y;exact⟨f3,lQ (f4.trans (((ar (λ_=>False) f).A5 _).B4 j1 id))⟩)
    clear C N
    go_region_held3 (λw'=>w'.cell? ⟨wr.heap.size,0,O⟩=I (J Z s.a)/\w'.cell? ⟨wr.heap.size,1,O⟩=I (E s.c)/\w'.cell? ⟨wr.heap.size,2,O⟩=I (J L s.b)/\w'.cell? ⟨wr.heap.size,3,O⟩=I (aw S)/\w'.cell? ⟨wr.heap.size,4,O⟩=I (J Z s.e)/\w'.cell? ⟨wr.heap.size,5,O⟩=I (U (I ⟨P,R,O⟩) c z)) (first|with_reducible exact hS|go_keep) (first
     | (refine bP sX rfl _ _ rfl rfl i9.o ⟨P,R,O⟩ c z (s.f.map encS) (by rfl) k4.o k5.o j7.o (by omega) j5.o.1 j5.o.2 ?_;intro g1 o1 l f T N D;have C:=HX.o g1 o1 l f T D;have hS:=C.1)
     | (refine bP aBW rfl _ _ rfl rfl C.2.1 ⟨f.heap.size,0,O⟩ 1 1 [J Z s.a,E s.c,J L s.b,aw S,J Z s.e,U (I ⟨g1,o1,O⟩) c l] (by rfl) (by rfl) C.2.2.1 (i6.o _ _ _ _) (by decide) i3.o.1 i3.o.2 ?_;intro B X p5 d r F y;have hF:=C.2.2.2 B X p5 d r F y;have hS:=hF.2))
   all_goals
    have d:=A hF.1;clear r F y hF hS;go_wp2;go_roundw
    case rel=>exact⟨i+1,by go_num,by omega,d⟩
    case measure=>simp[ct];omega
  .have e1:¬(i:Int)<(ln:Int):=(by omega);obtain rfl:i=ln:=(by omega);rw[show a1.take i=a1 by rw[<-i7.o,List.take_length]]at hs;have HX:=A (And.intro hs (And.intro hb ho));clear hs hb ho;go_wp2;go_ret;exact⟨_,rfl,HX.o.1,HB.o.trans (HX.o.2.1.mono HB.o.size),λk e=>bo HB.o.size (HX.o.2.2 k e)⟩
def wN(w:H)(u:Nat)(T:dt)(x:ac)(F G:Nat->Prop)(t:Tr)(l:Small t)(f:t.F3.length<=65536)(d:w.heap[u]?=I (Y #[bm T x] 176 (0,0)))(r:cS F w (bm T x) t)
 (g:Int)(i:Bool)(j:Nat)(k:ByteArray)(a:Option ak)(n m:Nat)(b:Option ak)(p q:Nat)(v:ValAt G w (eQ g i j k (U a n m) (U b p q)) t):
 bg ag 68 #[Q u,cw #[g,i,J L j,k,U a n m,U b p q]] w λe w'=>e=az (E af)/\ae w w w':=by
 have B:=A (λ(W:H)(s:ae w w W)=>aAs l F W u T x (keep d s) (r.A0 (au (λ_=>False) s) λ_ _=>id) (by omega));have C:=A (λ(W:H)(s:ae w w W)=>pP W t l f G g i j k a n m b p q (v.A0 (au (λ_=>False) s) λ_ _ _ X=>X.elim));have c:=aL w (Y #[g,i,J L j,k,U a n m,U b p q] 34);have o:=A ((dk w w).alloc (hU _) (Y #[g,i,J L j,k,U a n m,U b p q] 34));obtain⟨K,c1,c2,N,P,R,-⟩:=bJ c;clear c d r v;obtain⟨S,c⟩:∃S,t.F3=S:=⟨_,rfl⟩;rw[c]at B C f;have v:=A (m8 o.o);clear c;go_enter func68,ntmps68;go_wp2
 go_region_held3 (λw'=>w'.cell? w=I (J Z g)/\w'.cell? ⟨w.heap.size,1,O⟩=I (E i)/\w'.cell? ⟨w.heap.size,2,O⟩=I (J L j)/\w'.cell? ⟨w.heap.size,3,O⟩=I (aw k)/\w'.cell? ⟨w.heap.size,4,O⟩=I (U a n m)/\w'.cell? ⟨w.heap.size,5,O⟩=I (U b p q)) (first|exact c|go_keep) (first
  | (go_at_call 59;(refine(B.o _ v.o).mono ?_);rintro e D ⟨V,rfl,z,d,y⟩;obtain⟨a5,m5,rfl⟩:=z.A8;have d:=fA d;have c:=aKs d K c1 c2 N P R;have r:=chain o.o d)
  | (go_at_call 98;(refine(C.o _ r).mono ?_);rintro e w6 ⟨V6,rfl,D,d,V⟩;obtain⟨a6,m6,rfl⟩:=D.A8;have c:=aKs d c.1 c.2.1 c.2.2.1 c.2.2.2.1 c.2.2.2.2.1 c.2.2.2.2.2;have y:=z.A7 d;have z:=chain r d)
  | (go_at_call 97;(refine(aOc _ _ _ S y D (by omega)).mono ?_);rintro e y ⟨rfl,d⟩;have r:=chain z d;have c:=aKs d c.1 c.2.1 c.2.2.1 c.2.2.2.1 c.2.2.2.2.1 c.2.2.2.2.2))
 all_goals
  have c:=A r;clear r;go_wp2;go_ret;exact⟨rfl,c.o⟩
def pQ(w:H)(r:ac)(no c:Nat)(t:1<=no)(s:∀W:H,bg ag 30 #[r] W λe w'=>e=az (bw #[no,c])/\Keeps (λ_=>False) W w')(g:Int)(k:Bool)(j:Nat)(o:ByteArray)(a:Option ak)(n m:Nat)(b:Option ak)(p q:Nat):
 bg ag 36 #[Q O,r,aMy g k j o (U a n m) (U b p q) no c] w λe w'=>e=az (E af)/\ae w w w':=by
 have u:=A s;have f:=aL w (Y #[g,k,J L j,o,U a n m,U b p q,no,c] 79);have d:=A ((dk w w).alloc (hU _) (Y #[g,k,J L j,o,U a n m,U b p q,no,c] 79));have l:=A f;have y:(((no:Nat):Int)!=0)=af:=by simp;omega
 clear f t s;unfold aMy;go_enter func36,ntmps36;go_wp2_with fail;refine(u.o _).mono ?_;rintro e w2 ⟨rfl,i⟩;obtain⟨-,-,-,-,-,-,z,x,-⟩:=aMZ (i.B4 l.o id);have v:=A (d.o.trans (i.A6 (n:=w.heap.size) d.o.size λ_=>gp));clear i;go_wp2;go_ret;exact⟨rfl,v.o⟩
def uJ(w:H)(u:Nat)(T:dt)(x:ac)(F G:Nat->Prop)(t:Tr)(j:Small t)(c:t.F3.length<=65536)(y:w.heap[u]?=I (Y #[bm T x] 176 (0,0)))(v:cS F w (bm T x) t)
 (z:∀W:H,bg ag 30 #[dh] W λe w'=>e=az (bw #[J Z 0,J Z 0])/\w'=W)
 (f:Int)(k:Bool)(i:Nat)(o:ByteArray)(a:Option ak)(n m:Nat)(b:Option ak)(p q:Nat)(B:ValAt G w (eQ f k i o (U a n m) (U b p q)) t):
 bg ag 36 #[Q u,dh,aMy f k i o (U a n m) (U b p q) 0 0] w λe w'=>e=az (E af)/\ae w w w':=by
 have D:=A z;have g:=aL w (Y #[f,k,J L i,o,U a n m,U b p q,J Z 0,J Z 0] 79);have d:=A ((dk w w).alloc (hU _) (Y #[f,k,J L i,o,U a n m,U b p q,J Z 0,J Z 0] 79));have C:=A (λ(W:H)(r:ae w w W)=>wN W u T x F G t j c (keep y r) (v.A0 (au (λ_=>False) r) λ_ _=>id) f k i o a n m b p q (B.A0 (au (λ_=>False) r) λ_ _ _ X=>X.elim));obtain⟨N,c1,c2,R,P,S,V,-,-⟩:=aMZ g;clear g z y v B j c;unfold aMy;go_enter func36,ntmps36;go_wp2_with fail;refine(D.o _).mono ?_;rintro e w2 ⟨rfl,rfl⟩;go_wp2_with fail;refine(C.o _ d.o).mono ?_;rintro e K ⟨rfl,l⟩;have s:=A (chain d.o l);clear l;go_wp2;go_ret;exact⟨rfl,s.o⟩
def uH(w:H):bg ag 33 #[bm 29 (J Z 2)] w λe w'=>e=az (J Z 2)/\w'=w:=by
 have a:∀w,(gk (bm 29 (J Z 2)) 26 29 af).run ag w=cg (bw #[J Z 2,E af]) w:=λ_=>by kernel_rfl
 go_enter func33,ntmps33;go_wp2;go_ret;exact⟨rfl,rfl⟩
def uI(w:H)(z:Int)(b:z<1\/512<z):bg ag 26 #[z] w λe w'=>e=az (bw #[Q O,bm 29 (J Z 2)])/\w'=w:=by
 have b:z<1\/¬z<1/\512<z:=by omega
 rcases b with b|⟨b,a⟩
 all_goals
  go_enter func26,ntmps26;go_wp2_with fail;exact bb (v:=bw #[Q O,bm 29 (J Z 2)]) (by simp[dw,results26,go_sem]) rfl ⟨rfl,rfl⟩
def yJ(w:H)(a:Option ak)(n cap:Nat)(z:Int)(d:z<1\/512<z):bg ag 32 #[U a n cap,z] w λe w'=>e=az (bw #[dl,bm 29 (J Z 2)])/\ae w w w':=by
 have b:=A (λW=>uI W z d);have c:(w.alloc (Y #[z] 3)).cell? w=I (J Z z):=aA (aL w _);clear d;go_enter func32,ntmps32;go_wp2_with fail;refine(b.o _).mono ?_;rintro e w1 ⟨rfl,rfl⟩;go_wp2_with fail;exact bb (v:=bw #[dl,bm 29 (J Z 2)]) (by simp[dw,results32,go_sem]) rfl ⟨rfl,(dk _ _).alloc (hU _) _⟩
def l7(w:H)(b a:ac)(S:ByteArray)(d:(em 22 9 b).run ag w=cg (aw S) w)(c:(em 22 9 a).run ag w=cg (aw S) w):
 bg ag 34 #[b,a] w λe w'=>e=az (E af)/\w'=w:=by
 go_enter func34,ntmps34;go_wp2;go_ret;exact⟨rfl,rfl⟩
def aAn(X:Except (Nat×Nat) Tr):Prop:=∀t,X=cj t->Small t/\t.F3.length<=65536
def lR{p:Nat}{e:Bool}(a:d<=512)(b:l.length<=16777216):aAn (aN9 l p d e):=by
 intro t g;unfold aN9 at g;split at g
 .cases g
 split at g
 .cases g
 split at g
 .cases g
 split at g
 .cases g
 .rename_i f c;cases g;exact aLL a b c
def iO(e:d<=512):∀(l b:Oo)(p:Nat)(g:Bool),b.length+l.length<=16777216->∀X∈eM d p g b l,aAn X
 | [],b,p,g,f,X,a=>by
  unfold eM at a;split at a
  .cases a
  .simp at a;subst a;exact lR e (by simp at f⊢;omega)
 | c::l,b,p,g,f,X,a=>by
  simp at f;unfold eM at a;split at a
  .rcases mj.1 a with a|a
   .split at a
    .cases a
    .simp at a;subst a;exact lR e (by simp;omega)
   .exact iO e l [] _ _ (by simp;omega) X a
  .exact iO e l (c::b) _ _ (by simp;omega) X a
def vN{p:Nat}(a:d<=512)(b:l.length<=16777216)(c:jR l d=.error (n,p)):p<=1099511627776:=by
 rw[<-aEp a b]at c;have:=aNj a c;omega
def tA(w:H)(q:Option ak)(e:ac)(X:Except (Nat×Nat) Tr)(G:Nat->Prop)(c:List ac)(s:aMH w (Q q) e X)(a:rM G w c X)(k:aAn X):
 bg ag 36 #[Q q,e,cw c.toArray] w λF w'=>F=az (E af)/\ae w w w':=by
 obtain⟨g,o,l,z,m,r,y,f,j,u,no,B,rfl,a⟩:=a;cases X with
 | error C=>
  obtain⟨n,p⟩:=C;obtain⟨b,d⟩:=s;obtain⟨rfl,rfl,P⟩:=a;cases b;subst d;exact pQ w (cU n p) n p (by omega) (λW=>aON W n p (by omega)) g o l z m r y f j u
 | ok t=>
  obtain⟨d,T,v,b,D,i⟩:=s;obtain⟨rfl,rfl,K⟩:=a;cases b;subst d;obtain⟨N,x,rfl⟩:=i.O1;exact uJ w T N x _ _ t (k t rfl).1 (k t rfl).2 D i (λW=>aOL W) g o l z m r y f j u K
section
open Go.RowKit Go.Shelf
attribute [local go_sem] Oper.semAt_some
def oM{s e:Nat}{v:ac}{N:List ac}{F:Fence}{t bytes:Nat}{l:Array Oper}{f:List Oper}{o:Oper}{a:Act}{a0:Exit->Act->H->Prop}(a1:lB t e s bytes)(r:o.guard=O)(P x:Operand)
 (y:o.op=.call {callee:=.builtin .append,args:= #[P,x],argTypes:= #[t,t]})(R:a.eval P=v)(p:aQ s e w v n N)(z:ak)(m c:Nat)(b:List ac)(S:a.eval x=U (I z) m c)(B:b.length=m*s)
 (i:∀j u,b[j]?=I u->w.cell? (z.add j)=I u)(T:∀u∈b,u.oneCell'=af)(C:1<=m)(V:(n+m)*bytes<=140737488355328)(W:n+m<=cr)
 (a2:∀g off cap w',aQ s e w' (U (I ⟨g,off,O⟩) (n+m) cap) (n+m) (N++b)->(v.ownBlock=I g\/(w.heap.size<=g/\g<w'.heap.size))->Keeps (λk=>v.ownBlock=I k) w w'->wpListIn F d ag l a0 f (a.put o.dst (U (I ⟨g,off,O⟩) (n+m) cap)) w'):
 wpListIn F d ag l a0 (o::f) a w:=by
 refine wpListIn_plain r λK D=>?_;obtain⟨g,off,cap,w',q,X,r2,r3⟩:=vW (t:=t) (ty:=o.type) a1 p z m c b B i T C V W;unfold Oper.wpIn;refine⟨?_,?_⟩
 .simp[Oper.about,y,resolve,Target.leads,Sem.run_pure]
 .rw[Oper.semAt_plain F _ _ (by rw[y];intro c G;cases G)];simp[execOp,y,resolve,invoke,builtin,R,S,q,Result.andThen];exact D _ _ (a2 g off cap w' X r2 r3)
def l6{F:Fence}{P:Program}{g:Func}{a:Array ac}{R:Ending->H->Prop}:∀(Ds:List Nat)(W:H),Ds.Nodup->(∀D∈Ds,W.heap[D]?=I (co (I [])))->(∀c,Keeps (λk=>k∈Ds) W c->LeavesInM F n P g a R [] im c)->
 LeavesInM F n P g a R (Ds.map λD=>{target:=eh D,args:= #[]}) im W
 | [],W,_,_,m=>m W (ar _ _)
 | D::Ds,W,l,d,m=>by
  have b:=io.1 l;refine⟨by simp,bp ⟨D,_,rfl,gm (d D (fi ..)),l6 Ds _ b.2 (λj f=>(gn λe=>b.1 (by rw[<-e];exact f)).trans (d j (jv _ f))) λc i=>m c ?_⟩⟩;exact(aML (F:=λk=>k∈D::Ds) (co O) (fi ..)).trans (i.mono λk m=>jv _ m) λk m=>bp m
def wP{g off cap:Nat}{m:List ac}(t:aQ 1 5 w (U (g,off) n cap) n m):∃w',(∀ty,(ip #[22] ty #[U (g,off) n cap]).run ag w=cg (bw #[]) w')/\Keeps (λk=>k=g) w w':=by
 rcases t.2 with⟨e,_⟩|⟨p,c,d,b,e,a,s,q,r,hi⟩
 .cases e
 cases e;by_cases i:n=0
 .subst i;exact⟨w,λty=>by simp[ip,run_underlying ku],ar _ _⟩
 obtain⟨f,_,_,_,_,l⟩:=oC g (List.replicate n (J ah 0)) off w b 5 a;refine⟨_,λty=>Lib.run_clear_slice w 22 5 ty (J ah 0) ku (λ_=>by kernel_rfl) rfl rfl g off n cap (by omega) (λj o=>?_) (λj o=>free_at a _),l⟩;rw[aA a,Array.getElem?_eq_getElem (by omega)];rfl
def yK{v:ac}(j:aQ 1 5 w v l.length (l.map bZ)):aM4 w v l:=by
 rcases j.2 with⟨rfl,a⟩|⟨g,off,cap,b,rfl,d,e,-,c,hi⟩
 .exact⟨⟨O,0,by rw[a],by omega,dr _,bp (List.eq_nil_of_length_eq_zero a)⟩,bp rfl⟩
 .exact⟨⟨_,cap,rfl,e,c,bz ⟨g,off,rfl,id,λi x f=>by rw[aA d];exact hi i (bZ x) (by rw[ed,f];rfl)⟩⟩,bz ⟨g,off,_,_,rfl⟩⟩
def x9(w:H):∀(j:Nat)(u:ac),([J ah 30,J ah 49,J ah 10]:List ac)[j]?=I u->(w.alloc (Y #[J ah 30,J ah 49,J ah 10] 5)).cell? ((⟨w.heap.size,0,O⟩:ak).add j)=I u:=λj u a=>by
 rw[mi,jw];exact(aA (aL w _)).trans (by simpa using a)
def yH(x:Nat->ac)(a:List Deferred):Act:={tmps:=((List.range 104).map x).toArray,defers:=a}
def oW(a:Act)(b:a.tmps.size=104):a=yH (λi=>a.tmps.getD i h) a.defers:=by
 rcases a with⟨t,d⟩;simp only at b;unfold yH;congr 1;apply Array.ext
 .simp[b]
 .intro i c e;simp[Array.getD,c]
def tB(x:Nat->ac)(a:List Deferred):yH x a={tmps:=(x 0::x 1::x 2::x 3::x 4::x 5::x 6::x 7::x 8::x 9::x 10::x 11::x 12::x 13::x 14::x 15::x 16::x 17::x 18::x 19::x 20::x 21::x 22::x 23::x 24::x 25::x 26::x 27::x 28::x 29::x 30::x 31::x 32::x 33::x 34::x 35::x 36::x 37::x 38::x 39::x 40::x 41::x 42::x 43::x 44::x 45::x 46::x 47::x 48::x 49::x 50::x 51::x 52::x 53::x 54::x 55::x 56::x 57::x 58::x 59::x 60::x 61::x 62::x 63::x 64::x 65::x 66::x 67::x 68::x 69::x 70::x 71::x 72::x 73::x 74::x 75::x 76::x 77::x 78::x 79::x 80::x 81::x 82::x 83::x 84::x 85::x 86::x 87::x 88::x 89::x 90::x 91::x 92::x 93::x 94::x 95::x 96::x 97::x 98::x 99::x 100::x 101::x 102::x 103:: []).toArray,defers:=a}:=rfl
def nL(w b:H)(lb c d:Nat)(a:Act)(W:H):Prop:=
 ∃(k:Nat)(x:Nat->ac)(Ds:List Nat),a=yH x (Ds.map λD=>{target:=eh D,args:= #[]})/\k<=2/\x 5=Q w/\x 6=Q (I ⟨w.heap.size+1,0,O⟩)/\x 8=bs (bu 66) #[] #[Q c,Q d]/\x 10=Q lb/\x 60=J Z k/\
  ae b b W/\Ds.Nodup/\∀D∈Ds,b.heap.size<=D/\W.heap[D]?=I (co (I []))
def lH(c:H)(b:Nat)(a:List Rec)(V:H):Prop:=Keeps (λj=>j=b) c V/\V.heap[b]?=I (Y #[J Z (a.length:Nat)] 3 (0,0))
def lH.I7{b:H}(k:d<b.heap.size)(a:List Rec):aMI b.heap.size (lH b d a):=by
 rintro i C ⟨g,f⟩ c;exact⟨g.trans c λj e=>bz e.1,c.B4 f λe=>by omega⟩
def yZ(w d:H)(lb c:Nat)(R:List (Except (Nat×Nat) Tr))(b:List Rec)(y:Rec)(a:Act)(V:H):Prop:=
 ∃x:Nat->ac,a=yH x []/\x 5=Q w/\x 6=Q (I ⟨w.heap.size+1,0,O⟩)/\x 10=Q lb/\x 11=Q (I ⟨c-1,0,O⟩)/\x 12=Q c/\x 13=Q y.q/\x 14=y.e/\lH d c b V/\aNo R b.length y V
def nL.K8{f j V:H}{lb v u q k D:Nat}{Ds:List Nat}(a:Act)(F:a.tmps.size=104)(m:a.defers=(D::Ds).map λD=>{target:=eh D,args:= #[]})(B:a.tmps.getD 5 h=Q w)(G:a.tmps.getD 6 h=Q (I ⟨w.heap.size+1,0,O⟩))
 (C:a.tmps.getD 8 h=bs (bu 66) #[] #[Q v,Q u])(n:a.tmps.getD 10 h=Q lb)(d:a.tmps.getD 60 h=J Z ((k:Int)+1))(z:k<2)(l:ae f f j)(g:Keeps (λi=>i=q) j V)(hi:f.heap.size<=q)(o:∃c,j.heap[q]?=I (Y c 3 (0,0)))
 (y:j.heap.size<=D)(p:V.heap[D]?=I (co (I [])))(t:∀D∈Ds,f.heap.size<=D)(b:∀D∈Ds,j.heap[D]?=I (co (I [])))(r:Ds.Nodup):nL w f lb v u a V/\2-(ct (a.tmps.getD 60 h)).toNat<2-k:=by
 refine⟨⟨k+1,_,D::Ds,by rw[<-m];exact oW a F,z,B,G,C,n,d,l.trans (g.A6 l.size λi e=>by omega),io.2 ⟨λK=>?_,r⟩,λs K=>?_⟩,by rw[d];simp[ct];omega⟩
 .have:=ao (b D K);omega
 .rcases List.mem_cons.1 K with rfl|K
  .exact⟨bo l.size y,p⟩
  .refine⟨t s K,g.B4 (b s K) λe=>?_⟩;obtain⟨c,x⟩:=o;rw[<-e,b s K]at x;cases x
def yI{tmps:Array ac}(Ds:List Nat)(g:tmps[6]?=I (Q c))(d:W.heap[c]?=I (Y #[E af] 4 (0,0)))(j:Ds.Nodup)(a:∀D∈Ds,w.heap.size<=D/\W.heap[D]?=I (co (I [])))(f:ae w w W):
 bodyPostM Fence.wide 6 ag Tryz.f7 (λe w'=>e=az (E af)/\ae w w w') Exit.ret {tmps:=tmps,defers:=Ds.map λD=>{target:=eh D,args:= #[]}} W:=by
 refine l6 Ds W j (λD l=>(a D l).2) λk b=>?_;have i:=av (b.B4 d λl=>by have:=(a _ l).2;rw[d]at this;cases this);exact⟨_,(by simp[dw,results7,go_sem,g,i]),rfl,f.trans (b.A6 f.size λD l=>(a D l).1)⟩
def tC(w:H)(v:ac)(l:Oo)(dz ez:Int)(hv:aM4 w v l)(hl:l.length<=1048576):bg ag 7 #[v,dz,ez] w λe w'=>e=az (E af)/\ae w w w':=by
 have HCL:=A (λ(W:H)(hW:ae w w W)=>aNI W v l (iq hv (au (λ_=>False) hW) λ_ _ a2=>a2) (by omega));have HBS:=A (λ(W:H)(hW:ae w w W)=>fG hv.1 hW);have HV:=A hv;obtain⟨⟨va,vc,rfl,hvc,-,_⟩,_⟩:=hv;obtain⟨n,hn⟩:∃n,l.length=n:=⟨_,rfl⟩;have HN:=A hn;rw[hn]at HCL HBS hl hvc HV⊢;clear hn;obtain⟨W0,hW0⟩:∃W0,(w.alloc (Y #[ez] 3)).alloc (Y #[E ai] 4)=W0:=⟨_,rfl⟩;have hb0:ae w w W0:=by rw[<-hW0];exact((dk _ _).alloc (hU _) _).alloc (by simp) _
 have he0:W0.heap[w.heap.size]?=I (Y #[ez] 3 (0,0)):=by rw[<-hW0];exact(de _ _ _ (by simp)).trans (aL w _)
 have hr0:W0.heap[w.heap.size+1]?=I (Y #[E ai] 4 (0,0)):=by
  rw[<-hW0];have:=aL (w.alloc (Y #[ez] 3)) (Y #[E ai] 4);rwa[my]at this
 have HB0:=A hb0;have HE0:=A he0;have HR0:=A hr0;clear hb0 he0 hr0;refine(bk (n:=6)).1 ?_;refine fk func7 rfl trivial ?_ rfl;simp only[ntmps7,oy,cv,ib,ft,fu,fv,fw,fz,ga,mq,li];gi_wp2_with fail;refine⟨trivial,?_⟩;refine(bk.2 (HCL.o _ HB0.o)).mono ?_;rintro e w1 ⟨v1,rfl,hw1,hg1,hb1⟩;obtain⟨a1,c1,rfl⟩:=hw1.A8;rw[HN.o]at hw1 hg1⊢;have HWX:=A (hw1.A0 ((ar (λ_=>False) w1).A5 (Y #[J ah 30,J ah 49,J ah 10] 5)) λ_ _=>id);have HNW:=A (x9 w1);have HB1:=A (chain HB0.o hb1);have HG1:=A (λk e=>bo HB0.o.size (hg1 k e).1);have HK1:=A (And.intro (au (λ_=>False) hb1) λk(a2:k<W0.heap.size) e=>show False from absurd (hg1 k e).1 (Nat.not_le.2 a2));clear hw1 hg1 hb1;gi_wp2_with (gi_at_builtin;refine oM aMO rfl _ _ rfl rfl HWX.o w1 3 3 [J ah 30,J ah 49,J ah 10] rfl rfl HNW.o (by intro u hu;simp at hu;rcases hu with rfl|rfl|rfl<;>rfl) (by decide) (by omega) (by unfold cr;omega) ?_);intro g off cap w2 hw2 hg2 z;have hgw:w.heap.size<=g:=hg2.elim (HG1.o g) λa2=>bo HB1.o.size (bo (by simp) a2.1);have hk:Keeps (λk=>(U a1 n c1).ownBlock=I k) w1 w2:=((ar (λk=>(U a1 n c1).ownBlock=I k) w1).A5 _).trans z λk a2=>bp a2;have hb2:ae w w w2:=HB1.o.trans (hk.A6 HB1.o.size HG1.o)
 have hw3:aQ 1 5 w2 (U (g,off) n cap) n (l.map bZ):=by
  have:=hw2.B3 (k:=n) (by omega);rwa[nd,List.take_left' (by rw[kt];exact HN.o)]at this
 have he2:=hk.B4 (HK1.o.1.B4 HE0.o id) λe=>HK1.o.2 _ (by have:=ao HE0.o;omega) e;have hr2:=hk.B4 (HK1.o.1.B4 HR0.o id) λe=>HK1.o.2 _ (ao HR0.o) e;have hhas:aM4 w2 (U (g,off) n cap) l:=by rw[<-HN.o]at hw3⊢;exact yK hw3
 have hcn:n<=cap:=by
  obtain⟨⟨a,c,e,a2,_⟩,_⟩:=hhas;cases e;rw[HN.o]at a2;exact a2
 have HB2:=A hb2;have HW3:=A hw3;have HE2:=A he2;have HR2:=A hr2;have HH2:=A hhas;have HGW:=A hgw;clear hw2 hg2 z hk hb2 hw3 he2 hr2 hhas hgw;have i1:(n:Int)<=(cap:Int):=by omega
 by_cases hd:dz<1\/512<dz
 .have HAB:=A (λW=>yJ W (I ⟨g,off,O⟩) n cap dz hd);have hd:dz<1\/¬dz<1/\512<dz:=by omega
  have hfn:∀w:H,(binOp .eql 70 dl dl).run ag w=cg (E af) w:=λ_=>by kernel_rfl
  rcases hd with d1|⟨d1,d2⟩
  all_goals
   gi_wp2_with fail;refine⟨trivial,?_⟩;refine(bk.2 (HAB.o _)).mono ?_;rintro e w3 ⟨rfl,f⟩;have HB3:=A (chain HB2.o f);have HR3:=A (keep HR2.o f);clear f;gi_wp2_with fail;refine⟨trivial,?_⟩;refine(bk.2 (uH _)).mono ?_;rintro e w4 ⟨rfl,rfl⟩;gi_wp2_with fail;refine⟨trivial,?_⟩;refine(bk.2 (aOH _)).mono ?_;rintro e w5 ⟨rfl,G⟩;have hr5:=keep HR3.o G;have c0:=av hr5;have f0:=dp hr5;have HB5:=A (chain HB3.o G);have HR5:=A hr5;clear G hr5;gi_wp2_with fail;exact yI [] rfl (aB HR5.o _) ir (λ_ a2=>by cases a2) (HB5.o.setCell (p:=⟨w.heap.size+1,0,O⟩) (by simp) _)
 obtain⟨d,rfl,h1,h2⟩:∃d:Nat,dz=d/\1<=d/\d<=512:=⟨dz.toNat,by omega,by omega,by omega⟩;have HALL:=A (aOj w2 (U (g,off) n cap) l d h1 h2 HH2.o (by rw[HN.o];omega));have d1:¬(d:Int)<1:=by omega
 have d2:¬(512:Int)<(d:Int):=by omega
 clear hd;gi_wp2_with fail;refine⟨trivial,?_⟩;refine(bk.2 HALL.o).mono ?_;rintro e w3 ⟨db,rb,rv,rfl,hdb,hrb,hrow,f,hl1,hl2,hl3⟩;have hfn:∀w:H,(binOp .eql 70 (bs (bu 66) #[] #[Q db,Q rb]) dl).run ag w=cg (E ai) w:=λ_=>by kernel_rfl
 obtain⟨S,hS⟩:∃S:ByteArray,(⟨l.toArray⟩:ByteArray)=S:=⟨_,rfl⟩;have hcv1:=fG HH2.o.1 f;have hcv2:=HBS.o w3 (chain HB2.o f);rw[hS]at hcv1 hcv2;have HEQ:=A (l7 w3 _ _ S hcv1 hcv2);have hw4:=HW3.o.A0 (au (λ_=>False) f) λ_ _=>id;obtain⟨w5,hclr,hk5⟩:=wP hw4;have hgl:=HW3.o.lt (k:=g) rfl;have he5:=hk5.B4 (keep HE2.o f) λe=>hw4.ne (keep HE2.o f) (by decide) (congrArg I e.symm);have hr5:=hk5.B4 (keep HR2.o f) λe=>hw4.ne (keep HR2.o f) (by decide) (congrArg I e.symm);have hdb5:=hk5.B4 hdb (by omega);have hrb5:=hk5.B4 hrb (by omega);have F:=hrow.A0 hk5 λk e(a2:k=g)=>by have:=hl3 k e;omega
 have G:ae w w w5:=(chain HB2.o f).trans (hk5.A6 (chain HB2.o f).size λk e=>by rw[e];exact HGW.o);have HREC:=A (sW w5 _ l d h2 (iq HV.o (au (λ_=>False) G) λ_ _ a2=>a2).1 (by rw[HN.o];omega) λs hs n p a2=>vN h2 (by rw[HN.o]at hs;omega) a2);have H5:=A (And.intro he5 (And.intro hr5 (And.intro hdb5 (And.intro hrb5 (And.intro F G)))));clear hdb hrb hrow f hl1 hl2 hl3 hS hcv1 hcv2 hw4 hk5 hgl he5 hr5 hdb5 hrb5 F G;gi_wp2_with fail;refine⟨trivial,?_⟩;refine(bk.2 HEQ.o).mono ?_;rintro e w4 ⟨rfl,rfl⟩;gi_wp2_with fail;refine⟨trivial,?_⟩;refine(bk.2 HREC.o).mono ?_;rintro e w6 ⟨V,css,rfl,hV,hR,hb6,ho6⟩;obtain⟨va2,vc2,rfl⟩:=hV.A8;have hfine:=iO h2 l [] 0 ai (by rw[HN.o];simp;omega);have hdone:=yG h2 l (by rw[HN.o];omega);have hRl:=Rd.P5 (Rd.O7 l (x:=et d) ⟨h1,h2,rfl,hU _,hU _,hU _⟩);rw[hdone,Rd.M4,show(et d).a=0 from rfl,HN.o]at hRl;generalize eM d 0 ai [] l=R at*;obtain⟨W7,hW7⟩:∃W7,w6.alloc (Y #[U va2 R.length vc2] 75)=W7:=⟨_,rfl⟩;have hk7:Keeps (λ_=>False) w6 W7:=by rw[<-hW7];exact(ar _ _).A5 _
 have hlb:W7.heap[w6.heap.size]?=I (Y #[U va2 R.length vc2] 75 (0,0)):=by rw[<-hW7];exact aL w6 _
 have P:Keeps (λ_=>False) w5 W7:=(au (λ_=>False) hb6).same hk7;obtain⟨he5,hr5,hdb5,hrb5,F,G⟩:=H5.o;have hseq:=aNK 5 db rb d l rv W7 h1 h2 (P.B4 hdb5 id) (P.B4 hrb5 id) (F.A0 P λ_ _=>id) (by rw[HN.o];omega);rw[hdone]at hseq;have HSEQ:=A hseq;have HE7:=A (P.B4 he5 id);have HR7:=A (P.B4 hr5 id);have HL7:=A hlb;have HB7:=A (G.trans (P.A6 G.size λ_ a2=>a2.elim));have HV7:=A (hV.A0 hk7 λ_ _=>id);have HC7:=A (nA.A0 hR hk7 λ_ _ _ a2=>a2.elim);have HF7:=A hfine;clear hfine hdone hlb hk7 P he5 hr5 hdb5 hrb5 F G hseq hV hR hb6 ho6;gi_wp2_with fail;refine wpIn_loop (nL w W7 w6.heap.size db rb) (λa _=>2-(ct (a.tmps.getD 60 h)).toNat) ⟨0,_,[],oW _ rfl,by decide,rfl,rfl,rfl,rfl,rfl,dk _ _,ir,λ_ a2=>by cases a2⟩ ?_;rintro a W ⟨k,x,Ds,rfl,hk,h5,h6,h8,h10,h60,hbW,hnd,hDs⟩;rw[tB,h5,h6,h8,h10,h60];have HX:=A (And.intro h5 (And.intro h6 (And.intro h8 (And.intro h10 h60))));have N:=A hbW;have HDS:=A hDs;have HND:=A hnd;clear h5 h6 h8 h10 h60 hDs hnd;by_cases z:k=2
 .subst z;have hr8:=keep HR7.o hbW;have HR8:=A hr8;clear hr8 hbW;gi_wp2_with fail;refine⟨trivial,?_⟩;refine(bk.2 (aOH _)).mono ?_;rintro e w9 ⟨rfl,hb9⟩;have hr9:=keep HR8.o hb9;have c9:=av hr9;have f9:=dp hr9;have HB9:=A hb9;have HR9:=A hr9;clear hb9 hr9;gi_wp2_with fail;have hk9:Keeps (λj=>j=w.heap.size+1) W (w9.setCell ⟨w.heap.size+1,0,O⟩ (E af)):=(au (λj=>j=w.heap.size+1) HB9.o).A3 (p:=⟨w.heap.size+1,0,O⟩) (bp rfl) _;have hl7:=ao HR7.o
  exact yI Ds rfl (aB HR9.o _) HND.o (λD a2=>⟨bo HB7.o.size (HDS.o D a2).1,hk9.B4 (HDS.o D a2).2 λe=>by have:=(HDS.o D a2).1;omega⟩)
   ((HB7.o.trans (N.o.mono HB7.o.size)).trans (hk9.A6 (bo HB7.o.size N.o.size) λj e=>by omega))
 have hk1:k=0\/k=1:=by omega
 have e1:(k:Int)<2:=by omega
 clear hbW hk z;gi_wp2_with fail;obtain⟨W8,hW8⟩:∃W8,(W.alloc (Y #[J Z k] 3)).alloc (Y #[J Z 0] 3)=W8:=⟨_,rfl⟩;have hb78:ae W7.heap.size W7 W8:=by rw[<-hW8];exact(N.o.alloc N.o.size _).alloc (by simp;have:=N.o.size;omega) _
 have hkb:W8.heap[W.heap.size]?=I (Y #[J Z k] 3 (0,0)):=by rw[<-hW8];exact(de _ _ _ (by simp)).trans (aL W _)
 have hib:W8.heap[W.heap.size+1]?=I (Y #[J Z 0] 3 (0,0)):=by
  rw[<-hW8];have:=aL (W.alloc (Y #[J Z k] 3)) (Y #[J Z 0] 3);rwa[my]at this
 have hsz8:W8.heap.size=W.heap.size+2:=by rw[<-hW8];simp
 have hds8:∀D∈Ds,W8.heap[D]?=I (co (I [])):=λD a2=>by rw[<-hW8];exact(((ar (λ_=>False) W).A5 _).A5 _).B4 (HDS.o D a2).2 id
 rw[hW8];have HB78:=A hb78;have HKB:=A hkb;have HIB:=A (show ∃c,W8.heap[W.heap.size+1]?=I (Y c 3 (0,0))from⟨_,hib⟩);have HDS8:=A hds8
 refine aNx (gf:=66) (lb:= #[Q db,Q rb]) rfl (enters_of func66 (by kernel_rfl) rfl) HSEQ.o hb78 (λ_=>rfl)
  (lH W8 (W.heap.size+1)) (λid X V=>id=2/\k=0/\((X.length:Nat):Int)=ez/\lH W8 (W.heap.size+1) X V) (lH.I7 (by omega)) (λid X a0 C a2 hk=>⟨a2.1,a2.2.1,a2.2.2.1,lH.I7 (by omega) X a0 C a2.2.2.2 hk⟩) ⟨ar _ _,hib⟩
  (yZ w W8 w6.heap.size (W.heap.size+1) R) ?minds ?assign ?body ?done ?stop
 all_goals clear hW8 hb78 hkb hib hds8
 case minds=>
  rintro X y a1 a0 C ⟨x',q1,q2,q3,q4,q5,q6,q7,q8,q9,q10⟩ hk;exact⟨x',q1,q2,q3,q4,q5,q6,q7,q8,lH.I7 (by omega) X a0 C q9 hk,aNo.I7 _ _ _ _ a0 C q10 hk⟩
 case assign=>
  rintro l0 X y V K hi hx hK;dsimp only[aN0];gi_wp2_with fail;exact hK _ _ (gd _) (ge _) ⟨_,oW _ rfl,rfl,rfl,rfl,rfl,rfl,rfl,rfl,hi,hx⟩
 case body=>
  rintro l0 X ⟨q,e,it⟩ a1 V ⟨x',rfl,g5,g6,g10,g11,g12,g13,g14,⟨m,t⟩,hrk,hra⟩;rw[tB,g5,g6,g10,g11,g12,g13,g14];clear g5 g6 g10 g11 g12 g13 g14;obtain⟨j,hj⟩:∃j,X.length=j:=⟨_,rfl⟩;rw[hj]at t hrk;have hjR:j<R.length:=(bt.1 hrk).1;have hs7:W7.heap.size<W.heap.size+1:=by have:=N.o.size;omega
  have b:Keeps (λi=>i=W.heap.size+1) W7 V:=(au (λi=>i=W.heap.size+1) HB78.o).same m;have ce:=av (b.B4 HE7.o λe=>by have:=ao HE7.o;omega);have cl:=av (b.B4 HL7.o λe=>by have:=ao HL7.o;omega);have ck:=av (m.B4 HKB.o λe=>by omega);have ci:=av t;have hVV:=HV7.o.A0 b λi a2(e:i=W.heap.size+1)=>by have:=HV7.o.lt a2;omega
  have hcl:j<css.length:=by rw[HC7.o.1];exact hjR
  have hrc:=rM.A0 (HC7.o.2 j css[j] it (bf hcl) hrk) b λi _ a2 e=>by omega
  have hel:∀(i:Nat)(u:ac),css[j][i]?=I u->css.flatten[j*8+i]?=I u:=λi u a2=>by
   have h8:=HC7.o.U8 _ (ph hcl);have hi:=(bt.1 a2).1;rw[pH HC7.o.U8 (bf hcl) (by omega)];exact a2
  obtain⟨vg,vo,rfl⟩:∃vg vo,va2=I ⟨vg,vo,O⟩:=by
   rcases HV7.o.2 with⟨_,a2⟩|⟨vg,vo,_,_,a2,_⟩
   .omega
   .injection a2 with a2;exact⟨vg,vo,a2⟩
  have HT:=A (tA V q e it _ css[j] hra hrc (HF7.o it (lx hrk)));obtain⟨so,fl,bi,tx,va3,vn3,vm3,ka3,kn3,km3,no3,at3,hc,_⟩:=hrc;rw[hc]at hel HT;have r:∀(i:Nat)(u:ac),(yF so fl bi tx (U va3 vn3 vm3) (U ka3 kn3 km3) no3 at3)[i]?=I u->V.cell? ⟨vg,vo+j*8+i,O⟩=I u:=λi u a2=>by rw[fo];exact hVV.B6 (hel i u a2)
  have r0:V.cell? ⟨vg,vo+j*8,O⟩=_:=r 0 _ rfl;have r1:=r 1 _ rfl;have r2:=r 2 _ rfl;have r3:=r 3 _ rfl;have r4:=r 4 _ rfl;have r5:=r 5 _ rfl;have r6:=r 6 _ rfl;have r7:=r 7 _ rfl;have B:=A (And.intro m t);have HJ:=A hj;have j1:¬(R.length:Int)<=(j:Int):=by omega
  have j2:(j:Int)<(R.length:Int):=by omega
  have j0:(0:Int)<=(j:Int):=by omega
  generalize R.length=rl at*;clear m t hrk hra hj b hVV hel hc hcl r;gi_wp2_with fail;refine⟨trivial,?_⟩;refine(iw l0 (bk.2 HT.o)).mono ?_;rintro e2 V2 ⟨rfl,hb2⟩;have z:Keeps (λ_=>False) V V2:=au _ hb2;have hi2:=z.B4 B.o.2 id
  have hend:∀V3,V3=V2.setCell ⟨W.heap.size+1,0,O⟩ (J Z ((j:Int)+1))->gh V V3/\aMB V V3/\lH W8 (W.heap.size+1) (X++ [⟨q,e,it⟩]) V3:=by
   rintro V3 rfl;have hks:Keeps (λi=>i=W.heap.size+1) V (V2.setCell ⟨W.heap.size+1,0,O⟩ (J Z ((j:Int)+1))):=(show Keeps (λi=>i=W.heap.size+1) V V2 from z.mono λ_ a2=>a2.elim).A3 (p:=⟨W.heap.size+1,0,O⟩) (bp rfl) _
   have hcl:∀i o,i=W.heap.size+1->V.heap[i]?=I o->∃c,o=Y c 3 (0,0):=λi o a2 ho=>by
    subst a2;rw[B.o.2]at ho;cases ho;exact⟨_,rfl⟩
   refine⟨⟨hks.size,λi o hi ho=>hks.B4 hi λa2=>by obtain⟨c,rfl⟩:=hcl i o a2 hi;cases ho⟩,ei hks λi a2=>?_,B.o.1.same hks,?_⟩
   .rintro⟨c,T,hc,hT⟩;obtain⟨c',e'⟩:=hcl i _ a2 hc;cases e';exact absurd hT (by decide)
   .have:=aB (o:=0) hi2 (J Z ((j:Int)+1));rw[cn,HJ.o];exact this
  have HEND:=A hend;have ce2:=z.B6 ce id;have ck2:=z.B6 ck id;have ci2:=av hi2;have fi2:=dp hi2;have i1:Z.wrap ((j:Int)+1)=(j:Int)+1:=by rw[b9];omega
  have n1:¬w.heap.size=W.heap.size+1:=by have:=ao HE7.o;omega
  clear hb2 z hi2 hend ce ck ci cl r0 r1 r2 r3 r4 r5 r6 r7 j1 j2;rcases hk1 with rfl|rfl
  .rw[gL]at ck2;by_cases hz:(j:Int)+1=ez
   .have hz2:((j:Int)+1==ez)=af:=(by simpa using hz);have HZ:=A hz;clear hz;gi_wp2_with fail;exact⟨(HEND.o _ rfl).1,rfl,by rw[cn,HJ.o];exact HZ.o,(HEND.o _ rfl).2.2⟩
   .have hz2:((j:Int)+1==ez)=ai:=(by simpa using hz);clear hz;gi_wp2_with fail;exact HEND.o _ rfl
  .gi_wp2_with fail;exact HEND.o _ rfl
 case done=>
  rintro D xs V hD hS ⟨m,t⟩ hDf;have hl:xs.length=R.length:=by have:=congrArg gl hS;simpa using this
  rw[hl]at t;have b:Keeps (λi=>i=W.heap.size+1) W7 V:=(au (λi=>i=W.heap.size+1) HB78.o).same m;have cl:=av (b.B4 HL7.o λe=>by have:=ao HL7.o;have:=N.o.size;omega);have ci:=av t;have B:=A (And.intro m (And.intro hD hDf));clear hS hl m t hDf b hD;generalize R.length=rl at*;gi_wp2_with fail;exact nL.K8 (k:=k) (Ds:=Ds) _ rfl rfl rfl rfl rfl rfl (by simp) (by omega) HB78.o B.o.1 (by have:=N.o.size;omega) HIB.o B.o.2.1 B.o.2.2 (λD a2=>(HDS.o D a2).1) HDS8.o HND.o
 case stop=>
  rintro D id xs V hD ⟨-,-⟩ ⟨rfl,rfl,hez,m,t⟩ hDf;rw[hez]at t;have b:Keeps (λi=>i=W.heap.size+1) W7 V:=(au (λi=>i=W.heap.size+1) HB78.o).same m;have cl:=av (b.B4 HL7.o λe=>by have:=ao HL7.o;have:=N.o.size;omega);have ce:=av (b.B4 HE7.o λe=>by have:=ao HE7.o;have:=N.o.size;omega);have ck:=av (m.B4 HKB.o λe=>by omega);have ci:=av t;rw[gL]at ck;have B:=A (And.intro m (And.intro hD hDf));clear hez m t hDf b hD;generalize R.length=rl at*;by_cases hz:ez=(rl:Int)
  focus have hz2:(ez !=(rl:Int))=ai:=by simpa using hz
  rotate_left
  focus have hz2:(ez !=(rl:Int))=af:=by simpa using hz
  all_goals
   clear hz;gi_wp2_with fail;exact nL.K8 (k:=0) (Ds:=Ds) _ rfl rfl rfl rfl rfl rfl (by simp) (by omega) HB78.o B.o.1 (by have:=N.o.size;omega) HIB.o B.o.2.1 B.o.2.2 (λD a2=>(HDS.o D a2).1) HDS8.o HND.o
end
