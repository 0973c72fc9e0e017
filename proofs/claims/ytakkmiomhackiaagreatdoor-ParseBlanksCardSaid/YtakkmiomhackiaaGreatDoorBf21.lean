/-
  The program, one part of its walk. Conditions: none.
-/
import Derived.Test.YtakkmiomhackiaaGreatDoorBf15
import Derived.Test.YtakkmiomhackiaaGreatDoorBf20
set_option linter.all false
set_option maxRecDepth 100000
set_option maxHeartbeats 16000000
open Go.Proofs.Tryz
open Array renaming length_toList->dw
open Bool renaming false->N,true->U
open ByteArray renaming ext->gu
open Except renaming error->bh,ok->cv,pure->em
open Go renaming Calls->ac,Ending->fc,Value->cz,World->ah,bits->cr,bodyPost_ret->Y,cell_of_one->au,free_of_one->bu,heap_alloc_new->bk,lt_of_block->bj,results->Z,rounds_succ->bc
open Go.BinOp renaming and->dj
open Go.Ending renaming returned->af
open Go.IntKind renaming i32->gl,i64->I,u64->G,wrap_i32->gm,wrap_i64->ao,wrap_u64->gr
open Go.Lib renaming toList_data->gc,trimLeftB->ar,trimRightB->bx
open Go.Obj renaming cells->S
open Go.Proofs.Tryz renaming func118->dl,func155->eh,func172->fe,func210->cj,ntmps118->dm,ntmps155->ei,ntmps172->fg,ntmps210->ck,prog->ae,results118->dp,results146->gk,results155->ba,results172->fh,results195->ee,results210->co
open Go.Proofs.YtakkmiomhackiaaGreatDoor.Goes renaming C3->du
open Go.Proofs.YtakkmiomhackiaaGreatDoor.Keeps renaming A0->fv
open Go.Proofs.YtakkmiomhackiaaGreatDoor.Lim renaming bitlen->bz,bitlen_mono->ga,limbs->ge,lt_bitlen->fz,short->gh
open Go.Proofs.YtakkmiomhackiaaGreatDoor.Lx renaming B8->fu,C0->et,take->dt
open Go.Proofs.YtakkmiomhackiaaGreatDoor.Pc renaming O2->fj,bad->cu,cut->ej,ok->bp
open Go.Proofs.YtakkmiomhackiaaGreatDoor.Ps renaming C0->gp,C8->cw,C9->ep,D0->gn,D3->ek,F9->fq,take->dq
open Go.Proofs.YtakkmiomhackiaaGreatDoor.St renaming outside->fm
open Go.RowKit renaming Below->E
open Go.RowKit.Below renaming refl->ai
open Go.Value renaming agg->H,bool->O,iface->ct,int->J,nilIface->bw,pointer->dv,slice->X,string->D,tuple->av
open List renaming dropWhile_sublist->gj,drop_succ_cons->ft,length_append->fa,length_cons->eo,mem_append->gd
open Nat renaming add_assoc->fi,le_of_lt->dh,le_refl->V,le_succ->bm,le_trans->ag,lt_of_lt_of_le->ew,mul_pos->ev,ne_of_gt->di,pow_add->eu,pow_le_pow_right->ez,pow_pos->dx,two_pow_pos->fw,zero_le->dy
open Option renaming map_none->gq,map_some->go,none->aw,some->aj
open Option.some renaming inj->gv
open Or renaming inl->cg,inr->ak
open UInt8.toNat renaming inj->fk
namespace Go.Proofs.YtakkmiomhackiaaGreatDoor
open Go.RowKit
variable {a b n v:Nat}{c:UInt8}{s:ByteArray}{l:Oo}
def aGe{c:Nat}(h:a<=b*c):bz a<=bz b+bz c:=by
 rw[Lim.bitlen_le,eu];refine Nat.lt_of_le_of_lt h ?_;rcases Nat.eq_zero_or_pos c with d|d
 .subst d;rw[Nat.mul_zero];exact ev (fw _) (fw _)
 .exact ew (Nat.mul_lt_mul_of_pos_right fz d) (Nat.mul_le_mul_left _ (dh fz))
def aIB{x:Nat}(a:v<10^n)(h:n+x<=310):bz (v*10^x)<=1242:=by
 obtain⟨K,c⟩:∃K:Nat,310=K:=⟨_,rfl⟩;rw[c]at h;have d:=iB K;refine ag (ga (b:=10^K) ?_) (ag d (by omega));refine ag (Nat.mul_le_mul_right _ (dh a)) ?_;rw[<-eu];exact ez (by decide) h
def aBh{x:Nat}(a:v<10^n)(h:n<=310+x):bz v<=bz (10^x)+1500:=by
 obtain⟨K,b⟩:∃K:Nat,310=K:=⟨_,rfl⟩;rw[b]at h
 have c:v<=10^x*10^K:=by
  refine ag (dh a) ?_;rw[<-eu];exact ez (by decide) (by omega)
 have d:=aGe c;have e:=iB K;omega
def zM(a:v<10^n)(h:n<=801):bz v<=3210:=by
 obtain⟨K,c⟩:∃K:Nat,801=K:=⟨_,rfl⟩;rw[c]at h;have d:=iB K;refine ag (ga (b:=10^K) ?_) (ag d (by omega));exact ag (dh a) (ez (by decide) h)
def aD7(h:s.data.toList= []):s.toList.isEmpty=U:=by rw[gc,h];rfl
def aGf(h:s.data.toList≠ []):s.toList.isEmpty=N:=by
 rw[gc];cases a:s.data.toList with
 | nil=>exact absurd a h
 | cons x r=>rfl
def aIC(neg:Bool)(g:ByteArray)(e:Int)(w:ah)(f:rH g.data.toList)(hs:g.size<=1073741824)(he: -4611686018427387904<=e)(l1:e<=4611686018427387904)(d:g.size≠0->0<bO g.data.toList):
 ac ae 210 #[H #[neg,g,e]] w λr w'=>r=af (cutV (bQ ⟨neg,g.data.toList,e⟩))/\E w w w':=by
 have u:g.data.toList.length=g.size:=dw;have l2:I.wrap ((g.size:Int)+e)=(g.size:Int)+e:=wr (by omega) (by omega);have HD:=A f;have k2:=A d;clear f d;obtain⟨g1,t,i⟩:=fU w (S #[neg,g,e] 339) (S #[J G 0,J I 0,O N] 359);have HB:=A i;have j:=A g1;have n:=A t;clear i g1 t
 by_cases h0:g.data.toList= []
 .have k3:=aD7 h0;have R:bQ ⟨neg,g.data.toList,e⟩=⟨0,0,U⟩:=by unfold bQ;rw[if_pos h0]
  have HF:=A R;clear R h0;go_enter cj,ck;go_wp2_with fail;exact Y (v:=cutV ⟨0,0,U⟩) (by simp[Z,co,go_sem,cutV]) rfl ⟨by rw[HF.o],(fU _ _ _).2.2⟩
 .have k3:=aGf h0
  by_cases h1:310<(g.size:Int)+e
  .have R:bQ ⟨neg,g.data.toList,e⟩=⟨aM,1,N⟩:=by unfold bQ;simp only[u];rw[if_neg h0,if_pos h1]
   have HF:=A R;clear R h0;go_enter cj,ck;go_wp2_with fail;exact Y (v:=cutV ⟨aM,1,N⟩) (by simp[Z,co,go_sem,cutV,aM]) rfl ⟨by rw[HF.o],(fU _ _ _).2.2⟩
  .by_cases h2:(g.size:Int)+e< -330
   .have R:bQ ⟨neg,g.data.toList,e⟩=⟨0,-1,N⟩:=by unfold bQ;simp only[u];rw[if_neg h0,if_neg h1,if_pos h2]
    have HF:=A R;clear R h0;go_enter cj,ck;go_wp2_with fail;exact Y (v:=cutV ⟨0,-1,N⟩) (by simp[Z,co,go_sem,cutV]) rfl ⟨by rw[HF.o],(fU _ _ _).2.2⟩
   .by_cases i2:800<g.size
    .have j3:(800:Int)<(g.size:Int):=by omega
     have j6:I.wrap ((g.size:Int)-801)=(g.size:Int)-801:=wr (by omega) (by omega);obtain⟨x,hx⟩:∃x:Nat,e+((g.size:Int)-801)= -(x:Int):=⟨(-(e+((g.size:Int)-801))).toNat,by omega⟩;have k0:I.wrap (-(x:Int))= -(x:Int):=wr (by omega) (by omega);have k4:0<x:=by omega
     have j4:x<=1131:=by omega
     have j8:¬x=0:=by omega
     have j9:¬(x:Int)<=0:=by omega
     obtain⟨L,j5⟩:∃L:ByteArray,g.extract 0 800++⟨#[49]⟩=L:=⟨_,rfl⟩;have d:L.data.toList=g.data.toList.take 800++ [49]:=by rw[<-j5];simp
     have k6:L.size=801:=by
      have:L.data.toList.length=L.size:=dw;rw[d,fa,List.length_take,u]at this;simp at this;omega
     have h9:bG g.data.toList=L.data.toList:=by unfold bG;rw[u,if_pos i2,d]
     have i0:eD g.data.toList e= -(x:Int):=by unfold eD;rw[u,if_pos i2];omega
     have f:rH L.data.toList:=by
      intro c hc;rw[d]at hc;rcases gd.1 hc with h|h
      .exact HD.o c (List.mem_of_mem_take h)
      .simp at h;subst h;decide
     have i8:=A f
     have hv:bO L.data.toList<10^L.size:=by
      have:=kH (l:=L.data.toList) (λx hx=>(f x hx).2)
      rwa[dw]at this
     have i9:0<bO L.data.toList:=by rw[d,tP];exact ew (by decide:0<(49:UInt8).toNat-48) (Nat.le_add_left _ _)
     have R:bQ ⟨neg,g.data.toList,e⟩=bH (bO L.data.toList) (10^x):=by
      unfold bQ;simp only[u];rw[if_neg h0,if_neg h1,if_neg h2,h9,i0,if_neg (by omega),show(- -(x:Int)).toNat=x by omega]
     have HF:=A R;have hB:=A (aBh (x:=x) hv (by omega));have i3:=A (zM hv (by omega));obtain⟨g1,t,i⟩:=fU w (S #[neg,g,J I (-(x:Int))] 339) (S #[J G 0,J I 0,O N] 359);have HB:=A i;have j:=A g1;have n:=A t;have k7:x<=1300:=by omega
     clear R h0 h9 i0 f d g1 t i;go_enter cj,ck;go_wp2_with fail;refine(uT L _ i8.o (by omega) (by omega)).mono ?_;rintro r w1 ⟨a,k,c,rfl,P,i⟩;have g1:=keep j.o i;have t:=keep n.o i;have d:=chain HB.o i;have j0:=bj t;have b1:E w1 w1 (w1.alloc (S #[X a k c] 381)):=(ai _ _).alloc (V _) _;have g1:=keep g1 b1;have t:=keep t b1;have d:=chain d b1;have Q:=bk w1 (S #[X a k c] 381);have P:=P.A4 b1;have j:=A g1;have n:=A t;have h:=A Q;have m:=A d;have HW:=A P;clear g1 t Q d P i b1;go_wp2_with fail;refine(aBq 1 _ (by decide)).mono ?_;rintro r w2 ⟨a1,k1,c1,rfl,y,i⟩;have j1:=bj (keep h.o i);have b2:E w2 w2 (w2.alloc (S #[X a1 k1 c1] 381)):=(ai _ _).alloc (V _) _;have q:=A (bk w2 (S #[X a1 k1 c1] 381));have j:=A (keep (keep j.o i) b2);have n:=A (keep (keep n.o i) b2);have h:=A (keep (keep h.o i) b2);have m:=A (chain (chain m.o i) b2);have HW:=A ((HW.o.A4 i).A4 b2);have i1:=A (y.A4 b2);clear i b2 y;obtain⟨c0,i4,c2,cf⟩:=cells3 j.o;have d5:=au h.o;have f5:=bu h.o;have d7:=au q.o;have f7:=bu q.o;have j2:=bj q.o;have k5:I.wrap (x:Int)=(x:Int):=wr (by omega) (by omega);have i5:w.heap.size+1<w2.heap.size:=by omega
     go_wp2_with fail;generalize w2.alloc (S #[X a1 k1 c1] 381)=w3 at*;refine(aBs x _ (by omega)).mono ?_;rintro r wx ⟨B,C,F,rfl,T,f⟩;have t:=keep n.o f;have Q:=keep h.o f;have g7:=keep q.o f;have d:=chain m.o f;have P:=HW.o.A4 f;have HM:=A (P.B5 g7 (by decide) 0 (X B C F));have HX:=A (T.B5 g7 (by decide) 0 (X B C F));have m:=A (d.setCell (p:=w2) (by simp;omega) (X B C F));have G2:=A ((aE (w:=wx) (o:=0) (k:=w.heap.size+1) (b:=w2.heap.size) (X B C F) (by omega)).trans t);have e5:=au ((aE (w:=wx) (o:=0) (k:=w1.heap.size) (b:=w2.heap.size) (X B C F) (by omega)).trans Q);have e7:=au (aB (o:=0) g7 (X B C F));have i7:=au g7;have j7:=bu g7;clear t Q g7 d P T f d5 f5 d7 f7 c0 i4 c2 cf j n h q HW i1;go_wp2_with fail;refine(uU a B k C c F (bO L.data.toList) (10^x) _ HM.o HX.o (di i9) (di (dx (by decide))) (ag i3.o (by decide)) (ag (iB x) (by omega)) hB.o).mono ?_;rintro r wz ⟨rfl,K⟩;have d:=chain m.o K;obtain⟨q0,q1,q2,qf⟩:=cells3 (keep G2.o K);have i6:=A d;clear d K m G2;rw[<-HF.o];obtain⟨⟨cb,ch,ce⟩,s⟩:∃z,bQ ⟨neg,g.data.toList,e⟩=z:=⟨_,rfl⟩;rw[s];have W:=A s;clear s HF;unfold cutV;go_wp2_with fail;exact Y (v:=cutV ⟨cb,ch,ce⟩) (by simp[Z,co,go_sem,cutV,q0,q1,q2]) rfl ⟨by rw[W.o],((i6.o.setCell (bm _) _).setCell (bm _) _).setCell (bm _) _⟩
    .have l3:0<g.size:=by
      cases hc:g.data.toList with
      | nil=>exact absurd hc h0
      | cons x r=>rw[hc]at u;simp at u;omega
     have j3:¬(800:Int)<(g.size:Int):=by omega
     have h9:bG g.data.toList=g.data.toList:=by unfold bG;rw[u,if_neg i2]
     have i0:eD g.data.toList e=e:=by unfold eD;rw[u,if_neg i2]
     have hv:bO g.data.toList<10^g.size:=by have:=kH (l:=g.data.toList) (λx hx=>(HD.o x hx).2);rwa[u]at this
     have i9:=k2.o (by omega);have i8:=HD
     by_cases j5:0<=e
     .obtain⟨x,rfl⟩:=Int.eq_ofNat_of_zero_le j5;have R:bQ ⟨neg,g.data.toList,(x:Int)⟩=bH (bO g.data.toList*10^x) 1:=by unfold bQ;simp only[u];rw[if_neg h0,if_neg h1,if_neg h2,h9,i0,if_pos j5,Int.toNat_natCast]
      have HF:=A R;have hB:=A (aIB (x:=x) hv (by omega));have i3:=A (zM hv (by omega));clear R h0 h9 i0;go_enter cj,ck;go_wp2_with fail;refine(uT g _ i8.o (by omega) (by omega)).mono ?_;rintro r w1 ⟨a,k,c,rfl,P,i⟩;have g1:=keep j.o i;have t:=keep n.o i;have d:=chain HB.o i;have j0:=bj t;have b1:E w1 w1 (w1.alloc (S #[X a k c] 381)):=(ai _ _).alloc (V _) _;have g1:=keep g1 b1;have t:=keep t b1;have d:=chain d b1;have Q:=bk w1 (S #[X a k c] 381);have P:=P.A4 b1;have j:=A g1;have n:=A t;have h:=A Q;have m:=A d;have HW:=A P;clear g1 t Q d P i b1;go_wp2_with fail;refine(aBq 1 _ (by decide)).mono ?_;rintro r w2 ⟨a1,k1,c1,rfl,y,i⟩;have j1:=bj (keep h.o i);have b2:E w2 w2 (w2.alloc (S #[X a1 k1 c1] 381)):=(ai _ _).alloc (V _) _;have q:=A (bk w2 (S #[X a1 k1 c1] 381));have j:=A (keep (keep j.o i) b2);have n:=A (keep (keep n.o i) b2);have h:=A (keep (keep h.o i) b2);have m:=A (chain (chain m.o i) b2);have HW:=A ((HW.o.A4 i).A4 b2);have i1:=A (y.A4 b2);clear i b2 y;obtain⟨c0,i4,c2,cf⟩:=cells3 j.o;have d5:=au h.o;have f5:=bu h.o;have d7:=au q.o;have f7:=bu q.o;have j2:=bj q.o;have i5:w.heap.size<w1.heap.size:=by omega
      go_wp2_with fail;generalize w2.alloc (S #[X a1 k1 c1] 381)=w3 at*;clear c0 i4 d7 f7;have L:(ge (bO g.data.toList)).length<=1048576:=ag (gh (k:=128) (ag i3.o (by decide))) (by decide);have j6:(ge (10^x)).length<=1048576:=ag (gh (k:=128) (ag (iB x) (by omega))) (by decide);have k6:=A L;have k7:=A j6;clear L j6
      go_region_with
       (first|(go_at_call 233;(with_reducible refine(aBs x _ (by omega)).mono ?_);rintro r wx ⟨ax,kx,cx,rfl,T,f⟩;have j4:=(f.cell (p:=w1) (by simp;omega)).trans d5;have k0:=(f.cell (p:=⟨w.heap.size,2,aw⟩) (by simp;omega)).trans c2)|(go_at_call 232;(with_reducible refine(aKZ a ax k kx c cx (bO g.data.toList) (10^x) _ ((HW.o.B0).A4 f) T k6.o k7.o).mono ?_);rintro r wy ⟨B,C,F,rfl,j6,L⟩;have k8:=(L.cell (p:=w1) (by have:=f.size;simp at this;simp;omega)).trans j4;have k9:=(L.cell (p:=⟨w.heap.size,2,aw⟩) (by have:=f.size;simp at this;simp;omega)).trans k0;have l0:=(L.frozen (p:=w1) (by have:=f.size;simp at this;simp;omega)).trans ((f.frozen (p:=w1) (by simp;omega)).trans f5)))
      all_goals
       have g1:=keep (keep (w1:=w3.drew) j.o f) L;have t:=keep (keep (w1:=w3.drew) n.o f) L;have Q:=keep (keep (w1:=w3.drew) h.o f) L;have g7:=keep (keep (w1:=w3.drew) q.o f) L;have d:=chain (chain m.o.drew f) L;have y:=((i1.o.B0).A4 f).A4 L;rw[wR (ag hB.o (by decide))]at j6;have HM:=A (j6.B5 Q (by decide) 0 (X B C F));have i1:=A (y.B5 Q (by decide) 0 (X B C F));have m:=A (d.setCell (p:=w1) (dh i5) (X B C F));have G2:=A ((aE (w:=wy) (o:=0) (k:=w.heap.size+1) (b:=w1.heap.size) (X B C F) (by omega)).trans t);have e5:=au (aB (o:=0) Q (X B C F));have e7:=au ((aE (w:=wy) (o:=0) (k:=w2.heap.size) (b:=w1.heap.size) (X B C F) (by omega)).trans g7);clear g1 t Q g7 d y j6 j4 k0 k8 k9 l0 f L T d5 f5 c2 cf j n h q HW;go_wp2_with fail;refine(uU B a1 C k1 F c1 (bO g.data.toList*10^x) 1 _ HM.o i1.o (di (ev i9 (dx (by decide)))) (by decide) (ag hB.o (by decide)) (by decide) (ag hB.o (by decide))).mono ?_;rintro r wz ⟨rfl,K⟩;have d:=chain m.o K;obtain⟨q0,q1,q2,qf⟩:=cells3 (keep G2.o K);have i6:=A d;clear d K m G2;rw[<-HF.o];obtain⟨⟨cb,ch,ce⟩,s⟩:∃z,bQ ⟨neg,g.data.toList,(x:Int)⟩=z:=⟨_,rfl⟩;rw[s];have W:=A s;clear s HF;unfold cutV;go_wp2_with fail;exact Y (v:=cutV ⟨cb,ch,ce⟩) (by simp[Z,co,go_sem,cutV,q0,q1,q2]) rfl ⟨by rw[W.o],((i6.o.setCell (bm _) _).setCell (bm _) _).setCell (bm _) _⟩
     .obtain⟨x,hx⟩:∃x:Nat,e= -(x:Int):=⟨(-e).toNat,by omega⟩;subst hx;have k4:0<x:=by omega
      have j8:¬x=0:=by omega
      have j9:¬(x:Int)<=0:=by omega
      have R:bQ ⟨neg,g.data.toList,-(x:Int)⟩=bH (bO g.data.toList) (10^x):=by
       unfold bQ;simp only[u];rw[if_neg h0,if_neg h1,if_neg h2,h9,i0,if_neg j5,show(- -(x:Int)).toNat=x by omega]
      have HF:=A R;have hB:=A (aBh (x:=x) hv (by omega));have i3:=A (zM hv (by omega));clear R h0 h9 i0;go_enter cj,ck;go_wp2_with fail;refine(uT g _ i8.o (by omega) (by omega)).mono ?_;rintro r w1 ⟨a,k,c,rfl,P,i⟩;have g1:=keep j.o i;have t:=keep n.o i;have d:=chain HB.o i;have j0:=bj t;have b1:E w1 w1 (w1.alloc (S #[X a k c] 381)):=(ai _ _).alloc (V _) _;have g1:=keep g1 b1;have t:=keep t b1;have d:=chain d b1;have Q:=bk w1 (S #[X a k c] 381);have P:=P.A4 b1;have j:=A g1;have n:=A t;have h:=A Q;have m:=A d;have HW:=A P;clear g1 t Q d P i b1;go_wp2_with fail;refine(aBq 1 _ (by decide)).mono ?_;rintro r w2 ⟨a1,k1,c1,rfl,y,i⟩;have j1:=bj (keep h.o i);have b2:E w2 w2 (w2.alloc (S #[X a1 k1 c1] 381)):=(ai _ _).alloc (V _) _;have q:=A (bk w2 (S #[X a1 k1 c1] 381));have j:=A (keep (keep j.o i) b2);have n:=A (keep (keep n.o i) b2);have h:=A (keep (keep h.o i) b2);have m:=A (chain (chain m.o i) b2);have HW:=A ((HW.o.A4 i).A4 b2);have i1:=A (y.A4 b2);clear i b2 y;obtain⟨c0,i4,c2,cf⟩:=cells3 j.o;have d5:=au h.o;have f5:=bu h.o;have d7:=au q.o;have f7:=bu q.o;have j2:=bj q.o;have k5:I.wrap (x:Int)=(x:Int):=wr (by omega) (by omega);have i5:w.heap.size+1<w2.heap.size:=by omega
      go_wp2_with fail;generalize w2.alloc (S #[X a1 k1 c1] 381)=w3 at*;refine(aBs x _ (by omega)).mono ?_;rintro r wx ⟨B,C,F,rfl,T,f⟩;have t:=keep n.o f;have Q:=keep h.o f;have g7:=keep q.o f;have d:=chain m.o f;have P:=HW.o.A4 f;have HM:=A (P.B5 g7 (by decide) 0 (X B C F));have HX:=A (T.B5 g7 (by decide) 0 (X B C F));have m:=A (d.setCell (p:=w2) (by simp;omega) (X B C F));have G2:=A ((aE (w:=wx) (o:=0) (k:=w.heap.size+1) (b:=w2.heap.size) (X B C F) (by omega)).trans t);have e5:=au ((aE (w:=wx) (o:=0) (k:=w1.heap.size) (b:=w2.heap.size) (X B C F) (by omega)).trans Q);have e7:=au (aB (o:=0) g7 (X B C F));have i7:=au g7;have j7:=bu g7;clear t Q g7 d P T f d5 f5 d7 f7 c0 i4 c2 cf j n h q HW i1;go_wp2_with fail;refine(uU a B k C c F (bO g.data.toList) (10^x) _ HM.o HX.o (di i9) (di (dx (by decide))) (ag i3.o (by decide)) (ag (iB x) (by omega)) hB.o).mono ?_;rintro r wz ⟨rfl,K⟩;have d:=chain m.o K;obtain⟨q0,q1,q2,qf⟩:=cells3 (keep G2.o K);have i6:=A d;clear d K m G2;rw[<-HF.o];obtain⟨⟨cb,ch,ce⟩,s⟩:∃z,bQ ⟨neg,g.data.toList,-(x:Int)⟩=z:=⟨_,rfl⟩;rw[s];have W:=A s;clear s HF;unfold cutV;go_wp2_with fail;exact Y (v:=cutV ⟨cb,ch,ce⟩) (by simp[Z,co,go_sem,cutV,q0,q1,q2]) rfl ⟨by rw[W.o],((i6.o.setCell (bm _) _).setCell (bm _) _).setCell (bm _) _⟩
def aMt{c d:Cut}(e:c.bits<=aM)(a:¬aM<b->d.bits<=aM):(if aM<b then c else d).bits<=aM:=by
 split
 .exact e
 .rename_i h;exact a h
def aMc(q r:Nat)(a:Int):(kD q r a).bits<=aM:=aMt (V _) (λh=>Nat.not_lt.1 h)
def aKD(d:Dml):(bQ d).bits<=aM:=by
 unfold bQ;split
 .exact dy _
 .split
  .exact V _
  .split
   .exact dy _
   .split<;>exact aMc _ _ _
def uV(h:b<9223372036854775808):cr BinOp.or G (b:Int) 9223372036854775808=((b+9223372036854775808:Nat):Int):=by
 have e:=bits_or_u64_nat b 9223372036854775808 (by omega) (by decide)
 have a:b||| 9223372036854775808=b+9223372036854775808:=by
  have:=Nat.two_pow_add_eq_or_of_lt (i:=63) (b:=b) (by simpa using h) 1;rw[Nat.or_comm,Nat.add_comm]
  simpa using this.symm
 rw[a]at e;exact e
def and_one(h:b<18446744073709551616):cr dj G (b:Int) 1=((b%2:Nat):Int):=by
 have e:=bits_and_u64_nat b 1 h (by decide);rw[Nat.and_one_is_mod]at e;exact e
def jC(neg:Bool)(b:Nat):Nat:=if neg=U/\0<b then b+9223372036854775808 else b
def gK(neg:Bool)(b:Nat):Option Nat:=if aM<b then aw else aj (jC neg b)
def zN(o:Option Nat)(e:fc):Prop:=match o with
 | some b=>e=af (av #[J G b,bw])
 | none=>e=af (av #[J G 0,ct 29 (J I 41)])
def aG4(o:Option Nat)(e:fc):Prop:=match o with
 | some b=>e=af (av #[J G b,bw])
 | none=>∃T v,e=af (av #[J G 0,ct T v])
def aD8(neg:Bool)(g:ByteArray)(e:Int)(w:ah)(d:rH g.data.toList)(y:g.size<=1073741824)(z: -4611686018427387904<=e)(p:e<=4611686018427387904)(a:g.size≠0->0<bO g.data.toList):
 ac ae 195 #[H #[neg,g,e],J I 1] w λr w'=>zN (cF ⟨neg,g.data.toList,e⟩) r/\E w w w':=by
 have t:=λw=>aIC neg g e w d y z p a
 have n:=aKD ⟨neg,g.data.toList,e⟩;have f:cF ⟨neg,g.data.toList,e⟩=gK neg (cC (bQ ⟨neg,g.data.toList,e⟩)):=rfl;rw[f];clear f d a;obtain⟨⟨b,l,x⟩,a⟩:∃c,bQ ⟨neg,g.data.toList,e⟩=c:=⟨_,rfl⟩;simp only[a]at*;clear a
 unfold cutV at t;go_enter func195,ntmps195;go_wp2_with fail;refine(t _).mono ?_;rintro r w1 ⟨rfl,h⟩;obtain⟨d,a,B⟩:=after1 h;have b1:E w1 w1 (w1.alloc (S #[J G b,l,x] 359)):=(ai _ _).alloc (V _) _;have C:=keep d b1;obtain⟨-,-,-,-⟩:=cells3 C;have u:=A (and_one (b:=b) (by unfold aM at n;omega));have f:=A (λo:Obj=>a.alloc (by omega) o);have F:∀o:Obj,(w1.alloc o).cell? w=aj (O neg):=λo=>(cells3 (keep d ((ai _ _).alloc (V _) o))).1
 clear h d a b1
 have h:∃a:Nat,cC ⟨b,l,x⟩=a/\a<9223372036854775808/\((l=0/\cr dj G (b:Int) 1=0/\a=b)\/(l=0/\cr dj G (b:Int) 1=1/\x=N/\G.wrap ((b:Int)+1)=(a:Int))\/(l=0/\cr dj G (b:Int) 1=1/\x=U/\a=b)\/((l==0)=N/\0<=l/\x=N/\G.wrap ((b:Int)+1)=(a:Int))\/((l==0)=N/\0<=l/\x=U/\a=b)\/((l==0)=N/\¬0<=l/\a=b)):=by
  have j:b+1<9223372036854775808:=by unfold aM at n;omega
  have k:G.wrap ((b:Int)+1)=((b+1:Nat):Int):=by rw[gr];omega
  unfold cC
  by_cases m:l=0
  .subst m
   by_cases d:b%2=0
   .exact⟨b,if_pos ⟨rfl,d⟩,by omega,cg ⟨rfl,by rw[u.o,d];rfl,rfl⟩⟩
   .have i:cr dj G (b:Int) 1=1:=by rw[u.o,show b%2=1 by omega];rfl
    rw[if_neg (λl=>d l.2)];cases x
    .exact⟨b+1,if_pos ⟨Int.le_refl 0,rfl⟩,j,ak (cg ⟨rfl,i,rfl,k⟩)⟩
    .exact⟨b,if_neg (by simp),by omega,ak (ak (cg ⟨rfl,i,rfl,rfl⟩))⟩
  .have q:(l==0)=N:=by simpa using m
   rw[if_neg (λs=>m s.1)]
   by_cases d:0<=l
   .cases x
    .exact⟨b+1,if_pos ⟨d,rfl⟩,j,ak (ak (ak (cg ⟨q,d,rfl,k⟩)))⟩
    .exact⟨b,if_neg (by simp),by omega,ak (ak (ak (ak (cg ⟨q,d,rfl,rfl⟩))))⟩
   .exact⟨b,if_neg (λs=>d s.1),by omega,ak (ak (ak (ak (ak ⟨q,d,rfl⟩))))⟩
 obtain⟨a,d,q,h⟩:=h;have j:=A d;clear d;rcases h with⟨rfl,a1,rfl⟩|⟨rfl,a1,rfl,a2⟩|⟨rfl,a1,rfl,rfl⟩|⟨a1,a2,rfl,a3⟩|⟨a1,a2,rfl,rfl⟩|⟨a1,a2,rfl⟩
 all_goals
  by_cases k:aM<a
  .have s:(9218868437227405311:Int)<(a:Int):=by unfold aM at k;omega
   have d:=A (show gK neg a=aw from if_pos k);clear k;go_wp2_with fail;exact Y (v:=av #[J G 0,ct 29 (J I 41)]) (by simp[Z,ee,go_sem]) rfl ⟨by rw[j.o,d.o];rfl,f.o _⟩
  .have s:¬(9218868437227405311:Int)<(a:Int):=by unfold aM at k;omega
   have d:=A (show gK neg a=aj (jC neg a)from if_neg k);clear k;have K:=uV q;cases neg with
   | false=>
    go_wp2_with fail;exact Y (v:=av #[J G a,bw]) (by simp[Z,ee,go_sem]) rfl ⟨by rw[j.o,d.o];rfl,f.o _⟩
   | true=>
    by_cases k:0<a
    .have i:(0:Int)<(a:Int):=by omega
     have m:=A (show jC U a=a+9223372036854775808 from if_pos ⟨rfl,k⟩);clear k;go_wp2_with fail;exact Y (v:=av #[J G ((a+9223372036854775808:Nat):Int),bw]) (by simp[Z,ee,go_sem]) rfl ⟨by rw[j.o,d.o,m.o];rfl,f.o _⟩
    .have i:¬(0:Int)<(a:Int):=by omega
     have m:=A (show jC U a=a from if_neg (λl=>k l.2));clear k;go_wp2_with fail;exact Y (v:=av #[J G a,bw]) (by simp[Z,ee,go_sem]) rfl ⟨by rw[j.o,d.o,m.o];rfl,f.o _⟩
def aCf(w:ah):ac ae 193 #[J I 1] w λe w'=>e=af (O U)/\w'=w:=by
 go_enter func193,ntmps193;go_wp2;go_ret;exact⟨rfl,rfl⟩
def aID{r:Oo}(h:l.dropWhile (λx=>x==48)=c::r):c≠48:=by
 induction l with
 | nil=>cases h
 | cons x l b=>
  by_cases a:(x==48)=U
  .rw[List.dropWhile_cons_of_pos (by simpa using a)]at h;exact b h
  .rw[List.dropWhile_cons_of_neg (by simpa using a)]at h;injection h with d h2
   subst d;intro e;subst e;exact a rfl
def aKE(neg:Bool)(a:Oo)(e:Int)(j:∀c∈a,isD c=U):rH (cB neg a e).b/\(cB neg a e).b.length<=a.length/\((cB neg a e).b≠ []->0<bO (cB neg a e).b)/\
 ((cB neg a e).c=0\/(e<=(cB neg a e).c/\(cB neg a e).c<=e+a.length)):=by
 unfold cB;split
 .exact⟨(λc b=>by cases b),dy _,λh=>absurd rfl h,cg rfl⟩
 .rename_i i;have o:∀c∈ar a 48,c∈a:=λc b=>(gj _).subset b
  have n:(ar a 48).length<=a.length:=(gj _).length_le
  obtain⟨y,g⟩:∃y,ar a 48=bx (ar a 48) 48++y:=by
   have p:=List.dropWhile_suffix (l:=(ar a 48).reverse) (λx:UInt8=>x==48);obtain⟨t,m⟩:=p;refine⟨t.reverse,?_⟩;have:=congrArg List.reverse m;rw[List.reverse_append,List.reverse_reverse]at this;exact this.symm
  have d:∀c∈bx (ar a 48) 48,c∈a:=λc b=>o c (by rw[g];exact List.mem_append_left _ b)
  have s:(bx (ar a 48) 48).length<=(ar a 48).length:=by
   have:=congrArg List.length g;rw[fa]at this;omega
  refine⟨λc b=>by have:=j c (d c b);simpa[isD]using this,by show(bx (ar a 48) 48).length<=_;omega,λ_=>?_,ak ⟨?_,?_⟩⟩
  .show 0<bO (bx (ar a 48) 48)
   cases k:bx (ar a 48) 48 with
   | nil=>exact absurd k i
   | cons c r=>
    rw[k]at g d;have b:=aID (l:=a) (r:=r++y) (c:=c) g;have f:=j c (d c (by simp));have w:48<=c.toNat:=by simp[isD]at f;exact f.1
    have v:c.toNat≠48:=λh=>b (UInt8.toNat_inj.1 h)
    have u:bO (c::r)=bO [c]*10^r.length+bO r:=jV [c] r;have q:bO [c]=c.toNat-48:=by simp[bO]
    rw[u,q];exact ew (ev (by omega) (dx (by decide))) (Nat.le_add_right _ _)
  .show e<=e+((ar a 48).length:Int)-((bx (ar a 48) 48).length:Int);omega
  .show e+((ar a 48).length:Int)-((bx (ar a 48) 48).length:Int)<=_;omega
def aIE(s:ByteArray)(w:ah)(K:s.size<=1073741824):ac ae 172 #[s,J I 1] w λe w'=>aG4 (bitsOf s.data.toList) e/\E w w w':=by
 have g:=λw=>aGd s w K
 have L:s.data.toList.length=s.size:=dw;cases h:bI s.data.toList with
 | none=>
  have b:bitsOf s.data.toList=aw:=by unfold bitsOf;rw[h];rfl
  rw[b];simp only[h]at g;have n:=A g;clear h b g;go_enter fe,fg;go_wp2_with fail;refine(aCf _).mono ?_;rintro e w1 ⟨rfl,rfl⟩;go_wp2_with fail;refine(n.o _).mono ?_;rintro e w1 ⟨⟨i,rfl⟩,b⟩;have f:=A (b.alloc b.size (S #[O N,"",J I 0] 339));clear b;unfold fV;go_wp2_with fail;exact Y (v:=av #[J G 0,ct 151 (H #[J I 40,i])]) (by simp[Z,fh,go_sem]) rfl ⟨⟨_,_,rfl⟩,f.o⟩
 | some l=>
  obtain⟨o1,B,C,P⟩:=aG3 h;have b:bitsOf s.data.toList=cF (dA l):=by unfold bitsOf;rw[h];rfl
  have o:=aA3 (a:=0) (l:=l.c) (by omega) (λc t=>by have:=C c t;simp[isD]at this;exact this.2);obtain⟨u,x,y,z⟩:=aKE l.a (l.whole++l.b) ((if l.d then -(fH l.c:Int)else fH l.c)-l.b.length) (λc t=>(gd.1 t).elim (o1 c) (B c))
  have Q: -351843720888329<=(if l.d then -(fH l.c:Int)else fH l.c)/\(if l.d then -(fH l.c:Int)else fH l.c)<=351843720888329:=by
   have:fH l.c<=351843720888329:=o;split<;>omega
  rw[fa]at x z;change rH (dA l).b at u;change(dA l).b.length<=_ at x;change((dA l).b≠ []->0<bO (dA l).b)at y;change((dA l).c=0\/(_<=(dA l).c/\(dA l).c<=_))at z;simp only[h]at g;rw[b];obtain⟨⟨k,j,m⟩,F⟩:∃d,dA l=d:=⟨_,rfl⟩;have g:∀w,ac ae 194 #[s] w λe w'=>e=af (av #[fV (dA l),bw])/\E w.heap.size w w':=g
  simp only[F]at*;have p:=λw=>aD8 k ⟨j.toArray⟩ m w (by simpa using u) (by show j.toArray.size<=_;simp;omega) (by omega) (by omega) (λT=>by have:=y (λR=>T (by subst R;rfl));simpa using this)
  have p:∀w,ac ae 195 #[H #[k,D ⟨j.toArray⟩,m],J I 1] w λr w'=>zN (cF ⟨k,j,m⟩) r/\E w.heap.size w w':=by simpa using p
  have n:=A g;have q:=A p;clear h b g p F u x y z Q o o1 B C P;unfold fV at n;cases o:cF ⟨k,j,m⟩with
  | none=>
   rw[o]at q;go_enter fe,fg;go_wp2_with fail;refine(aCf _).mono ?_;rintro e w1 ⟨rfl,rfl⟩;go_wp2_with fail;refine(n.o _).mono ?_;rintro e w1 ⟨rfl,b⟩;have f:=A (b.alloc b.size (S #[k,D ⟨j.toArray⟩,m] 339));clear b;go_wp2_with fail;refine(q.o _).mono ?_;rintro e w2 ⟨rfl,b⟩;have h:=A (chain f.o b);clear b;go_wp2_with fail;exact Y (v:=av #[J G 0,ct 29 (J I 41)]) (by simp[Z,fh,go_sem]) rfl ⟨⟨_,_,rfl⟩,h.o⟩
  | some p=>
   rw[o]at q;go_enter fe,fg;go_wp2_with fail;refine(aCf _).mono ?_;rintro e w1 ⟨rfl,rfl⟩;go_wp2_with fail;refine(n.o _).mono ?_;rintro e w1 ⟨rfl,b⟩;have f:=A (b.alloc b.size (S #[k,D ⟨j.toArray⟩,m] 339));clear b;go_wp2_with fail;refine(q.o _).mono ?_;rintro e w2 ⟨rfl,b⟩;have h:=A (chain f.o b);clear b;go_wp2_with fail;exact Y (v:=av #[J G p,bw]) (by simp[Z,fh,go_sem]) rfl ⟨rfl,h.o⟩
def aD9(s:ByteArray)(w:ah)(f:s.size<=1073741824):ac ae 146 #[s] w λe w'=>aG4 (bitsOf s.data.toList) e/\E w w w':=by
 have c:=A (λw=>aIE s w f);cases d:bitsOf s.data.toList with
 | none=>
  rw[d]at c;go_enter func146,ntmps146;go_wp2_with fail;refine(c.o _).mono ?_;rintro e w1 ⟨⟨T,v,rfl⟩,a⟩;go_wp2_with fail;exact Y (v:=av #[J G 0,ct T v]) (by simp[Z,gk,go_sem]) rfl ⟨⟨_,_,rfl⟩,a⟩
 | some b=>
  rw[d]at c;go_enter func146,ntmps146;go_wp2_with fail;refine(c.o _).mono ?_;rintro e w1 ⟨rfl,a⟩;go_wp2_with fail;exact Y (v:=av #[J G b,bw]) (by simp[Z,gk,go_sem]) rfl ⟨rfl,a⟩
def aC2(w:ah)(s:ByteArray)(b:Nat)(hs:s.size<=2147483648)(he:b+1<s.size)(c:s[b+1]=117)(B:∀n,cX N 4 0 (s.data.toList.drop (b+2))≠bp n):ac ae 155 #[s,b] w λe w'=>
 e=af (gP b (jG (s.data.toList.drop (b+1))))/\E w w w':=by
 obtain⟨p,t⟩:∃p,b+1=p:=⟨_,rfl⟩;have c:s[p]'(by omega)=117:=by subst t;exact c
 have C:p<s.size:=by omega
 have q1:I.wrap ((b:Int)+1)=(p:Int):=by rw[ao];omega
 have q2:¬(s.size:Int)<=(p:Int):=by omega
 have q3:(p:Int)<(s.size:Int):=by omega
 have q4:I.wrap ((b:Int)+2)=((b+2:Nat):Int):=by rw[ao];omega
 have u:=A (λW=>pJ W s (b+2) N (by omega) hs);rw[t,bA C,jG,if_pos c,show p+1=b+2 by omega];have e1:(((s[p].toNat:Nat):Int)!=117)=N:=by rw[c];rfl
 have h:(w.alloc (S #["",J I 0,J I 0,J I 0,O N] 200)).heap[w.heap.size]?=aj (S #["",J I 0,J I 0,J I 0,O N] 200 (0,0)):=bk w _;have i:=(ai w w).alloc (V _) (S #["",J I 0,J I 0,J I 0,O N] 200);clear c;cases f:cX N 4 0 (s.data.toList.drop (b+2))with
 | ok n=>exact absurd f (B n)
 | cut=>
  rw[f,kE]at u;clear f B t;go_enter eh,ei;go_wp2_with fail;refine(u.o _).mono ?_;rintro e j ⟨rfl,c⟩;have d:=(ai j j).alloc (V _) (S #["",J I 0,J I 0,J I 0,O U] 200);have y:=A (keep (keep h c) d);have z:=A (chain (chain i c) d);obtain⟨L,c1,c2,Q,R,T⟩:=cells5 (keep (keep h c) d);clear c d h i;go_wp2;obtain⟨P,k⟩:=aS (D ⟨#[]⟩) (J I 0) (J I 0) (J I 0) (O U) y.o z.o (V _);have g:=A k;obtain⟨l,m,o,q,r,_⟩:=cells5 P;exact Y (v:=H #["",J I 0,J I 0,J I 0,O U]) (by simp[Z,ba,go_sem,l,m,o,q,r]) rfl ⟨by rfl,g.o⟩
 | bad no a=>
  have F:=oH f;obtain⟨x,K⟩:∃x,b+2+a=x:=⟨_,rfl⟩;rw[f,kE,K]at u;have HX:=A K;clear f B t K;rcases F with rfl|rfl
  all_goals
   go_enter eh,ei;go_wp2_with fail;refine(u.o _).mono ?_;rintro e j ⟨rfl,c⟩;have d:=λno=>(ai j j).alloc (V _) (S #["",J I 0,J I no,J I (x:Int),O N] 200)
   have y:=A (λno=>keep (keep h c) (d no));have z:=A (λno=>chain (chain i c) (d no))
   first
   | (obtain ⟨L, c1, c2, Q, R, T⟩ := cells5 (keep (keep h c) (d 92))
      clear c d h i;go_wp2;obtain⟨P,k⟩:=aS (D ⟨#[]⟩) (J I 0) (J I 92) (J I (x:Int)) (O N) (y.o 92) (z.o 92) (V _);have g:=A k;obtain⟨l,m,o,q,r,_⟩:=cells5 P;exact Y (v:=H #["",J I 0,J I 92,J I (x:Int),O N]) (by simp[Z,ba,go_sem,l,m,o,q,r]) rfl ⟨by rw[<-HX.o,fi];rfl,g.o⟩)
   | (obtain ⟨L, c1, c2, Q, R, T⟩ := cells5 (keep (keep h c) (d 93))
      clear c d h i;go_wp2;obtain⟨P,k⟩:=aS (D ⟨#[]⟩) (J I 0) (J I 93) (J I (x:Int)) (O N) (y.o 93) (z.o 93) (V _);have g:=A k;obtain⟨l,m,o,q,r,_⟩:=cells5 P;exact Y (v:=H #["",J I 0,J I 93,J I (x:Int),O N]) (by simp[Z,ba,go_sem,l,m,o,q,r]) rfl ⟨by rw[<-HX.o,fi];rfl,g.o⟩)
def aJM(w:ah)(s:ByteArray)(a n:Nat)(o:s.size<=2147483648)(y:a+1<s.size)(c:s[a+1]=117)(b:cX N 4 0 (s.data.toList.drop (a+2))=bp n)(f:n<55296\/56319<n):ac ae 155 #[s,a] w λe w'=>
 e=af (gP a (jG (s.data.toList.drop (a+1))))/\E w w w':=by
 obtain⟨p,d⟩:∃p,a+1=p:=⟨_,rfl⟩;have c:s[p]'(by omega)=117:=by subst d;exact c
 have g:p<s.size:=by omega
 have z:I.wrap ((a:Int)+1)=(p:Int):=by rw[ao];omega
 have B:¬(s.size:Int)<=(p:Int):=by omega
 have C:(p:Int)<(s.size:Int):=by omega
 have F:I.wrap ((a:Int)+2)=((a+2:Nat):Int):=by rw[ao];omega
 have j:=A (λW=>pJ W s (a+2) N (by omega) o);rw[d,bA g,jG,if_pos c,show p+1=a+2 by omega];have K:(((s[p].toNat:Nat):Int)!=117)=N:=by rw[c];rfl
 obtain⟨m,i,_⟩:=vB b;have q:=A (λW=>vA W n (by omega) (by have:=i rfl;omega));have L:gl.wrap (n:Int)=(n:Int):=by rw[gm];omega
 have k:(w.alloc (S #["",J I 0,J I 0,J I 0,O N] 200)).heap[w.heap.size]?=aj (S #["",J I 0,J I 0,J I 0,O N] 200 (0,0)):=bk w _;have l:=(ai w w).alloc (V _) (S #["",J I 0,J I 0,J I 0,O N] 200);rw[b,kE]at j;rw[b,fj,if_pos f];have h:(n:Int)<55296\/(¬(n:Int)<55296/\(56319:Int)<(n:Int)):=by omega
 clear c b d m i f;rcases h with f|⟨f,r⟩
 all_goals
  go_enter eh,ei;go_wp2_with fail;refine(j.o _).mono ?_;rintro e m ⟨rfl,b⟩;have c:=(ai m m).alloc (V _) (S #["",J I 0,J I 0,J I 0,O N] 200);have i:=keep (keep k b) c;have d:=chain (chain l b) c;clear b c k l;go_wp2_with fail;refine(q.o _).mono ?_;rintro e Q ⟨rfl,b⟩;have c:=A (keep i b);have k:=A (chain d b);obtain⟨R,c1,c2,T,c4,cf⟩:=cells5 (keep i b);clear b i d;go_wp2;obtain⟨P,d⟩:=aS (D ⟨(aT n).toArray⟩) (J I 6) (J I 0) (J I 0) (O N) c.o k.o (V _);have b:=A d;obtain⟨i,l,t,u,x,_⟩:=cells5 P;exact Y (v:=H #[D ⟨(aT n).toArray⟩,J I 6,J I 0,J I 0,O N]) (by simp[Z,ba,go_sem,i,l,t,u,x]) rfl ⟨by rfl,b.o⟩
def aJN(w:ah)(s:ByteArray)(c n:Nat)(hs:s.size<=2147483648)(he:c+1<s.size)(d:s[c+1]=117)(b:cX N 4 0 (s.data.toList.drop (c+2))=bp n)(g:55296<=n/\n<=56319):ac ae 155 #[s,c] w λe w'=>
 e=af (gP c (jG (s.data.toList.drop (c+1))))/\E w w w':=by
 obtain⟨p,f⟩:∃p,c+1=p:=⟨_,rfl⟩;have d:s[p]'(by omega)=117:=by subst f;exact d
 have i5:p<s.size:=by omega
 have q1:I.wrap ((c:Int)+1)=(p:Int):=by rw[ao];omega
 have q2:¬(s.size:Int)<=(p:Int):=by omega
 have q3:(p:Int)<(s.size:Int):=by omega
 have q4:I.wrap ((c:Int)+2)=((c+2:Nat):Int):=by rw[ao];omega
 have HF:=A (λW=>pJ W s (c+2) N (by omega) hs);rw[f,bA i5,jG,if_pos d,show p+1=c+2 by omega];have e1:(((s[p].toNat:Nat):Int)!=117)=N:=by rw[d];rfl
 have h:(w.alloc (S #["",J I 0,J I 0,J I 0,O N] 200)).heap[w.heap.size]?=aj (S #["",J I 0,J I 0,J I 0,O N] 200 (0,0)):=bk w _;have i:=(ai w w).alloc (V _) (S #["",J I 0,J I 0,J I 0,O N] 200);rw[b,kE]at HF;rw[b,fj,if_neg (by omega),List.drop_drop,show c+2+4=c+6 by omega];have i6:¬(n:Int)<55296:=by omega
 have i7:¬(56319:Int)<(n:Int):=by omega
 have HN:=A g;have HA:=A he;clear d b f g;obtain⟨r,b⟩:∃r,c+6=r:=⟨_,rfl⟩;have C:I.wrap ((c:Int)+6)=(r:Int):=by have:=HA.o;rw[ao];omega
 have F:I.wrap (r:Int)=(r:Int):=by have:=HA.o;rw[ao];omega
 have B:I.wrap ((r:Int)+1)=((r+1:Nat):Int):=by have:=HA.o;rw[ao];omega
 rw[b];have HR:=A b;clear b;obtain⟨R,d⟩:∃R,qN n (s.data.toList.drop r)=R:=⟨_,rfl⟩;rw[d];go_enter eh,ei;go_wp2_with fail;refine(HF.o _).mono ?_;rintro e w3 ⟨rfl,b⟩;have f:=(ai w3 w3).alloc (V _) (S #["",J I 0,J I 0,J I 0,O N] 200);have g8:=A (keep (keep h b) f);have i3:=A (chain (chain i b) f);clear b f h i;go_wp2_with fail;generalize w3.alloc (S #["",J I 0,J I 0,J I 0,O N] 200)=w4 at*;have h:=A (λq=>show(w4.drewN q).heap[w.heap.size]?=aj (S #["",J I 0,J I 0,J I 0,O N] 200 (0,0))from g8.o);have i:=A (λq=>show E w w (w4.drewN q)from i3.o.trans ⟨rfl,rfl,rfl,V _,λ_ _=>rfl⟩);refine wp_loop_rounds 3 ?_
 by_cases h6:r<s.size
 .have a1:¬(s.size:Int)<=(r:Int):=by omega
  have a2:(r:Int)<(s.size:Int):=by omega
  have p0:(((⟨#[92,117]⟩:ByteArray)[0].toNat:Nat):Int)=92:=rfl;have p1:(((⟨#[92,117]⟩:ByteArray)[1].toNat:Nat):Int)=117:=rfl;rw[bA h6]at d;simp only[qN]at d
  by_cases K:s[r]=92
  .have e2:(((s[r].toNat:Nat):Int)!=92)=N:=by rw[K];rfl
   rw[if_pos K]at d;obtain⟨q,b⟩:∃q,r+1=q:=⟨_,rfl⟩;rw[b]at d B;have HQ:=A b;clear K b;rw[bc];go_wp2
   go_quiet (fail)
   go_wp2_with fail
   by_cases h7:q<s.size
   .have a3:¬(s.size:Int)<=(q:Int):=by omega
    have a4:(q:Int)<(s.size:Int):=by omega
    rw[bA h7]at d;simp only at d
    by_cases j:s[q]=117
    .have e3:(((s[q].toNat:Nat):Int)!=117)=N:=by rw[j];rfl
     obtain⟨t,b⟩:∃t,c+8=t:=⟨_,rfl⟩;have t1:I.wrap ((c:Int)+8)=(t:Int):=by have:=HA.o;rw[ao];omega
     have k:=A (λW=>pJ W s t U (by have:=HA.o;omega) hs);rw[if_pos j,show q+1=t by have:=HQ.o;have:=HR.o;omega]at d;have HT:=A b;clear j b;cases l:cX U 4 0 (s.data.toList.drop t)with
     | cut=>
      rw[l]at k d;rw[kE]at k;have d:ej=R:=d;subst d;clear l;rw[bc];go_wp2
      go_quiet (fail)
      go_wp2_with fail;rw[bc];go_wp2_with fail;refine(k.o _).mono ?_;rintro e w5 ⟨rfl,b⟩;have f:=(ai w5 w5).alloc (V _) (S #["",J I 0,J I 0,J I 0,O U] 200);have K7:=A (keep (keep (h.o _) b) f);have KB:=A (chain (chain (i.o _) b) f);obtain⟨c0,c1,c2,c3,c4,cf⟩:=cells5 (keep (keep (h.o _) b) f);clear b f;go_wp2;obtain⟨P,L⟩:=aS (D ⟨#[]⟩) (J I 0) (J I 0) (J I 0) (O U) K7.o KB.o (V _);have g:=A L;obtain⟨Q,C,F,B,T,_⟩:=cells5 P;exact Y (v:=H #["",J I 0,J I 0,J I 0,O U]) (by simp[Z,ba,go_sem,Q,C,F,B,T]) rfl ⟨rfl,g.o⟩
     | bad no a=>
      have i4:=oH l;have hz:((no:Int)!=0)=U:=by rcases i4 with rfl|rfl<;>rfl
      rw[l]at k d;obtain⟨x,hx⟩:∃x,t+a=x:=⟨_,rfl⟩;rw[kE,hx]at k;have d:cu no (8+a)=R:=d;subst d;have HX:=A hx;clear l i4 hx;rw[bc];go_wp2
      go_quiet (fail)
      go_wp2_with fail;rw[bc];go_wp2_with fail;refine(k.o _).mono ?_;rintro e w5 ⟨rfl,b⟩;have f:=(ai w5 w5).alloc (V _) (S #["",J I 0,no,J I (x:Int),O N] 200);have K7:=A (keep (keep (h.o _) b) f);have KB:=A (chain (chain (i.o _) b) f);obtain⟨c0,c1,c2,c3,c4,cf⟩:=cells5 (keep (keep (h.o _) b) f);clear b f;go_wp2;obtain⟨P,L⟩:=aS (D ⟨#[]⟩) (J I 0) (J I no) (J I (x:Int)) (O N) K7.o KB.o (V _);have g:=A L;obtain⟨Q,C,F,B,T,_⟩:=cells5 P;exact Y (v:=H #["",J I 0,no,J I (x:Int),O N]) (by simp[Z,ba,go_sem,Q,C,F,B,T]) rfl ⟨by rw[<-HX.o,<-HT.o,fi];rfl,g.o⟩
     | ok m=>
      obtain⟨m1,_,m2⟩:=vB l;have m2:=m2 rfl;rw[l]at k d;rw[kE]at k;obtain⟨v,hv⟩:∃v,65536+(n-55296)*1024+m-56320=v:=⟨_,rfl⟩;have d:bp (aT (65536+(n-55296)*1024+m-56320),12)=R:=d;rw[hv]at d;subst d;obtain⟨y,hy⟩:∃y,n-55296=y:=⟨_,rfl⟩;have f1:I.wrap ((n:Int)-55296)=(y:Int):=by have:=HN.o;rw[ao];omega
      have i4:y<=1023:=by have:=HN.o;omega
      rw[hy]at hv;have f2:I.wrap ((y:Int)*1024)=((y*1024:Nat):Int):=by rw[ao];omega
      obtain⟨z,hz⟩:∃z,y*1024=z:=⟨_,rfl⟩;rw[hz]at f2 hv;have f3:I.wrap (65536+(z:Int))=((65536+z:Nat):Int):=by rw[ao];omega
      obtain⟨u,hu⟩:∃u,65536+z=u:=⟨_,rfl⟩;rw[hu]at f3 hv;have f4:I.wrap ((u:Int)+(m:Int))=((u+m:Nat):Int):=by rw[ao];omega
      obtain⟨o,ho⟩:∃o,u+m=o:=⟨_,rfl⟩;rw[ho]at f4 hv;have f5:I.wrap ((o:Int)-56320)=(v:Int):=by rw[ao];omega
      have f6:gl.wrap (v:Int)=(v:Int):=by rw[gm];omega
      have HE:=A (λW=>vA W v (by omega) (by omega));clear l m1 m2 hv hy i4 hz hu ho;rw[bc];go_wp2
      go_quiet (fail)
      go_wp2_with fail;rw[bc];go_wp2_with fail;refine(k.o _).mono ?_;rintro e w5 ⟨rfl,b⟩;have f:=(ai w5 w5).alloc (V _) (S #["",J I 0,J I 0,J I 0,O N] 200);have g9:=A (keep (keep (h.o _) b) f);have l:=A (chain (chain (i.o _) b) f);clear b f;go_wp2_with fail;refine(HE.o _).mono ?_;rintro e w6 ⟨rfl,f⟩;have K7:=A (keep g9.o f);have KB:=A (chain l.o f);obtain⟨c0,c1,c2,c3,c4,cf⟩:=cells5 (keep g9.o f);clear f;go_wp2;obtain⟨P,L⟩:=aS (D ⟨(aT v).toArray⟩) (J I 12) (J I 0) (J I 0) (O N) K7.o KB.o (V _);have g:=A L;obtain⟨Q,C,F,B,T,_⟩:=cells5 P;exact Y (v:=H #[D ⟨(aT v).toArray⟩,J I 12,J I 0,J I 0,O N]) (by simp[Z,ba,go_sem,Q,C,F,B,T]) rfl ⟨rfl,g.o⟩
    .have e3:(((s[q].toNat:Nat):Int)!=117)=U:=by
      have:s[q].toNat≠117:=λe=>j (fk e)
      simp;omega
     rw[if_neg j]at d;subst d;clear j;have f:M (∀W:ah,ac ae 156 #[J I 93,J I q] W λe w'=>e=af (H #["",J I 0,J I 93,J I (q:Int),O N])/\E W.heap.size W w'):=λW=>mA W 93 q
     rw[bc];go_wp2
     go_quiet (fail)
     go_wp2_with fail;refine(f.o _).mono ?_;rintro e w5 ⟨rfl,b⟩;have K7:=A (keep (h.o _) b);have KB:=A (chain (i.o _) b);obtain⟨c0,c1,c2,c3,c4,cf⟩:=cells5 (keep (h.o _) b);clear b;go_wp2;obtain⟨P,L⟩:=aS (D ⟨#[]⟩) (J I 0) (J I 93) (J I (q:Int)) (O N) K7.o KB.o (V _);have g:=A L;obtain⟨Q,C,F,B,T,_⟩:=cells5 P;exact Y (v:=H #["",J I 0,J I 93,J I (q:Int),O N]) (by simp[Z,ba,go_sem,Q,C,F,B,T]) rfl ⟨by rw[<-HQ.o,<-HR.o];rfl,g.o⟩
   .have a3:(s.size:Int)<=(q:Int):=by omega
    rw[cY h7]at d;have d:ej=R:=d;subst d;clear h7;obtain⟨c0,c1,c2,c3,c4,cf⟩:=cells5 g8.o;rw[bc];go_wp2;obtain⟨P,L⟩:=aS (D ⟨#[]⟩) (J I 0) (J I 0) (J I 0) (O U) (h.o _) (i.o _) (V _);have g:=A L;obtain⟨Q,C,F,B,T,_⟩:=cells5 P;exact Y (v:=H #["",J I 0,J I 0,J I 0,O U]) (by simp[Z,ba,go_sem,Q,C,F,B,T]) rfl ⟨rfl,g.o⟩
  .have e2:(((s[r].toNat:Nat):Int)!=92)=U:=by
    have:s[r].toNat≠92:=λe=>K (fk e)
    simp;omega
   rw[if_neg K]at d;subst d;clear K;have f:M (∀W:ah,ac ae 156 #[J I 93,J I r] W λe w'=>e=af (H #["",J I 0,J I 93,J I (r:Int),O N])/\E W.heap.size W w'):=λW=>mA W 93 r
   rw[bc];go_wp2
   go_quiet (fail)
   go_wp2_with fail;refine(f.o _).mono ?_;rintro e w5 ⟨rfl,b⟩;have K7:=A (keep (h.o _) b);have KB:=A (chain (i.o _) b);obtain⟨c0,c1,c2,c3,c4,cf⟩:=cells5 (keep (h.o _) b);clear b;go_wp2;obtain⟨P,L⟩:=aS (D ⟨#[]⟩) (J I 0) (J I 93) (J I (r:Int)) (O N) (K7.o) (KB.o) (V _);have g:=A L;obtain⟨Q,C,F,B,T,_⟩:=cells5 P;exact Y (v:=H #["",J I 0,J I 93,J I (r:Int),O N]) (by simp[Z,ba,go_sem,Q,C,F,B,T]) rfl ⟨by rw[<-HR.o];rfl,g.o⟩
 .have a1:(s.size:Int)<=(r:Int):=by omega
  rw[cY h6,qN]at d;subst d;clear h6;obtain⟨c0,c1,c2,c3,c4,cf⟩:=cells5 g8.o;rw[bc];go_wp2;obtain⟨P,L⟩:=aS (D ⟨#[]⟩) (J I 0) (J I 0) (J I 0) (O U) g8.o i3.o (V _);have g:=A L;obtain⟨Q,C,F,B,T,_⟩:=cells5 P;exact Y (v:=H #["",J I 0,J I 0,J I 0,O U]) (by simp[Z,ba,go_sem,Q,C,F,B,T]) rfl ⟨rfl,g.o⟩
def aJO(w:ah)(s:ByteArray)(b:Nat)(i:b<s.size)(d:s.size<=2147483648):ac ae 155 #[s,b] w λe w'=>
 e=af (gP b (jG (s.data.toList.drop (b+1))))/\E w w w':=by
 by_cases c:b+1<s.size
 .by_cases f:s[b+1]=117
  .cases g:cX N 4 0 (s.data.toList.drop (b+2))with
   | ok n=>
    by_cases j:n<55296\/56319<n
    .exact aJM w s b n d c f g j
    .exact aJN w s b n d c f g (by omega)
   | cut=>exact aC2 w s b d c f (by rw[g];intro n h;cases h)
   | bad no a=>exact aC2 w s b d c f (by rw[g];intro n h;cases h)
  .exact aJL w s b d c f
 .exact aJK w s b i d c
def aC3{f:Form}:∀{m i no a:Nat}{l:Oo},cJ f m i l=cu no a->no=90
 | 0,_,_,_,l,h=>by rw[cJ]at h;cases h
 | m+1,_,_,_,[],h=>by rw[cJ]at h;cases h
 | m+1,i,no,a,c::l,h=>by
  rw[cJ]at h;split at h
  .exact aC3 h
  .injection h with b h2;exact b.symm
def aC4{no:Nat}(h:eC l=cu no a):no=90:=by
 cases l with
 | nil=>cases h
 | cons c t=>
  rw[eC]at h;split at h
  .injection h with b h2;exact b.symm
  .exact aC3 h
def kJ{i:Nat}:s.extract i (i+n)=⟨((s.data.toList.drop i).take n).toArray⟩:=by
 apply gu;apply Array.ext';simp
def aC5(i:Nat)(R:Pc (Oo×Nat)):∃u a b c d,gP i R=H #[D u,J I a,J I b,J I c,O d]:=by cases R<;>exact⟨_,_,_,_,_,rfl⟩
def aE1(w:ah)(s:ByteArray)(i:Nat)(hi:i<s.size)(hs:s.size<=2147483648):ac ae 118 #[s,i] w λe w'=>
 e=af (gP i (eX (s.data.toList.drop i)))/\E w w w':=by
 have i1:(i:Int)<(s.size:Int):=by omega
 have h:(w.alloc (S #["",J I 0,J I 0,J I 0,O N] 200)).heap[w.heap.size]?=aj (S #["",J I 0,J I 0,J I 0,O N] 200 (0,0)):=bk w _;have B:=(ai w w).alloc (V _) (S #["",J I 0,J I 0,J I 0,O N] 200);have HE:=A (λW=>aJO W s i hi hs);have C:=A (λW=>aBE W s i hi hs);have f:eX (s.data.toList.drop i)=if s[i]=92 then jG (s.data.toList.drop (i+1))else if s[i].toNat<32 then cu 91 0 else(eC (s.data.toList.drop i)).O2 0 λn=>bp ((s.data.toList.drop i).take n,n):=by rw[bA hi,eX]
 rw[f];clear f
 by_cases j:s[i]=92
 .have e1:(((s[i].toNat:Nat):Int)==92)=U:=by rw[j];rfl
  rw[if_pos j];clear j;obtain⟨R,k⟩:∃R,jG (s.data.toList.drop (i+1))=R:=⟨_,rfl⟩;rw[k]at HE⊢;obtain⟨u,a,b,c,d,f⟩:=aC5 i R;rw[f]at HE⊢;clear k f;go_enter dl,dm;go_wp2_with fail;refine(HE.o _).mono ?_;rintro e K ⟨rfl,f⟩;have l:=A (keep h f);have m:=A (chain B f);obtain⟨L,c1,c2,Q,T,cf⟩:=cells5 (keep h f);clear f h B;go_wp2;obtain⟨P,o⟩:=aS (D u) (J I a) (J I b) (J I c) (O d) l.o m.o (V _);have g:=A o;obtain⟨p,r,t,y,z,_⟩:=cells5 P;exact Y (v:=H #[u,a,b,c,d]) (by simp[Z,dp,go_sem,p,r,t,y,z]) rfl ⟨rfl,g.o⟩
 .have e1:(((s[i].toNat:Nat):Int)==92)=N:=by
   have:s[i].toNat≠92:=λe=>j (fk e)
   simp;omega
  rw[if_neg j];clear j
  by_cases j:s[i].toNat<32
  .have e2:((s[i].toNat:Nat):Int)<32:=by omega
   rw[if_pos j];clear j;have F:M (∀W:ah,ac ae 156 #[J I 91,i] W λe w'=>e=af (H #["",J I 0,J I 91,i,O N])/\E W.heap.size W w'):=λW=>mA W 91 i
   go_enter dl,dm;go_wp2_with fail;refine(F.o _).mono ?_;rintro e K ⟨rfl,f⟩;have l:=A (keep h f);have m:=A (chain B f);obtain⟨L,c1,c2,Q,T,cf⟩:=cells5 (keep h f);clear f h B;go_wp2;obtain⟨P,o⟩:=aS (D ⟨#[]⟩) (J I 0) (J I 91) (J I i) (O N) l.o m.o (V _);have g:=A o;obtain⟨p,r,t,y,z,_⟩:=cells5 P;exact Y (v:=H #["",J I 0,J I 91,i,O N]) (by simp[Z,dp,go_sem,p,r,t,y,z]) rfl ⟨rfl,g.o⟩
  .have e2:¬((s[i].toNat:Nat):Int)<32:=by omega
   rw[if_neg j];clear j;cases k:eC (s.data.toList.drop i)with
   | cut=>
    rw[k,aCY]at C;clear k;obtain⟨L,c1,c2,Q,T,cf⟩:=cells5 h;have l:=A h;have m:=A B;go_enter dl,dm;go_wp2_with fail;generalize w.alloc (S #["",J I 0,J I 0,J I 0,O N] 200)=w1 at*;refine(C.o _).mono ?_;rintro e K ⟨rfl,rfl⟩;go_wp2;obtain⟨P,o⟩:=aS (D ⟨#[]⟩) (J I 0) (J I 0) (J I 0) (O U) l.o m.o (V _);have g:=A o;obtain⟨p,r,t,y,z,_⟩:=cells5 P;exact Y (v:=H #["",J I 0,J I 0,J I 0,O U]) (by simp[Z,dp,go_sem,p,r,t,y,z]) rfl ⟨rfl,g.o⟩
   | bad no a=>
    rw[k,aCY]at C;obtain rfl:=aC4 k;obtain⟨x,f⟩:∃x,i+a=x:=⟨_,rfl⟩;rw[show(i:Int)+(a:Int)=(x:Int) by omega]at C;have j:=A f;have F:M (∀W:ah,ac ae 156 #[J I 90,J I x] W λe w'=>e=af (H #["",J I 0,J I 90,J I (x:Int),O N])/\E W.heap.size W w'):=λW=>mA W 90 x
    clear k f;go_enter dl,dm;go_wp2_with fail;refine(C.o _).mono ?_;rintro e K ⟨rfl,rfl⟩;go_wp2_with fail;refine(F.o _).mono ?_;rintro e w4 ⟨rfl,f⟩;have l:=A (keep h f);have m:=A (chain B f);obtain⟨L,c1,c2,Q,T,cf⟩:=cells5 (keep h f);clear f h B;go_wp2;obtain⟨P,o⟩:=aS (D ⟨#[]⟩) (J I 0) (J I 90) (J I (x:Int)) (O N) l.o m.o (V _);have g:=A o;obtain⟨p,r,t,y,z,_⟩:=cells5 P;exact Y (v:=H #["",J I 0,J I 90,J I (x:Int),O N]) (by simp[Z,dp,go_sem,p,r,t,y,z]) rfl ⟨by rw[<-j.o];simp[gP,fj],g.o⟩
   | ok n=>
    rw[k,aCY]at C;obtain⟨q,f⟩:∃q,i+n=q:=⟨_,rfl⟩;have F:=(aGI hi k).2;have q1:I.wrap ((i:Int)+(n:Int))=(q:Int):=by rw[ao];omega
    have q2:(i:Int)<=(q:Int):=by omega
    have q3:(q:Int)<=(s.size:Int):=by omega
    have j:=A (show s.extract i q=⟨((s.data.toList.drop i).take n).toArray⟩ by rw[<-f];exact kJ);clear k f F;obtain⟨L,c1,c2,Q,T,cf⟩:=cells5 h;have l:=A h;have m:=A B;go_enter dl,dm;go_wp2_with fail;generalize w.alloc (S #["",J I 0,J I 0,J I 0,O N] 200)=w1 at*;refine(C.o _).mono ?_;rintro e K ⟨rfl,rfl⟩;go_wp2;obtain⟨P,o⟩:=aS (D (s.extract i q)) (J I (n:Int)) (J I 0) (J I 0) (O N) l.o m.o (V _);have g:=A o;obtain⟨p,r,t,y,z,_⟩:=cells5 P;exact Y (v:=H #[D (s.extract i q),J I (n:Int),J I 0,J I 0,O N]) (by simp[Z,dp,go_sem,p,r,t,y,z]) rfl ⟨by rw[j.o];rfl,g.o⟩
section
def fin(p:Ps)(l:List UInt8):Out:=match p.E4 po l with
 | .error e=>bh e
 | .ok q=>q.C0 po
def aBT{p:Ps}(h:Goes p l ej):fin p l=bh (95,p.c+l.length):=by
 obtain⟨q,b,a⟩:=h;unfold fin;rw[b];exact a
def aGW{p:Ps}{no:Nat}(h:Goes p l (cu no a)):fin p l=bh (no,a):=by
 have h:p.E4 po l=bh (no,a):=h;unfold fin;rw[h]
def aFy{p q:Ps}{m:Oo}(h:Goes p l (bp (q,m))):fin p l=fin q m:=by
 unfold fin;rw[h.1]
def fT{p q:Ps}{t:Oo}(h:p.take po c=cv q):fin p (c::t)=fin q t:=by
 unfold fin;rw[wM h]
def eU{p:Ps}{t:Oo}{e:Nat×Nat}(h:p.take po c=bh e):fin p (c::t)=bh e:=by
 unfold fin;rw[gX h]
structure Alike(p:Ps)(r:Rr)(d i:Nat):Prop where
 a:Al p r d
 c:p.d.c=i
 j:p.d.j=fm
 e:p.d.e=N
 ok:fF p
section
variable {p:Ps} {r:Rr} {d i:Nat}
def Alike.ps(h:Alike p r d i):cH p 0:=by
 have:=h.ok.ps;have e:bW p=0:=by unfold bW;rw[if_neg (by rw[h.e];simp)]
 rwa[e]at this
def Alike.R8(h:Alike p r d i):p.c=i:=h.ok.c.trans h.c
def yY{y:Lx}(h:Alike p r d i)(g:p.d.B4 c=⟨y,[],0⟩)(k:i<16777216)(hi:y.e=U)(b:y.a=i):
 p.take po c=match fq {p with d:={y with c:=i+1}} c with
  | .error e=>bh e
  | .ok q=>cv {q with c:=q.c+1}:=by
 have f:=h.c;have a:¬i=16777216:=by omega
 have j:i+1-y.a=1:=by omega
 simp[dq,dt,a,g,ek,Lx.D4,hi,j,f,pure,em];rfl
def Alike.T4(h:Alike p r d i)(b:(p.d.B4 c).b=94/\(p.d.B4 c).a= [])(f:i<16777216):p.take po c=bh (120,i):=by
 have e:=h.c;have a:¬i=16777216:=by omega
 simp[dq,dt,a,b.1,b.2,ek,e,nO,pure,em]
def Alike.F9{y:Lx}(h:Alike p r d i)(q:p.d.B4 c=⟨y,[],0⟩)(b:i<16777216)(hi:y.e=U)(e:y.a=i)(l:¬(c=34/\(r.a=2\/r.a=3))):match r.B9 d with
 | .error no=>p.take po c=bh (no,i)
 | .ok g=>p.take po c=cv (cw {p with g:=p.g+1} {y with c:=i+1})/\g={r with g:=r.g+1}/\(r.a=0\/r.a=1):=by
 have f:=yY h q b hi e
 have k:fq {p with d:={y with c:=i+1}} c=gn {p with d:={y with c:=i+1}} i:=by
  unfold fq;rw[if_neg (by show ¬(c=34/\(p.a=2\/p.a=3));rw[h.a.a];exact l)]
  show gn _ p.c=_
  rw[h.R8]
 rw[k]at f;have n:Al {p with d:={y with c:=i+1}} r d:=⟨h.a.h,h.a.a,h.a.g,h.a.bytes,h.a.e,h.a.b,h.a.low,h.a.c⟩;have a:=n.D0 (h.ps.P8 _) i;cases b:r.B9 d with
 | error no=>rw[b]at a;simp only at a⊢;rw[f,a]
 | ok g=>
  rw[b]at a;simp only at a⊢;obtain⟨m,o,j,_⟩:=a;rw[f,m];refine⟨?_,o,j⟩
  show cv _=cv _
  congr 1
  show(⟨_,p.c+1,_,_,_,_,_,_⟩:Ps)=_
  rw[h.R8];rfl
end
abbrev gY(P s:Nat)(raw:List UInt8)(n:Nat)(x:Lx):Lx:={x with c:=P,j:=.numeral,e:=U,a:=s,g:=raw,number:=n}
def aIa{P s:Nat}{a:Oo}{x:Lx}(h:aR n c=aj b):(gY P s a n x).B4 c=⟨gY P s (a++ [c]) b x,[],0⟩:=by
 show bX _ c=_
 unfold bX;rw[h]
def aDB(p:Ps)(s:Nat)(x:Lx):∀(l:Oo)(P n:Nat)(a:Oo),s<P->P+l.length<=16777216->
 Goes (p.C8 (gY P s a n x)) l (bp (p.C8 (gY (P+(bV n l).1) s (a++l.take (bV n l).1) (bV n l).2 x),l.drop (bV n l).1))
 | [],P,n,a,_,_=>by rw[m7];refine⟨?_,λh=>?_⟩<;>simpa using h
 | c::l,P,n,a,g,e=>by
  rw[eo]at e;cases d:aR n c with
  | none=>
   rw[eS d];refine⟨?_,λh=>?_⟩
   .simp
   .simpa using h
  | some b=>
   rw[cQ d];refine du (eG p (aIa d) (show P<16777216 by omega) rfl g) rfl ?_;have f:=aDB p s x l (P+1) b (a++ [c]) (by omega) (by omega);simp only[List.take_succ_cons,ft];rw[show a++c::l.take (bV b l).1=a++ [c]++l.take (bV b l).1 by simp,show P+((bV b l).1+1)=P+1+(bV b l).1 by omega];exact f
def vL(n:Nat):∀(l:Oo){c:UInt8}{t:Oo},l.drop (bV n l).1=c::t->aR (bV n l).2 c=aw
 | [],c,t,h=>by simp at h
 | d::l,c,t,h=>by
  cases a:aR n d with
  | none=>rw[eS a]at h⊢;simp at h;rw[<-h.1];exact a
  | some b=>
   rw[cQ a]at h⊢;simp only[ft]at h;exact vL b l h
def pR(n:Nat):∀l:Oo,(bV n l).1<=l.length
 | []=>V _
 | d::l=>by
  cases a:aR n d with
  | none=>rw[eS a];exact dy _
  | some b=>rw[cQ a];have:=pR b l;simp only[eo];omega
abbrev fO(P s:Nat)(raw:List UInt8)(n:Nat)(x:Lx):Lx:={x with c:=P,j:=fm,e:=N,a:=s,g:=raw,number:=n}
def aKl(p:Ps){P s n b:Nat}{a:Oo}{x:Lx}(h:bL n=U)(j:bitsOf a=aj b)(k:P<16777216){c:UInt8}(i:aR n c=aw):
 (p.C8 (gY P s a n x)).take po c=(ep {(p.C8 (fO P s a n x))with b:=iR p.b b}).take po c:=by
 have f:¬P=16777216:=by omega
 have e:(gY P s a n x).B4 c=⟨(aP (fO P s a n x) c).c,.num s (P-s) b::(aP (fO P s a n x) c).a,(aP (fO P s a n x) c).b⟩:=by
  show bX _ c=_
  unfold bX;rw[i];simp only;rw[if_pos h];unfold et;simp only[j,go];rfl
 have d:(fO P s a n x).B4 c=aP (fO P s a n x) c:=rfl;unfold dq dt;simp only[cw,e,f,if_false,ep,d];generalize aP (fO P s a n x) c=o
 by_cases g:o.b=0
 .simp only[g,if_true];rw[eT];rfl
 .simp only[g,if_false];rw[eT];rfl
def aLy(p:Ps){P s n b:Nat}{a:Oo}{x:Lx}(e:bL n=U)(f:bitsOf a=aj b):
 (p.C8 (gY P s a n x)).C0 po=(ep {(p.C8 (fO P s a n x))with b:=iR p.b b}).C0 po:=by
 have d:(gY P s a n x).B8=(fO P s a n x,[.num s (P-s) b],0,0):=by
  unfold fu;rw[if_neg (by simp),if_neg (by rw[e];simp)];unfold et;simp only[f,go];rfl
 have c:(fO P s a n x).B8=(fO P s a n x,[],0,0):=by
  unfold fu;rw[if_pos rfl]
 unfold gp;simp only[cw,d,ep,c];rw[eT];rfl
def aIb(p:Ps){P s n:Nat}{a:Oo}{x:Lx}(f:bL n=U)(g:bitsOf a=aw):(p.C8 (gY P s a n x)).C0 po=bh (41,s)/\
 ∀c,aR n c=aw->P<16777216->(p.C8 (gY P s a n x)).take po c=bh (41,s):=by
 refine⟨?_,λc h i=>?_⟩
 .have e:(gY P s a n x).B8=(gY P s a n x,[],41,s):=by
   unfold fu;rw[if_neg (by simp),if_neg (by rw[f];simp)];unfold et;simp only[g,gq]
  unfold gp;simp only[cw,e];simp[ek,nO,pure,em]
 .have d:¬P=16777216:=by omega
  have b:(gY P s a n x).B4 c=⟨gY P s a n x,[],41⟩:=by
   show bX _ c=_
   unfold bX;rw[h];simp only;rw[if_pos f];unfold et;simp only[g,gq]
  simp[dq,dt,cw,d,b,ek,nO,pure,em]
abbrev jN(P s:Nat)(raw:List UInt8)(x:Lx):Lx:={x with c:=P,j:=.letter,e:=U,a:=s,g:=raw,number:=0}
abbrev s9(P s:Nat)(raw:List UInt8)(x:Lx):Lx:={x with c:=P,j:=fm,e:=N,a:=s,g:=raw,number:=0}
def aA5(p:Ps)(s:Nat)(x:Lx)(w:Oo):∀(f d l:Oo)(P:Nat),f≠ []->d≠ []->aH (d.headD 0)=w->w=d++f->s<P->P+l.length<=16777216->
 if alike f l<f.length/\alike f l<l.length then Goes (p.C8 (jN P s d x)) l (cu 120 (P+alike f l))
 else if alike f l<f.length then Goes (p.C8 (jN P s d x)) l ej
 else Goes (p.C8 (jN P s d x)) l (bp ((p.C8 (s9 (P+f.length) s w x)).F7 (jE w),l.drop f.length))
 | [],_,_,_,h,_,_,_,_,_=>absurd rfl h
 | b::f,d,[],P,_,_,_,_,_,_=>by
  have e:alike (b::f) []=0:=rfl;rw[e,if_neg (by simp),if_pos (by simp)];exact kB p rfl rfl
 | b::f,d,c::l,P,_,u,t,i,K,F=>by
  rw[eo]at F;have k:(aH (d.headD 0))[d.length]?=aj b:=by rw[t,i,List.getElem?_append_right (V _),Nat.sub_self];rfl
  by_cases m:b=c
  .subst m;have e:alike (b::f) (b::l)=alike f l+1:=by show(if b=b then _ else _)=_;rw[if_pos rfl]
   have n:(d++ [b]).headD 0=d.headD 0:=by cases d with
    | nil=>exact absurd rfl u
    | cons a q=>rfl
   cases f with
   | nil=>
    have z:alike ([]:Oo) l=0:=by cases l<;>rfl
    rw[e,z,if_neg (by simp),if_neg (by simp)];have j:d.length+1=(aH (d.headD 0)).length:=by rw[t,i];simp
    have g:(jN P s d x).B4 b=⟨s9 P s (d++ [b]) x,[.term s (P+1-s) w],0⟩:=by
     show cP _ b=_
     unfold cP;simp only;rw[if_pos k,if_pos j,t];rfl
    have v:¬P=16777216:=by omega
    have y:(p.C8 (jN P s d x)).take po b=cv ((p.C8 (s9 (P+1) s w x)).F7 (jE w)):=by
     unfold dq dt;simp only[cw,g,v,if_false,if_true];rw[eT,<-i];rfl
    exact du y rfl (o:=bp (_,l)) ⟨rfl,id⟩
   | cons b2 f=>
    have j:¬d.length+1=(aH (d.headD 0)).length:=by rw[t,i];simp
    have g:(jN P s d x).B4 b=⟨jN P s (d++ [b]) x,[],0⟩:=by
     show cP _ b=_
     unfold cP;simp only;rw[if_pos k,if_neg j]
    have q:=eG p g (show P<16777216 by omega) rfl K;have r:=aA5 p s x w (b2::f) (d++ [b]) l (P+1) (by simp) (by simp) (by rw[n,t]) (by rw[i];simp) (by omega) (by omega);rw[e];simp only[eo]at r⊢;split at r
    .rename_i C;rw[if_pos (by omega),show P+(alike (b2::f) l+1)=P+1+alike (b2::f) l by omega];exact du q rfl r
    .rename_i C;rw[if_neg (by omega)];split at r
     .rename_i B;rw[if_pos (by omega)];exact du q rfl r
     .rename_i B;rw[if_neg (by omega),ft,show P+(f.length+1+1)=P+1+(f.length+1) by omega];exact du q rfl r
  .have e:alike (b::f) (c::l)=0:=by show(if b=c then _ else _)=_;rw[if_neg m]
   rw[e,if_pos (by simp)]
   have g:(jN P s d x).B4 c=⟨jN P s d x,[],94⟩:=by
    show cP _ c=_
    unfold cP;simp only;rw[if_neg (by rw[k];exact λh=>m (gv h))]
   exact gX (eZ p g (show P<16777216 by omega) (by decide) (by decide))
end
def vR(w:ah)(b:Nat)(z q t m u n r B o s p y x c:cz)(a:Oo)(h:w.heap[b]?=aj (S #[z,q,t,m,u,n,c,r,B,o,s,p,y,x] 228 (0,0)))
 (k:Win 5 bZ w c a)(j:a.length<=1073741824)(l:bitsOf a=aw):
 ac ae 110 #[dv b] w λe w'=>e=af (O N)/\E w w w':=by
 obtain⟨-,-,-,-,-,-,C,-,-,-,-,-,-,-,-⟩:=aN h;have d:=fK k;have i:=A (aD9 ⟨a.toArray⟩ w (by show a.toArray.size<=_;simpa using j));rw[show(⟨a.toArray⟩:ByteArray).data.toList=a by simp,l]at i;clear h k l j;go_enter func110,ntmps110;go_wp2_with fail;refine(i.o).mono ?_;rintro e w1 ⟨⟨T,v,rfl⟩,g⟩;have f:=A g;clear g;go_wp2;go_ret;exact⟨rfl,f.o⟩
def vS(w:ah)(b pl i:Nat)(x y W v4 z B C F K L d a:cz)(c:Oo)(toks:List cz)(f:Nat)(P:w.heap[b]?=aj (S #[pl,x,y,W,v4,i,d,z,B,C,F,K,L,a] 228 (0,0)))
 (m:Win 5 bZ w d c)(q:c.length<=1073741824)(r:bitsOf c=aj f)(j:Win 232 id w a toks)(n:toks.length<=1000)(o:i<=pl)(p:pl<=1073741824):
 ac ae 110 #[dv b] w λe w'=>jQ w b a toks (bU (.num i (pl-i) f)) (λv=> #[pl,x,y,.func (.func 104) #[] #[],O N,i,d,z,B,C,F,K,L,v]) (O U) e w':=by
 obtain⟨-,-,-,-,-,-,t,-,-,-,-,-,-,cd,-⟩:=aN P;have h:=fK m;have Q:=A (aD9 ⟨c.toArray⟩ w (by show c.toArray.size<=_;simpa using q));rw[show(⟨c.toArray⟩:ByteArray).data.toList=c by simp,r]at Q;have a0:=A P;have HW:=A j
 have l:∀k,a.ownBlock=aj k->k<w.heap.size:=by
  intro k s;rcases j with⟨rfl,_⟩|⟨g,off,cap,u,rfl,R,_⟩
  .cases s
  .cases s;exact bj R
 clear P m r q j l;go_enter func110,ntmps110;go_wp2_with fail;refine(Q.o).mono ?_;rintro e w1 ⟨rfl,l⟩;have m:=keep a0.o l;have j:Win 232 id w1 a toks:=HW.o.A2 (fv (λ_=>False) l) (λ_ _=>id);obtain⟨s,-,-,-,-,-,-,-,-,-,-,-,-,-,-⟩:=aN m;have R:=A m;have q:=A j;have r:=A l;clear m j l t cd h;go_wp2_with fail;refine(rX w1 b _ i pl R.o rfl o p).mono ?_;rintro e w2 ⟨rfl,h⟩;have m:=keep R.o h;have j:Win 232 id w2 a toks:=q.o.A2 (fv (λ_=>False) h) (λ_ _=>id);have l:=A (chain r.o h);clear s h;have HT:=A (rY w2 b _ _ _ _ _ _ _ _ _ _ _ _ _ a 271 (H #[i,J I ((pl-i:Nat):Int),J G f]) toks m j n);clear m j;go_wp2_with fail;refine(HT.o).mono ?_;rintro e w3 ⟨rfl,g,off,cap,T,h,j,m⟩;have H3:=A T;have s:=A h;have t:=A j;have u:=A m;clear T h j m;go_wp2;go_ret;exact⟨rfl,g,off,cap,H3.o,s.o,t.o.elim cg (λP=>ak (ag l.o.size P)),(fv _ l.o).same u.o⟩
def aAA(w:ah)(b s:Nat)(n o p q r t u v x y z B a:cz)(d:UInt8)(l:Oo)(C:w.heap[b]?=aj (S #[n,o,p,q,r,t,a,s,u,v,x,y,z,B] 228 (0,0)))(c:s<=8)
 (f:aR s d=aw)(g:bL s=U)(h:Win 5 bZ w a l)(i:l.length<=1073741824)(j:bitsOf l=aw):
 ac ae 139 #[dv b,J .u8 d.toNat] w λe w'=>e=af (J I 41)/\E w w w':=by
 have F:=A (vR w b _ _ _ _ _ _ _ _ _ _ _ _ _ a l C h i j);obtain⟨K,c1,c2,L,P,Q,R,T,W,c9,ca,cb,cc,cd,cf⟩:=aN C;have k:=A (tG s c d);have m:=A (lM s c);rw[f]at k;rw[g]at m;clear C f g c h i j;go_enter func139,ntmps139;go_wp2_with fail;refine(k.o _).mono ?_;rintro e w1 ⟨rfl,rfl⟩;go_wp2_with fail;refine(m.o _).mono ?_;rintro e w1 ⟨rfl,rfl⟩;go_wp2_with fail;refine(F.o).mono ?_;rintro e w2 ⟨rfl,c⟩;have f:=A c;clear c;go_wp2;go_ret;exact⟨rfl,f.o⟩
def aCg(w:ah)(b s pl g:Nat)(o p Q R q r t u x a c:cz)(k:UInt8)(l:Oo)(toks:List cz)(d:Nat)(a0:fc->ah->Prop)(T:w.heap[b]?=aj (S #[pl,o,p,Q,R,g,a,s,q,r,t,u,x,c] 228 (0,0)))(m:s<=8)
 (y:aR s k=aw)(z:bL s=U)(B:Win 5 bZ w a l)(C:l.length<=1073741824)(F:bitsOf l=aj d)(K:Win 232 id w c toks)(h:toks.length<=1000)(i:g<=pl)(j:pl<=1073741824)
 (f:∀w',jQ w b c toks (bU (.num g (pl-g) d)) (λv=> #[pl,o,p,.func (.func 104) #[] #[],O N,g,a,s,q,r,t,u,x,v]) (O U) (af (O U)) w'->
  ac ae 104 #[dv b,J .u8 k.toNat] w' λe w2=>(∃n,e=af (J I n))/\a0 e w2):
 ac ae 139 #[dv b,J .u8 k.toNat] w a0:=by
 have W:=A (vS w b pl g _ _ _ _ _ _ _ _ _ _ a c l toks d T B C F K h i j);obtain⟨c0,c1,c2,c3,c4,c5,c6,c7,c8,c9,ca,cb,cc,cd,cf⟩:=aN T;have L:=A (tG s m k);have P:=A (lM s m);rw[y]at L;rw[z]at P;have HO:=A f;clear T y z m B C F K h i j f;go_enter func139,ntmps139;go_wp2_with fail;refine(L.o _).mono ?_;rintro e w1 ⟨rfl,rfl⟩;go_wp2_with fail;refine(P.o _).mono ?_;rintro e w1 ⟨rfl,rfl⟩;go_wp2_with fail;refine(W.o).mono ?_;intro e w2 f;obtain rfl:=f.1;have h:=A (HO.o w2 f);clear f;go_wp2_with fail;refine(h.o).mono ?_;rintro e j ⟨⟨n,rfl⟩,f⟩;have i:=A f;clear f;go_wp2_with fail
 first
  | exact i.o
  | (go_ret;exact i.o)

