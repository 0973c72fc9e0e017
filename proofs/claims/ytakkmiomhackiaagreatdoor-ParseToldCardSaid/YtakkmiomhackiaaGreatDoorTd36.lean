/-
  The program, one part of its walk. Conditions: none.
-/
import Derived.Test.YtakkmiomhackiaaGreatDoorTd27
import Derived.Test.YtakkmiomhackiaaGreatDoorTd35
set_option linter.all false
set_option maxRecDepth 100000
set_option maxHeartbeats 16000000
open Go.Proofs.Tryz
open Array renaming length_toList->bx
open Bool renaming false->ae,true->Z
open Go renaming Calls->ba,World->bs,bits->bw,bodyPost_ret->N,cell_of_one->ac,free_of_one->au,heap_alloc_new->bm,lt_of_block->ak,results->O
open Go.BinOp renaming and->cg
open Go.Ending renaming returned->bg
open Go.IntKind renaming i64->V,u64->J,wrap_u64->dt
open Go.Lib renaming toList_data->dl,trimLeftB->E,trimRightB->aw
open Go.Obj renaming cells->W
open Go.Proofs.Tryz renaming func172->cv,func210->bh,ntmps172->cw,ntmps210->bj,prog->bc,results146->dv,results172->cz,results195->X,results210->bk
open Go.Proofs.YtakkmiomhackiaaGreatDoor.Lim renaming bitlen->az,bitlen_mono->dj,limbs->dp,lt_bitlen->di,short->dq
open Go.RowKit renaming Below->ag
open Go.RowKit.Below renaming refl->ar
open Go.Value renaming bool->af,iface->ai,int->I,nilIface->Y,slice->S,string->ah,tuple->U
open List renaming dropWhile_sublist->du,length_append->ct,mem_append->dm
open Nat renaming le_of_lt->bp,le_refl->aj,le_succ->ao,le_trans->H,lt_of_lt_of_le->co,mul_pos->ck,ne_of_gt->bu,pow_add->cj,pow_le_pow_right->cr,pow_pos->bz,two_pow_pos->dh,zero_le->cu
open Option renaming none->G,some->av
namespace Go.Proofs.YtakkmiomhackiaaGreatDoor
open Go.RowKit
theorem aEZ{a b c:Nat}(h:a<=b*c):az a<=az b+az c:=by
 rw[Lim.bitlen_le,cj];refine Nat.lt_of_le_of_lt h ?_;rcases Nat.eq_zero_or_pos c with d|d
 .subst d;rw[Nat.mul_zero];exact ck (dh _) (dh _)
 .exact co (Nat.mul_lt_mul_of_pos_right di d) (Nat.mul_le_mul_left _ (bp di))
theorem aHi{v n x:Nat}(a:v<10^n)(h:n+x<=310):az (v*10^x)<=1242:=by
 obtain⟨K,c⟩:∃K:Nat,310=K:=⟨_,rfl⟩;rw[c]at h;have d:=gY K;refine H (dj (b:=10^K) ?_) (H d (by omega));refine H (Nat.mul_le_mul_right _ (bp a)) ?_;rw[<-cj];exact cr (by decide) h
theorem aAi{v n x:Nat}(a:v<10^n)(h:n<=310+x):az v<=az (10^x)+1500:=by
 obtain⟨K,b⟩:∃K:Nat,310=K:=⟨_,rfl⟩;rw[b]at h
 have c:v<=10^x*10^K:=by
  refine H (bp a) ?_;rw[<-cj];exact cr (by decide) (by omega)
 have d:=aEZ c;have e:=gY K;omega
theorem xG{v n:Nat}(a:v<10^n)(h:n<=801):az v<=3210:=by
 obtain⟨K,c⟩:∃K:Nat,801=K:=⟨_,rfl⟩;rw[c]at h;have d:=gY K;refine H (dj (b:=10^K) ?_) (H d (by omega));exact H (bp a) (cr (by decide) h)
theorem aCZ{s:ByteArray}(h:s.data.toList= []):s.toList.isEmpty=Z:=by rw[dl,h];rfl
theorem aE0{s:ByteArray}(h:s.data.toList≠ []):s.toList.isEmpty=ae:=by
 rw[dl];cases a:s.data.toList with
 | nil=>exact absurd a h
 | cons x r=>rfl
theorem aHj(neg:Bool)(g:ByteArray)(e:Int)(w:bs)(f:qA g.data.toList)(hs:g.size<=1073741824)(he: -4611686018427387904<=e)(he2:e<=4611686018427387904)(d:g.size≠0->0<bM g.data.toList):
 ba bc 210 #[.agg #[af neg,ah g,I V e]] w λr w'=>r=bg (cutV (bP ⟨neg,g.data.toList,e⟩))/\ag w.heap.size w w':=by
 have u:g.data.toList.length=g.size:=bx;have hw0:V.wrap ((g.size:Int)+e)=(g.size:Int)+e:=wr (by omega) (by omega);have HD:=L f;have HNZ:=L d;clear f d;obtain⟨g1,t,i⟩:=fS w (W #[af neg,ah g,I V e] 339) (W #[I J 0,I V 0,af ae] 359);have HB:=L i;have j:=L g1;have n:=L t;clear i g1 t
 by_cases h0:g.data.toList= []
 .have hie:=aCZ h0;have Q:bP ⟨neg,g.data.toList,e⟩=⟨0,0,Z⟩:=by unfold bP;rw[if_pos h0]
  have HF:=L Q;clear Q h0;go_enter bh,bj;go_wp2_with fail;exact N (v:=cutV ⟨0,0,Z⟩) (by simp[O,bk,go_sem,cutV]) rfl ⟨by rw[HF.o],(fS _ _ _).2.2⟩
 .have hie:=aE0 h0
  by_cases h1:310<(g.size:Int)+e
  .have Q:bP ⟨neg,g.data.toList,e⟩=⟨aJ,1,ae⟩:=by unfold bP;simp only[u];rw[if_neg h0,if_pos h1]
   have HF:=L Q;clear Q h0;go_enter bh,bj;go_wp2_with fail;exact N (v:=cutV ⟨aJ,1,ae⟩) (by simp[O,bk,go_sem,cutV,aJ]) rfl ⟨by rw[HF.o],(fS _ _ _).2.2⟩
  .by_cases h2:(g.size:Int)+e< -330
   .have Q:bP ⟨neg,g.data.toList,e⟩=⟨0,-1,ae⟩:=by unfold bP;simp only[u];rw[if_neg h0,if_neg h1,if_pos h2]
    have HF:=L Q;clear Q h0;go_enter bh,bj;go_wp2_with fail;exact N (v:=cutV ⟨0,-1,ae⟩) (by simp[O,bk,go_sem,cutV]) rfl ⟨by rw[HF.o],(fS _ _ _).2.2⟩
   .by_cases hlen:800<g.size
    .have hlen2:(800:Int)<(g.size:Int):=by omega
     have hr5:V.wrap ((g.size:Int)-801)=(g.size:Int)-801:=wr (by omega) (by omega);obtain⟨x,hx⟩:∃x:Nat,e+((g.size:Int)-801)= -(x:Int):=⟨(-(e+((g.size:Int)-801))).toNat,by omega⟩;have hr6:V.wrap (-(x:Int))= -(x:Int):=wr (by omega) (by omega);have hx0:0<x:=by omega
     have hx1:x<=1131:=by omega
     have hep2:¬x=0:=by omega
     have hep3:¬(x:Int)<=0:=by omega
     obtain⟨F,hs'⟩:∃F:ByteArray,g.extract 0 800++⟨#[49]⟩=F:=⟨_,rfl⟩;have d:F.data.toList=g.data.toList.take 800++ [49]:=by rw[<-hs'];simp
     have hss:F.size=801:=by
      have:F.data.toList.length=F.size:=bx;rw[d,ct,List.length_take,u]at this;simp at this;omega
     have hcd:bD g.data.toList=F.data.toList:=by unfold bD;rw[u,if_pos hlen,d]
     have hce:dX g.data.toList e= -(x:Int):=by unfold dX;rw[u,if_pos hlen];omega
     have f:qA F.data.toList:=by
      intro c hc;rw[d]at hc;rcases dm.1 hc with h|h
      .exact HD.o c (List.mem_of_mem_take h)
      .simp at h;subst h;decide
     have HDS:=L f
     have hv:bM F.data.toList<10^F.size:=by
      have:=j8 (l:=F.data.toList) (λx hx=>(f x hx).2)
      rwa[bx]at this
     have hvp:0<bM F.data.toList:=by rw[d,sD];exact co (by decide:0<(49:UInt8).toNat-48) (Nat.le_add_left _ _)
     have Q:bP ⟨neg,g.data.toList,e⟩=bF (bM F.data.toList) (10^x):=by
      unfold bP;simp only[u];rw[if_neg h0,if_neg h1,if_neg h2,hcd,hce,if_neg (by omega),show(- -(x:Int)).toNat=x by omega]
     have HF:=L Q;have hB:=L (aAi (x:=x) hv (by omega));have HVB:=L (xG hv (by omega));obtain⟨g1,t,i⟩:=fS w (W #[af neg,ah g,I V (-(x:Int))] 339) (W #[I J 0,I V 0,af ae] 359);have HB:=L i;have j:=L g1;have n:=L t;have hxl:x<=1300:=by omega
     clear Q h0 hcd hce f d g1 t i;go_enter bh,bj;go_wp2_with fail;refine(s8 F _ HDS.o (by omega) (by omega)).mono ?_;rintro r w1 ⟨a,k,c,rfl,K,i⟩;have g1:=keep j.o i;have t:=keep n.o i;have d:=chain HB.o i;have hlt1:=ak t;have b1:ag w1.heap.size w1 (w1.alloc (W #[S a k c] 381)):=(ar _ _).alloc (aj _) _;have g1:=keep g1 b1;have t:=keep t b1;have d:=chain d b1;have P:=bm w1 (W #[S a k c] 381);have K:=K.A5 b1;have j:=L g1;have n:=L t;have h:=L P;have m:=L d;have HW:=L K;clear g1 t P d K i b1;go_wp2_with fail;refine(aAr 1 _ (by decide)).mono ?_;rintro r w2 ⟨a1,k1,c1,rfl,y,i⟩;have hlt2:=ak (keep h.o i);have b2:ag w2.heap.size w2 (w2.alloc (W #[S a1 k1 c1] 381)):=(ar _ _).alloc (aj _) _;have q:=L (bm w2 (W #[S a1 k1 c1] 381));have j:=L (keep (keep j.o i) b2);have n:=L (keep (keep n.o i) b2);have h:=L (keep (keep h.o i) b2);have m:=L (chain (chain m.o i) b2);have HW:=L ((HW.o.A5 i).A5 b2);have HW1:=L (y.A5 b2);clear i b2 y;obtain⟨c0,c1',c2,cf⟩:=cells3 j.o;have d5:=ac h.o;have f5:=au h.o;have d7:=ac q.o;have f7:=au q.o;have hlt3:=ak q.o;have hr4:V.wrap (x:Int)=(x:Int):=wr (by omega) (by omega);have hltw:w.heap.size+1<w2.heap.size:=by omega
     go_wp2_with fail;generalize w2.alloc (W #[S a1 k1 c1] 381)=w3 at*;refine(aAt x _ (by omega)).mono ?_;rintro r wx ⟨A,B,C,rfl,R,f⟩;have t:=keep n.o f;have P:=keep h.o f;have g7:=keep q.o f;have d:=chain m.o f;have K:=HW.o.A5 f;have HM:=L (K.D6 g7 (by decide) 0 (S A B C));have HX:=L (R.D6 g7 (by decide) 0 (S A B C));have m:=L (d.setCell (p:=⟨w2.heap.size,0,G⟩) (by simp;omega) (S A B C));have G2:=L ((aE (w:=wx) (o:=0) (k:=w.heap.size+1) (b:=w2.heap.size) (S A B C) (by omega)).trans t);have e5:=ac ((aE (w:=wx) (o:=0) (k:=w1.heap.size) (b:=w2.heap.size) (S A B C) (by omega)).trans P);have e7:=ac (aB (o:=0) g7 (S A B C));have i7:=ac g7;have j7:=au g7;clear t P g7 d K R f d5 f5 d7 f7 c0 c1' c2 cf j n h q HW HW1;go_wp2_with fail;refine(s9 a A k B c C (bM F.data.toList) (10^x) _ HM.o HX.o (bu hvp) (bu (bz (by decide))) (H HVB.o (by decide)) (H (gY x) (by omega)) hB.o).mono ?_;rintro r wz ⟨rfl,D⟩;have d:=chain m.o D;obtain⟨q0,q1,q2,qf⟩:=cells3 (keep G2.o D);have HBZ:=L d;clear d D m G2;rw[<-HF.o];obtain⟨⟨cb,ch,ce⟩,s⟩:∃z,bP ⟨neg,g.data.toList,e⟩=z:=⟨_,rfl⟩;rw[s];have T:=L s;clear s HF;unfold cutV;go_wp2_with fail;exact N (v:=cutV ⟨cb,ch,ce⟩) (by simp[O,bk,go_sem,cutV,q0,q1,q2]) rfl ⟨by rw[T.o],((HBZ.o.setCell (ao _) _).setCell (ao _) _).setCell (ao _) _⟩
    .have hn0:0<g.size:=by
      cases hc:g.data.toList with
      | nil=>exact absurd hc h0
      | cons x r=>rw[hc]at u;simp at u;omega
     have hlen2:¬(800:Int)<(g.size:Int):=by omega
     have hcd:bD g.data.toList=g.data.toList:=by unfold bD;rw[u,if_neg hlen]
     have hce:dX g.data.toList e=e:=by unfold dX;rw[u,if_neg hlen]
     have hv:bM g.data.toList<10^g.size:=by have:=j8 (l:=g.data.toList) (λx hx=>(HD.o x hx).2);rwa[u]at this
     have hvp:=HNZ.o (by omega);have HDS:=HD
     by_cases hep:0<=e
     .obtain⟨x,rfl⟩:=Int.eq_ofNat_of_zero_le hep;have Q:bP ⟨neg,g.data.toList,(x:Int)⟩=bF (bM g.data.toList*10^x) 1:=by unfold bP;simp only[u];rw[if_neg h0,if_neg h1,if_neg h2,hcd,hce,if_pos hep,Int.toNat_natCast]
      have HF:=L Q;have hB:=L (aHi (x:=x) hv (by omega));have HVB:=L (xG hv (by omega));clear Q h0 hcd hce;go_enter bh,bj;go_wp2_with fail;refine(s8 g _ HDS.o (by omega) (by omega)).mono ?_;rintro r w1 ⟨a,k,c,rfl,K,i⟩;have g1:=keep j.o i;have t:=keep n.o i;have d:=chain HB.o i;have hlt1:=ak t;have b1:ag w1.heap.size w1 (w1.alloc (W #[S a k c] 381)):=(ar _ _).alloc (aj _) _;have g1:=keep g1 b1;have t:=keep t b1;have d:=chain d b1;have P:=bm w1 (W #[S a k c] 381);have K:=K.A5 b1;have j:=L g1;have n:=L t;have h:=L P;have m:=L d;have HW:=L K;clear g1 t P d K i b1;go_wp2_with fail;refine(aAr 1 _ (by decide)).mono ?_;rintro r w2 ⟨a1,k1,c1,rfl,y,i⟩;have hlt2:=ak (keep h.o i);have b2:ag w2.heap.size w2 (w2.alloc (W #[S a1 k1 c1] 381)):=(ar _ _).alloc (aj _) _;have q:=L (bm w2 (W #[S a1 k1 c1] 381));have j:=L (keep (keep j.o i) b2);have n:=L (keep (keep n.o i) b2);have h:=L (keep (keep h.o i) b2);have m:=L (chain (chain m.o i) b2);have HW:=L ((HW.o.A5 i).A5 b2);have HW1:=L (y.A5 b2);clear i b2 y;obtain⟨c0,c1',c2,cf⟩:=cells3 j.o;have d5:=ac h.o;have f5:=au h.o;have d7:=ac q.o;have f7:=au q.o;have hlt3:=ak q.o;have hltw:w.heap.size<w1.heap.size:=by omega
      go_wp2_with fail;generalize w2.alloc (W #[S a1 k1 c1] 381)=w3 at*;clear c0 c1' d7 f7;have F:(dp (bM g.data.toList)).length<=1048576:=H (dq (k:=128) (H HVB.o (by decide))) (by decide);have hLX:(dp (10^x)).length<=1048576:=H (dq (k:=128) (H (gY x) (by omega))) (by decide);have HLV:=L F;have HLX:=L hLX;clear F hLX
      go_region_with
       (first|(go_at_call 233;(with_reducible refine(aAt x _ (by omega)).mono ?_);rintro r wx ⟨ax,kx,cx,rfl,R,f⟩;have hx1:=(f.cell (p:=⟨w1.heap.size,0,G⟩) (by simp;omega)).trans d5;have hx2:=(f.cell (p:=⟨w.heap.size,2,G⟩) (by simp;omega)).trans c2)|(go_at_call 232;(with_reducible refine(aJD a ax k kx c cx (bM g.data.toList) (10^x) _ ((HW.o.A9).A5 f) R HLV.o HLX.o).mono ?_);rintro r wy ⟨A,B,C,rfl,hwm,F⟩;have hy1:=(F.cell (p:=⟨w1.heap.size,0,G⟩) (by have:=f.size;simp at this;simp;omega)).trans hx1;have hy2:=(F.cell (p:=⟨w.heap.size,2,G⟩) (by have:=f.size;simp at this;simp;omega)).trans hx2;have hyf:=(F.frozen (p:=⟨w1.heap.size,0,G⟩) (by have:=f.size;simp at this;simp;omega)).trans ((f.frozen (p:=⟨w1.heap.size,0,G⟩) (by simp;omega)).trans f5)))
      all_goals
       have g1:=keep (keep (w1:=w3.drew) j.o f) F;have t:=keep (keep (w1:=w3.drew) n.o f) F;have P:=keep (keep (w1:=w3.drew) h.o f) F;have g7:=keep (keep (w1:=w3.drew) q.o f) F;have d:=chain (chain m.o.drew f) F;have y:=((HW1.o.A9).A5 f).A5 F;rw[uP (H hB.o (by decide))]at hwm;have HM:=L (hwm.D6 P (by decide) 0 (S A B C));have HW1:=L (y.D6 P (by decide) 0 (S A B C));have m:=L (d.setCell (p:=⟨w1.heap.size,0,G⟩) (bp hltw) (S A B C));have G2:=L ((aE (w:=wy) (o:=0) (k:=w.heap.size+1) (b:=w1.heap.size) (S A B C) (by omega)).trans t);have e5:=ac (aB (o:=0) P (S A B C));have e7:=ac ((aE (w:=wy) (o:=0) (k:=w2.heap.size) (b:=w1.heap.size) (S A B C) (by omega)).trans g7);clear g1 t P g7 d y hwm hx1 hx2 hy1 hy2 hyf f F R d5 f5 c2 cf j n h q HW;go_wp2_with fail;refine(s9 A a1 B k1 C c1 (bM g.data.toList*10^x) 1 _ HM.o HW1.o (bu (ck hvp (bz (by decide)))) (by decide) (H hB.o (by decide)) (by decide) (H hB.o (by decide))).mono ?_;rintro r wz ⟨rfl,D⟩;have d:=chain m.o D;obtain⟨q0,q1,q2,qf⟩:=cells3 (keep G2.o D);have HBZ:=L d;clear d D m G2;rw[<-HF.o];obtain⟨⟨cb,ch,ce⟩,s⟩:∃z,bP ⟨neg,g.data.toList,(x:Int)⟩=z:=⟨_,rfl⟩;rw[s];have T:=L s;clear s HF;unfold cutV;go_wp2_with fail;exact N (v:=cutV ⟨cb,ch,ce⟩) (by simp[O,bk,go_sem,cutV,q0,q1,q2]) rfl ⟨by rw[T.o],((HBZ.o.setCell (ao _) _).setCell (ao _) _).setCell (ao _) _⟩
     .obtain⟨x,hx⟩:∃x:Nat,e= -(x:Int):=⟨(-e).toNat,by omega⟩;subst hx;have hx0:0<x:=by omega
      have hep2:¬x=0:=by omega
      have hep3:¬(x:Int)<=0:=by omega
      have Q:bP ⟨neg,g.data.toList,-(x:Int)⟩=bF (bM g.data.toList) (10^x):=by
       unfold bP;simp only[u];rw[if_neg h0,if_neg h1,if_neg h2,hcd,hce,if_neg hep,show(- -(x:Int)).toNat=x by omega]
      have HF:=L Q;have hB:=L (aAi (x:=x) hv (by omega));have HVB:=L (xG hv (by omega));clear Q h0 hcd hce;go_enter bh,bj;go_wp2_with fail;refine(s8 g _ HDS.o (by omega) (by omega)).mono ?_;rintro r w1 ⟨a,k,c,rfl,K,i⟩;have g1:=keep j.o i;have t:=keep n.o i;have d:=chain HB.o i;have hlt1:=ak t;have b1:ag w1.heap.size w1 (w1.alloc (W #[S a k c] 381)):=(ar _ _).alloc (aj _) _;have g1:=keep g1 b1;have t:=keep t b1;have d:=chain d b1;have P:=bm w1 (W #[S a k c] 381);have K:=K.A5 b1;have j:=L g1;have n:=L t;have h:=L P;have m:=L d;have HW:=L K;clear g1 t P d K i b1;go_wp2_with fail;refine(aAr 1 _ (by decide)).mono ?_;rintro r w2 ⟨a1,k1,c1,rfl,y,i⟩;have hlt2:=ak (keep h.o i);have b2:ag w2.heap.size w2 (w2.alloc (W #[S a1 k1 c1] 381)):=(ar _ _).alloc (aj _) _;have q:=L (bm w2 (W #[S a1 k1 c1] 381));have j:=L (keep (keep j.o i) b2);have n:=L (keep (keep n.o i) b2);have h:=L (keep (keep h.o i) b2);have m:=L (chain (chain m.o i) b2);have HW:=L ((HW.o.A5 i).A5 b2);have HW1:=L (y.A5 b2);clear i b2 y;obtain⟨c0,c1',c2,cf⟩:=cells3 j.o;have d5:=ac h.o;have f5:=au h.o;have d7:=ac q.o;have f7:=au q.o;have hlt3:=ak q.o;have hr4:V.wrap (x:Int)=(x:Int):=wr (by omega) (by omega);have hltw:w.heap.size+1<w2.heap.size:=by omega
      go_wp2_with fail;generalize w2.alloc (W #[S a1 k1 c1] 381)=w3 at*;refine(aAt x _ (by omega)).mono ?_;rintro r wx ⟨A,B,C,rfl,R,f⟩;have t:=keep n.o f;have P:=keep h.o f;have g7:=keep q.o f;have d:=chain m.o f;have K:=HW.o.A5 f;have HM:=L (K.D6 g7 (by decide) 0 (S A B C));have HX:=L (R.D6 g7 (by decide) 0 (S A B C));have m:=L (d.setCell (p:=⟨w2.heap.size,0,G⟩) (by simp;omega) (S A B C));have G2:=L ((aE (w:=wx) (o:=0) (k:=w.heap.size+1) (b:=w2.heap.size) (S A B C) (by omega)).trans t);have e5:=ac ((aE (w:=wx) (o:=0) (k:=w1.heap.size) (b:=w2.heap.size) (S A B C) (by omega)).trans P);have e7:=ac (aB (o:=0) g7 (S A B C));have i7:=ac g7;have j7:=au g7;clear t P g7 d K R f d5 f5 d7 f7 c0 c1' c2 cf j n h q HW HW1;go_wp2_with fail;refine(s9 a A k B c C (bM g.data.toList) (10^x) _ HM.o HX.o (bu hvp) (bu (bz (by decide))) (H HVB.o (by decide)) (H (gY x) (by omega)) hB.o).mono ?_;rintro r wz ⟨rfl,D⟩;have d:=chain m.o D;obtain⟨q0,q1,q2,qf⟩:=cells3 (keep G2.o D);have HBZ:=L d;clear d D m G2;rw[<-HF.o];obtain⟨⟨cb,ch,ce⟩,s⟩:∃z,bP ⟨neg,g.data.toList,-(x:Int)⟩=z:=⟨_,rfl⟩;rw[s];have T:=L s;clear s HF;unfold cutV;go_wp2_with fail;exact N (v:=cutV ⟨cb,ch,ce⟩) (by simp[O,bk,go_sem,cutV,q0,q1,q2]) rfl ⟨by rw[T.o],((HBZ.o.setCell (ao _) _).setCell (ao _) _).setCell (ao _) _⟩
theorem aKX{b:Nat}{c d:Cut}(e:c.bits<=aJ)(a:¬aJ<b->d.bits<=aJ):(if aJ<b then c else d).bits<=aJ:=by
 split
 .exact e
 .rename_i h;exact a h
theorem aKI(q r:Nat)(a:Int):(j4 q r a).bits<=aJ:=aKX (aj _) (λh=>Nat.not_lt.1 h)
theorem aJm(d:Dml):(bP d).bits<=aJ:=by
 unfold bP;split
 .exact cu _
 .split
  .exact aj _
  .split
   .exact cu _
   .split<;>exact aKI _ _ _
theorem tA{b:Nat}(h:b<9223372036854775808):bw BinOp.or J (b:Int) 9223372036854775808=((b+9223372036854775808:Nat):Int):=by
 have e:=bits_or_u64_nat b 9223372036854775808 (by omega) (by decide)
 have a:b||| 9223372036854775808=b+9223372036854775808:=by
  have:=Nat.two_pow_add_eq_or_of_lt (i:=63) (b:=b) (by simpa using h) 1;rw[Nat.or_comm,Nat.add_comm]
  simpa using this.symm
 rw[a]at e;exact e
theorem and_one{b:Nat}(h:b<18446744073709551616):bw cg J (b:Int) 1=((b%2:Nat):Int):=by
 have e:=bits_and_u64_nat b 1 h (by decide);rw[Nat.and_one_is_mod]at e;exact e
def iV(neg:Bool)(b:Nat):Nat:=if neg=Z/\0<b then b+9223372036854775808 else b
def gI(neg:Bool)(b:Nat):Option Nat:=if aJ<b then G else av (iV neg b)
def xH(o:Option Nat)(e:Ending):Prop:=match o with
 | some b=>e=bg (U #[I J b,Y])
 | none=>e=bg (U #[I J 0,ai 29 (I V 41)])
def aFO(o:Option Nat)(e:Ending):Prop:=match o with
 | some b=>e=bg (U #[I J b,Y])
 | none=>∃T v,e=bg (U #[I J 0,ai T v])
theorem aC0(neg:Bool)(u:ByteArray)(e:Int)(w:bs)(d:qA u.data.toList)(Q:u.size<=1073741824)(R: -4611686018427387904<=e)(F:e<=4611686018427387904)(a:u.size≠0->0<bM u.data.toList):
 ba bc 195 #[.agg #[af neg,ah u,I V e],I V 1] w λr w'=>xH (cD ⟨neg,u.data.toList,e⟩) r/\ag w.heap.size w w':=by
 have P:=λw=>aHj neg u e w d Q R F a
 have q:=aJm ⟨neg,u.data.toList,e⟩;have f:cD ⟨neg,u.data.toList,e⟩=gI neg (b8 (bP ⟨neg,u.data.toList,e⟩)):=rfl;rw[f];clear f d a;obtain⟨⟨b,t,x⟩,a⟩:∃c,bP ⟨neg,u.data.toList,e⟩=c:=⟨_,rfl⟩;simp only[a]at*;clear a
 unfold cutV at P;go_enter func195,ntmps195;go_wp2_with fail;refine(P _).mono ?_;rintro r w1 ⟨rfl,g⟩;obtain⟨d,a,T⟩:=after1 g;have b1:ag w1.heap.size w1 (w1.alloc (W #[I J b,I V t,af x] 359)):=(ar _ _).alloc (aj _) _;have h2:=keep d b1;obtain⟨-,-,-,-⟩:=cells3 h2;have K:=L (and_one (b:=b) (by unfold aJ at q;omega));have f:=L (λo:Obj=>a.alloc (by omega) o);have hcn:∀o:Obj,(w1.alloc o).cell? ⟨w.heap.size,0,G⟩=av (af neg):=λo=>(cells3 (keep d ((ar _ _).alloc (aj _) o))).1
 clear g d a b1
 by_cases B:t=0
 .subst B
  by_cases s:b%2=0
  .have y:bw cg J (b:Int) 1=0:=by rw[K.o,s];rfl
   have g:b8 ⟨b,0,x⟩=b:=by unfold b8;rw[if_pos ⟨rfl,s⟩]
   obtain⟨d,l⟩:∃z:Nat,z=b:=⟨_,rfl⟩;have m:d<9223372036854775808:=by unfold aJ at q;omega
   subst l;have h:=L g;clear g
   by_cases k:aJ<d
   .have n:(9218868437227405311:Int)<(d:Int):=by unfold aJ at k;omega
    have a:=L (show gI neg d=G from if_pos k);clear k;go_wp2_with fail;exact N (v:=U #[I J 0,ai 29 (I V 41)]) (by simp[O,X,go_sem]) rfl ⟨by rw[h.o,a.o];rfl,f.o _⟩
   .have n:¬(9218868437227405311:Int)<(d:Int):=by unfold aJ at k;omega
    have a:=L (show gI neg d=av (iV neg d)from if_neg k);clear k;have A:=tA m;cases neg with
    | false=>
     go_wp2_with fail;exact N (v:=U #[I J d,Y]) (by simp[O,X,go_sem]) rfl ⟨by rw[h.o,a.o];rfl,f.o _⟩
    | true=>
     by_cases i:0<d
     .have p:(0:Int)<(d:Int):=by omega
      have j:=L (show iV Z d=d+9223372036854775808 from if_pos ⟨rfl,i⟩);clear i;go_wp2_with fail;exact N (v:=U #[I J ((d+9223372036854775808:Nat):Int),Y]) (by simp[O,X,go_sem]) rfl ⟨by rw[h.o,a.o,j.o];rfl,f.o _⟩
     .have p:¬(0:Int)<(d:Int):=by omega
      have j:=L (show iV Z d=d from if_neg (λt=>i t.2));clear i;go_wp2_with fail;exact N (v:=U #[I J d,Y]) (by simp[O,X,go_sem]) rfl ⟨by rw[h.o,a.o,j.o];rfl,f.o _⟩
  .cases x with
   | false=>
    have y:bw cg J (b:Int) 1=1:=by rw[K.o,show b%2=1 by omega];rfl
    have g:b8 ⟨b,0,ae⟩=b+1:=by unfold b8;rw[if_neg (λt=>s t.2),if_pos ⟨Int.le_refl 0,rfl⟩]
    have C:J.wrap ((b:Int)+1)=((b+1:Nat):Int):=by rw[dt];unfold aJ at q;omega
    obtain⟨d,l⟩:∃z:Nat,b+1=z:=⟨_,rfl⟩;rw[l]at C g;have m:d<9223372036854775808:=by unfold aJ at q;omega
    have h:=L g;clear g l
    by_cases k:aJ<d
    .have n:(9218868437227405311:Int)<(d:Int):=by unfold aJ at k;omega
     have a:=L (show gI neg d=G from if_pos k);clear k;go_wp2_with fail;exact N (v:=U #[I J 0,ai 29 (I V 41)]) (by simp[O,X,go_sem]) rfl ⟨by rw[h.o,a.o];rfl,f.o _⟩
    .have n:¬(9218868437227405311:Int)<(d:Int):=by unfold aJ at k;omega
     have a:=L (show gI neg d=av (iV neg d)from if_neg k);clear k;have A:=tA m;cases neg with
     | false=>
      go_wp2_with fail;exact N (v:=U #[I J d,Y]) (by simp[O,X,go_sem]) rfl ⟨by rw[h.o,a.o];rfl,f.o _⟩
     | true=>
      by_cases i:0<d
      .have p:(0:Int)<(d:Int):=by omega
       have j:=L (show iV Z d=d+9223372036854775808 from if_pos ⟨rfl,i⟩);clear i;go_wp2_with fail;exact N (v:=U #[I J ((d+9223372036854775808:Nat):Int),Y]) (by simp[O,X,go_sem]) rfl ⟨by rw[h.o,a.o,j.o];rfl,f.o _⟩
      .have p:¬(0:Int)<(d:Int):=by omega
       have j:=L (show iV Z d=d from if_neg (λt=>i t.2));clear i;go_wp2_with fail;exact N (v:=U #[I J d,Y]) (by simp[O,X,go_sem]) rfl ⟨by rw[h.o,a.o,j.o];rfl,f.o _⟩
   | true=>
    have y:bw cg J (b:Int) 1=1:=by rw[K.o,show b%2=1 by omega];rfl
    have g:b8 ⟨b,0,Z⟩=b:=by unfold b8;rw[if_neg (λt=>s t.2),if_neg (by simp)]
    obtain⟨d,l⟩:∃z:Nat,z=b:=⟨_,rfl⟩;have m:d<9223372036854775808:=by unfold aJ at q;omega
    subst l;have h:=L g;clear g
    by_cases k:aJ<d
    .have n:(9218868437227405311:Int)<(d:Int):=by unfold aJ at k;omega
     have a:=L (show gI neg d=G from if_pos k);clear k;go_wp2_with fail;exact N (v:=U #[I J 0,ai 29 (I V 41)]) (by simp[O,X,go_sem]) rfl ⟨by rw[h.o,a.o];rfl,f.o _⟩
    .have n:¬(9218868437227405311:Int)<(d:Int):=by unfold aJ at k;omega
     have a:=L (show gI neg d=av (iV neg d)from if_neg k);clear k;have A:=tA m;cases neg with
     | false=>
      go_wp2_with fail;exact N (v:=U #[I J d,Y]) (by simp[O,X,go_sem]) rfl ⟨by rw[h.o,a.o];rfl,f.o _⟩
     | true=>
      by_cases i:0<d
      .have p:(0:Int)<(d:Int):=by omega
       have j:=L (show iV Z d=d+9223372036854775808 from if_pos ⟨rfl,i⟩);clear i;go_wp2_with fail;exact N (v:=U #[I J ((d+9223372036854775808:Nat):Int),Y]) (by simp[O,X,go_sem]) rfl ⟨by rw[h.o,a.o,j.o];rfl,f.o _⟩
      .exfalso;omega
 .by_cases y:0<t
  .cases x with
   | false=>
    have D:(t==0)=ae:=by simpa using B
    have s:(0:Int)<=t:=by omega
    have g:b8 ⟨b,t,ae⟩=b+1:=by unfold b8;rw[if_neg (λy=>B y.1),if_pos ⟨s,rfl⟩]
    have C:J.wrap ((b:Int)+1)=((b+1:Nat):Int):=by rw[dt];unfold aJ at q;omega
    obtain⟨d,l⟩:∃z:Nat,b+1=z:=⟨_,rfl⟩;rw[l]at C g;have m:d<9223372036854775808:=by unfold aJ at q;omega
    have h:=L g;clear g l
    by_cases k:aJ<d
    .have n:(9218868437227405311:Int)<(d:Int):=by unfold aJ at k;omega
     have a:=L (show gI neg d=G from if_pos k);clear k;go_wp2_with fail;exact N (v:=U #[I J 0,ai 29 (I V 41)]) (by simp[O,X,go_sem]) rfl ⟨by rw[h.o,a.o];rfl,f.o _⟩
    .have n:¬(9218868437227405311:Int)<(d:Int):=by unfold aJ at k;omega
     have a:=L (show gI neg d=av (iV neg d)from if_neg k);clear k;have A:=tA m;cases neg with
     | false=>
      go_wp2_with fail;exact N (v:=U #[I J d,Y]) (by simp[O,X,go_sem]) rfl ⟨by rw[h.o,a.o];rfl,f.o _⟩
     | true=>
      by_cases i:0<d
      .have p:(0:Int)<(d:Int):=by omega
       have j:=L (show iV Z d=d+9223372036854775808 from if_pos ⟨rfl,i⟩);clear i;go_wp2_with fail;exact N (v:=U #[I J ((d+9223372036854775808:Nat):Int),Y]) (by simp[O,X,go_sem]) rfl ⟨by rw[h.o,a.o,j.o];rfl,f.o _⟩
      .have p:¬(0:Int)<(d:Int):=by omega
       have j:=L (show iV Z d=d from if_neg (λt=>i t.2));clear i;go_wp2_with fail;exact N (v:=U #[I J d,Y]) (by simp[O,X,go_sem]) rfl ⟨by rw[h.o,a.o,j.o];rfl,f.o _⟩
   | true=>
    have D:(t==0)=ae:=by simpa using B
    have s:(0:Int)<=t:=by omega
    have g:b8 ⟨b,t,Z⟩=b:=by unfold b8;rw[if_neg (λy=>B y.1),if_neg (by simp)]
    obtain⟨d,l⟩:∃z:Nat,z=b:=⟨_,rfl⟩;have m:d<9223372036854775808:=by unfold aJ at q;omega
    subst l;have h:=L g;clear g
    by_cases k:aJ<d
    .have n:(9218868437227405311:Int)<(d:Int):=by unfold aJ at k;omega
     have a:=L (show gI neg d=G from if_pos k);clear k;go_wp2_with fail;exact N (v:=U #[I J 0,ai 29 (I V 41)]) (by simp[O,X,go_sem]) rfl ⟨by rw[h.o,a.o];rfl,f.o _⟩
    .have n:¬(9218868437227405311:Int)<(d:Int):=by unfold aJ at k;omega
     have a:=L (show gI neg d=av (iV neg d)from if_neg k);clear k;have A:=tA m;cases neg with
     | false=>
      go_wp2_with fail;exact N (v:=U #[I J d,Y]) (by simp[O,X,go_sem]) rfl ⟨by rw[h.o,a.o];rfl,f.o _⟩
     | true=>
      by_cases i:0<d
      .have p:(0:Int)<(d:Int):=by omega
       have j:=L (show iV Z d=d+9223372036854775808 from if_pos ⟨rfl,i⟩);clear i;go_wp2_with fail;exact N (v:=U #[I J ((d+9223372036854775808:Nat):Int),Y]) (by simp[O,X,go_sem]) rfl ⟨by rw[h.o,a.o,j.o];rfl,f.o _⟩
      .have p:¬(0:Int)<(d:Int):=by omega
       have j:=L (show iV Z d=d from if_neg (λt=>i t.2));clear i;go_wp2_with fail;exact N (v:=U #[I J d,Y]) (by simp[O,X,go_sem]) rfl ⟨by rw[h.o,a.o,j.o];rfl,f.o _⟩
  .have D:(t==0)=ae:=by simpa using B
   have s:¬(0:Int)<=t:=by omega
   have g:b8 ⟨b,t,x⟩=b:=by unfold b8;rw[if_neg (λy=>B y.1),if_neg (λy=>s y.1)]
   obtain⟨d,l⟩:∃z:Nat,z=b:=⟨_,rfl⟩;have m:d<9223372036854775808:=by unfold aJ at q;omega
   subst l;have h:=L g;clear g
   by_cases k:aJ<d
   .have n:(9218868437227405311:Int)<(d:Int):=by unfold aJ at k;omega
    have a:=L (show gI neg d=G from if_pos k);clear k;go_wp2_with fail;exact N (v:=U #[I J 0,ai 29 (I V 41)]) (by simp[O,X,go_sem]) rfl ⟨by rw[h.o,a.o];rfl,f.o _⟩
   .have n:¬(9218868437227405311:Int)<(d:Int):=by unfold aJ at k;omega
    have a:=L (show gI neg d=av (iV neg d)from if_neg k);clear k;have A:=tA m;cases neg with
    | false=>
     go_wp2_with fail;exact N (v:=U #[I J d,Y]) (by simp[O,X,go_sem]) rfl ⟨by rw[h.o,a.o];rfl,f.o _⟩
    | true=>
     by_cases i:0<d
     .have p:(0:Int)<(d:Int):=by omega
      have j:=L (show iV Z d=d+9223372036854775808 from if_pos ⟨rfl,i⟩);clear i;go_wp2_with fail;exact N (v:=U #[I J ((d+9223372036854775808:Nat):Int),Y]) (by simp[O,X,go_sem]) rfl ⟨by rw[h.o,a.o,j.o];rfl,f.o _⟩
     .have p:¬(0:Int)<(d:Int):=by omega
      have j:=L (show iV Z d=d from if_neg (λt=>i t.2));clear i;go_wp2_with fail;exact N (v:=U #[I J d,Y]) (by simp[O,X,go_sem]) rfl ⟨by rw[h.o,a.o,j.o];rfl,f.o _⟩
theorem aA6(w:bs):ba bc 193 #[I V 1] w λe w'=>e=bg (af Z)/\w'=w:=by
 go_enter func193,ntmps193;go_wp2;go_ret;exact⟨rfl,rfl⟩
theorem aHk{l r:List UInt8}{c:UInt8}(h:l.dropWhile (λx=>x==48)=c::r):c≠48:=by
 induction l with
 | nil=>cases h
 | cons x l b=>
  by_cases a:(x==48)=Z
  .rw[List.dropWhile_cons_of_pos (by simpa using a)]at h;exact b h
  .rw[List.dropWhile_cons_of_neg (by simpa using a)]at h;injection h with d h2
   subst d;intro e;subst e;exact a rfl
theorem aJn(neg:Bool)(a:List UInt8)(e:Int)(j:∀c∈a,isD c=Z):qA (bZ neg a e).digits/\(bZ neg a e).digits.length<=a.length/\((bZ neg a e).digits≠ []->0<bM (bZ neg a e).digits)/\
 ((bZ neg a e).exp=0\/(e<=(bZ neg a e).exp/\(bZ neg a e).exp<=e+a.length)):=by
 unfold bZ;split
 .exact⟨(λc b=>by cases b),cu _,λh=>absurd rfl h,.inl rfl⟩
 .rename_i i;have o:∀c∈E a 48,c∈a:=λc b=>(du _).subset b
  have n:(E a 48).length<=a.length:=(du _).length_le
  obtain⟨y,g⟩:∃y,E a 48=aw (E a 48) 48++y:=by
   have p:=List.dropWhile_suffix (l:=(E a 48).reverse) (λx:UInt8=>x==48);obtain⟨t,m⟩:=p;refine⟨t.reverse,?_⟩;have:=congrArg List.reverse m;rw[List.reverse_append,List.reverse_reverse]at this;exact this.symm
  have d:∀c∈aw (E a 48) 48,c∈a:=λc b=>o c (by rw[g];exact List.mem_append_left _ b)
  have s:(aw (E a 48) 48).length<=(E a 48).length:=by
   have:=congrArg List.length g;rw[ct]at this;omega
  refine⟨λc b=>by have:=j c (d c b);simpa[isD]using this,by show(aw (E a 48) 48).length<=_;omega,λ_=>?_,.inr ⟨?_,?_⟩⟩
  .show 0<bM (aw (E a 48) 48)
   cases k:aw (E a 48) 48 with
   | nil=>exact absurd k i
   | cons c r=>
    rw[k]at g d;have b:=aHk (l:=a) (r:=r++y) (c:=c) g;have f:=j c (d c (by simp));have w:48<=c.toNat:=by simp[isD]at f;exact f.1
    have v:c.toNat≠48:=λh=>b (UInt8.toNat_inj.1 h)
    have u:bM (c::r)=bM [c]*10^r.length+bM r:=jJ [c] r;have q:bM [c]=c.toNat-48:=by simp[bM]
    rw[u,q];exact co (ck (by omega) (bz (by decide))) (Nat.le_add_right _ _)
  .show e<=e+((E a 48).length:Int)-((aw (E a 48) 48).length:Int);omega
  .show e+((E a 48).length:Int)-((aw (E a 48) 48).length:Int)<=_;omega
theorem aHl(s:ByteArray)(w:bs)(D:s.size<=1073741824):ba bc 172 #[ah s,I V 1] w λe w'=>aFO (bitsOf s.data.toList) e/\ag w.heap.size w w':=by
 have g:=λw=>aEY s w D
 have F:s.data.toList.length=s.size:=bx;cases h:bG s.data.toList with
 | none=>
  have b:bitsOf s.data.toList=G:=by unfold bitsOf;rw[h];rfl
  rw[b];simp only[h]at g;have n:=L g;clear h b g;go_enter cv,cw;go_wp2_with fail;refine(aA6 _).mono ?_;rintro e w1 ⟨rfl,rfl⟩;go_wp2_with fail;refine(n.o _).mono ?_;rintro e w1 ⟨⟨i,rfl⟩,b⟩;have f:=L (b.alloc b.size (W #[af ae,ah ⟨#[]⟩,I V 0] 339));clear b;unfold fT;go_wp2_with fail;exact N (v:=U #[I J 0,ai 151 (.agg #[I V 40,I V i])]) (by simp[O,cz,go_sem]) rfl ⟨⟨_,_,rfl⟩,f.o⟩
 | some l=>
  obtain⟨o1,A,B,K⟩:=aFN h;have b:bitsOf s.data.toList=cD (cU l):=by unfold bitsOf;rw[h];rfl
  have o:=zX (a:=0) (l:=l.exp) (by omega) (λc t=>by have:=B c t;simp[isD]at this;exact this.2);obtain⟨u,x,y,z⟩:=aJn l.neg (l.whole++l.behind) ((if l.under then -(fE l.exp:Int)else fE l.exp)-l.behind.length) (λc t=>(dm.1 t).elim (o1 c) (A c))
  have P: -351843720888329<=(if l.under then -(fE l.exp:Int)else fE l.exp)/\(if l.under then -(fE l.exp:Int)else fE l.exp)<=351843720888329:=by
   have:fE l.exp<=351843720888329:=o;split<;>omega
  rw[ct]at x z;change qA (cU l).digits at u;change(cU l).digits.length<=_ at x;change((cU l).digits≠ []->0<bM (cU l).digits)at y;change((cU l).exp=0\/(_<=(cU l).exp/\(cU l).exp<=_))at z;simp only[h]at g;rw[b];obtain⟨⟨k,j,m⟩,C⟩:∃d,cU l=d:=⟨_,rfl⟩;have g:∀w,ba bc 194 #[ah s] w λe w'=>e=bg (U #[fT (cU l),Y])/\ag w.heap.size w w':=g
  simp only[C]at*;have p:=λw=>aC0 k ⟨j.toArray⟩ m w (by simpa using u) (by show j.toArray.size<=_;simp;omega) (by omega) (by omega) (λR=>by have:=y (λQ=>R (by subst Q;rfl));simpa using this)
  have p:∀w,ba bc 195 #[.agg #[af k,ah ⟨j.toArray⟩,I V m],I V 1] w λr w'=>xH (cD ⟨k,j,m⟩) r/\ag w.heap.size w w':=by simpa using p
  have n:=L g;have q:=L p;clear h b g p C u x y z P o o1 A B K;unfold fT at n;cases h:cD ⟨k,j,m⟩with
  | none=>
   rw[h]at q;go_enter cv,cw;go_wp2_with fail;refine(aA6 _).mono ?_;rintro e w1 ⟨rfl,rfl⟩;go_wp2_with fail;refine(n.o _).mono ?_;rintro e w1 ⟨rfl,b⟩;have f:=L (b.alloc b.size (W #[af k,ah ⟨j.toArray⟩,I V m] 339));clear b;go_wp2_with fail;refine(q.o _).mono ?_;rintro e w2 ⟨rfl,b⟩;have g:=L (chain f.o b);clear b;go_wp2_with fail;exact N (v:=U #[I J 0,ai 29 (I V 41)]) (by simp[O,cz,go_sem]) rfl ⟨⟨_,_,rfl⟩,g.o⟩
  | some o=>
   rw[h]at q;go_enter cv,cw;go_wp2_with fail;refine(aA6 _).mono ?_;rintro e w1 ⟨rfl,rfl⟩;go_wp2_with fail;refine(n.o _).mono ?_;rintro e w1 ⟨rfl,b⟩;have f:=L (b.alloc b.size (W #[af k,ah ⟨j.toArray⟩,I V m] 339));clear b;go_wp2_with fail;refine(q.o _).mono ?_;rintro e w2 ⟨rfl,b⟩;have g:=L (chain f.o b);clear b;go_wp2_with fail;exact N (v:=U #[I J o,Y]) (by simp[O,cz,go_sem]) rfl ⟨rfl,g.o⟩
theorem aC1(s:ByteArray)(w:bs)(f:s.size<=1073741824):ba bc 146 #[ah s] w λe w'=>aFO (bitsOf s.data.toList) e/\ag w.heap.size w w':=by
 have c:=L (λw=>aHl s w f);cases d:bitsOf s.data.toList with
 | none=>
  rw[d]at c;go_enter func146,ntmps146;go_wp2_with fail;refine(c.o _).mono ?_;rintro e w1 ⟨⟨T,v,rfl⟩,a⟩;go_wp2_with fail;exact N (v:=U #[I J 0,ai T v]) (by simp[O,dv,go_sem]) rfl ⟨⟨_,_,rfl⟩,a⟩
 | some b=>
  rw[d]at c;go_enter func146,ntmps146;go_wp2_with fail;refine(c.o _).mono ?_;rintro e w1 ⟨rfl,a⟩;go_wp2_with fail;exact N (v:=U #[I J b,Y]) (by simp[O,dv,go_sem]) rfl ⟨rfl,a⟩
end Go.Proofs.YtakkmiomhackiaaGreatDoor
