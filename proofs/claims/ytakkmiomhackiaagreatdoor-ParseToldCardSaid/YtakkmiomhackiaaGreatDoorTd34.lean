/-
  The program, one part of its walk. Conditions: none.
-/
import Derived.Test.YtakkmiomhackiaaGreatDoorTd32
set_option linter.all false
set_option maxRecDepth 100000
set_option maxHeartbeats 16000000
open Go.Proofs.Tryz
open Bool renaming false->H,true->ao
open Except renaming error->ai
open Go renaming Calls->ae,Value->az,World->Z,heap_alloc_new->ak,maxLen->aw
open Go.Ending renaming returned->bc
open Go.IntKind renaming i64->J,u8->U,wrap_i64->bu
open Go.Obj renaming cells->S
open Go.Proofs.Tryz renaming func112->au,ntmps112->av,prog->Q
open Go.Proofs.YtakkmiomhackiaaGreatDoor.Fr renaming object->af
open Go.Proofs.YtakkmiomhackiaaGreatDoor.Keeps renaming A1->ah,A3->ag
open Go.Proofs.YtakkmiomhackiaaGreatDoor.Ps renaming C5->bs,D3->ar,D9->bp,F4->bj,F7->bh
open Go.Proofs.YtakkmiomhackiaaGreatDoor.eU renaming P8->bk
open Go.Value renaming agg->aj,int->I,pointer->E,slice->X,string->V,tuple->bg
open Go.World renaming setCell->bm
open Nat renaming le_trans->ac,lt_of_lt_of_le->ba
open Option renaming none->N,some->O
open Or renaming inl->Y,inr->K
namespace Go.Proofs.YtakkmiomhackiaaGreatDoor
open Go.RowKit
theorem aEI{x:Ps}{c:List Fr}{k:List (List UInt8)}{l:List UInt8}{b:Nat}(a:x.pile=c++ [af k])(f:x.want=2\/x.want=3)(e:l∈k):x.F7 b l=ai (101,b):=by
 have d:fO x.pile=k:=by unfold fO;rw[a];simp
 unfold bh;rw[if_neg (by omega),d,if_pos e]
theorem aJf{x:Ps}{b:List Fr}{k:List (List UInt8)}{l:List UInt8}{c:Nat}(a:x.pile=b++ [af k])(g:x.want=2\/x.want=3)(f:l∉k):x.F7 c l=(bj {x with pile:=b++ [af (k++ [l])]} l c).map λp=>{p with want:=4}:=by
 have e:fO x.pile=k:=by unfold fO;rw[a];simp
 have d:x.pile.dropLast=b:=by rw[a];simp
 unfold bh;rw[if_neg (by omega),e,if_neg f,d]
theorem aG8{f:Nat->Prop}{w:Z}{a:az}{b:List Fr}{o:Fr}{c:List az}(i:eH f w a (b++ [o]) c):
 ∃g off cap u,a=X (O ⟨g,off,N⟩) (b.length+1) cap/\w.cell? ⟨g,off+b.length,N⟩=O u/\f g/\b.length+1<=cap/\cap<=aw/\∃x:Nat->Prop,(∀k,x k->f k/\k≠g)/\jI x w u o/\
  ∀(w':Z)(G:Nat->Prop)(h:Fr),Keeps G w w'->(∀k,G k->f k->x k)->jI (Since x w w') w' u h->eH (Since f w w') w' a (b++ [h]) c:=by
 obtain⟨x,u,m,s,j,l⟩:=i.L4;have d:c.length=b.length+1:=by rw[i.len];simp
 rcases i.win.1 with⟨rfl,p⟩|⟨g,off,cap,r,rfl,q,v,-,t,hi⟩
 .rw[p]at d;simp at d
 .refine⟨g,off,cap,u,by rw[d],?_,i.win.2 g rfl,by omega,t,x,λk n=>⟨(m k n).1,λe=>(m k n).2 (by rw[e];rfl)⟩,j,l⟩;rw[aA q];exact hi _ u s
theorem aG.F6{G:Nat->Prop}{w:Z}{p:Nat}{x:Ps}{s:LS}{toks:List Tok}(h:aG G w p x s toks):w.cell? ⟨p,8,N⟩=O .nilIface/\w.cell? ⟨p,9,N⟩=O (.bool H)/\(∀o,w.frozen? ⟨p,o,N⟩=H)/\w.cell? ⟨p,5,N⟩=O (I J x.want)/\w.cell? ⟨p,1,N⟩=O (I J x.place):=by
 obtain⟨-,i,m,k,l,j,a,b,-,d,-,-,-⟩:=h;obtain⟨-,c1,-,-,-,g,-,-,c,e,f⟩:=bX d;exact⟨c,e,f,g,c1⟩
theorem aJg(F:Nat->Prop)(w:Z)(p:Nat)(x:Ps)(s:LS)(toks:List Tok)(i B:Nat)(l:List UInt8)(P:List Fr)(k:List (List UInt8))(hl:l.length<=16777216)(G:aG F w p x s toks)(v:x.pile=P++ [af k])(hil:P.length<=1048576)(hkl:k.length<=4194303)(hby:x.bytes<=1073741824)(hw:x.want=2\/x.want=3):
 ae Q 113 #[E (O ⟨p,0,N⟩),aj #[I J i,I J B,V ⟨l.toArray⟩]] w λe w'=>cH e/\dH F w p s toks (x.F7 i l) e w':=by
 have hlt:=G.lt;have h1:=boxed G (S #[I J i,I J B,V ⟨l.toArray⟩] 241);have r:=ak w (S #[I J i,I J B,V ⟨l.toArray⟩] 241);have hBF:¬F w.heap.size:=λhf=>absurd (hlt _ hf) (Nat.lt_irrefl _)
 have HLT:=L hlt;have HSF:=L G.M8;have hkW0:Keeps F w (w.alloc (S #[I J i,I J B,V ⟨l.toArray⟩] 241)):=(ag F w).A4 _;obtain⟨W,hW⟩:∃W,w.alloc (S #[I J i,I J B,V ⟨l.toArray⟩] 241)=W:=⟨_,rfl⟩;rw[hW]at h1 r hkW0;have HKW:=L hkW0;have HPAR:=L h1;obtain⟨hltW,FL,FM,FP,lb,mb,pileV,vals,hp,hb,hL,hM,hP⟩:=h1;rw[v]at hP;obtain⟨g,off,cap,u,rfl,hcu,-,hcap,-,a0,hQ,hfr,hst⟩:=aG8 hP;obtain⟨h,mp,kV,rfl,R,hQb,T,hkz,hmm,hQm⟩:=hfr;have hta:∀w:Z,(Instr.typeAssert (.iface 275 (E (O ⟨h,0,N⟩))) 281 275 H).run Q w=.ok (E (O ⟨h,0,N⟩)) w:=λ_=>by kernel_rfl
 have hll:l.length<=aw:=by unfold aw;omega
 have hr1:J.wrap ((P.length:Int)+1-1)=(P.length:Int):=by rw[bu];omega
 obtain⟨n,hn⟩:∃n,P.length=n:=⟨_,rfl⟩;have c4:W.cell? ⟨p,4,N⟩=O (X (O ⟨g,off,N⟩) (n+1) cap):=by rw[aA hb,<-hn];rfl
 rw[hn]at hil hcu hr1 hcap;have b0:W.cell? ⟨w.heap.size,0,N⟩=O (I J i):=aA r;have b2:W.cell? ⟨w.heap.size,2,N⟩=O (V ⟨l.toArray⟩):=aA r;have f0:W.cell? ⟨h,0,N⟩=O kV:=aA R;have f1:W.cell? ⟨h,1,N⟩=O (.map (O mp)):=aA R;have c5:W.cell? ⟨p,5,N⟩=O (I J x.want):=by rw[aA hb];rfl
 have f:=bk (w:=W.drew.drew) (show eU W.drew.drew mp k.reverse from hmm) hll;have D:Keeps (λ_=>False) W (W.alloc (S #[] 101)):=(ag _ W).A4 _;have d:=bk (w:=(W.alloc (S #[] 101)).drew.drew) (show eU (W.alloc (S #[] 101)).drew.drew mp k.reverse from hmm.A0 D.A9.A9 id) hll;have b02:(W.alloc (S #[] 101)).cell? ⟨w.heap.size,0,N⟩=O (I J i):=D.B5 b0 id;have b22:(W.alloc (S #[] 101)).cell? ⟨w.heap.size,2,N⟩=O (V ⟨l.toArray⟩):=D.B5 b2 id;have f12:(W.alloc (S #[] 101)).cell? ⟨h,1,N⟩=O (.map (O mp)):=D.B5 f1 id;have HFA:=L (λw=>gW w 101 i)
 by_cases C:l∈k
 .rw[aEI v hw C];have hd:decide (l∈k.reverse)=ao:=by simpa using C
  rw[hd]at f d;unfold encS at f d;obtain⟨sv,hsv⟩:∃sv:ByteArray,(⟨l.toArray⟩:ByteArray)=sv:=⟨_,rfl⟩;rw[hsv]at hW f d b2 b22⊢;have a:=L D;clear hlt r hb hL hM hP hp hQ R hQb T hkz hmm hQm hd C v G hll hsv hBF hst D hkW0 hltW;rcases hw with hw|hw
  all_goals
   rw[hw]at c5;clear hw;go_enter func113,ntmps113;go_wp2_with fail;go_region;go_wp2_with fail;go_region
   all_goals
    go_wp2_with fail;refine(HFA.o _).mono ?_;rintro e w2 ⟨he,rfl⟩;unfold bR at he;subst he;go_wp2_with fail;exact⟨rfl,K ⟨_,_,rfl⟩,HKW.o.B9 a.o.A9.A9 (λ_ G=>G.elim),rfl,HPAR.o.H8.A0 a.o.A9.A9 id⟩
 .rw[aJf v hw C];have hd:decide (l∈k.reverse)=H:=by simpa using C
  rw[hd]at f d;obtain⟨z,hup,hmap,hturn⟩:=eU.C7 (w:=(W.alloc (S #[] 101)).drew.drew.drew) (show eU (W.alloc (S #[] 101)).drew.drew.drew mp k.reverse from hmm.A0 D.A9.A9.A9 id) (by rw[List.length_reverse];omega) hll;have hk3:Keeps (λq=>q=mp) W z:=(D.A9.A9.A9.A6 (λ_ G=>G.elim)).B8 (mO hturn);obtain⟨es,clock,hes,_⟩:=hmm;have hfbm:h≠mp:=λe=>by subst e;rw[hes]at R;cases R
  have hBm:w.heap.size≠mp:=λe=>by rw[e,hes]at r;cases r
  have hkVm:kV.ownBlock≠O mp:=by
   intro e;obtain⟨c,hc⟩:=T.1.E4 e;rw[hes]at hc;cases hc
  have hkVf:kV.ownBlock≠O h:=by
   intro e;obtain⟨c,hc⟩:=T.1.E4 e;rw[R]at hc;cases hc
  have hfb3:=hk3.C4 R hfbm;have m:=hk3.C4 r hBm;have hkv3:Win 9 encS z kV k:=T.1.A0 hk3 (λq e hq=>hkVm (by rw[e,hq]));obtain⟨ka,kc,hkve⟩:=T.1.A8;have hkx:Keeps (λ_=>False) z (z.drew.alloc (S #[V ⟨l.toArray⟩] 9)):=((ag _ z).A9).A4 _;have hwx:=(hkv3.A0 hkx (λ_ _=>id)).Q7
  have hnewc:∀j u,([V ⟨l.toArray⟩]:List az)[j]?=O u->(z.drew.alloc (S #[V ⟨l.toArray⟩] 9)).cell? ((⟨z.heap.size,0,N⟩:Addr).add j)=O u:=by
   intro j u a;have hp:=tQ z.heap.size j;rw[hp]
   show(z.drew.alloc _).cell? ⟨z.drew.heap.size,j,N⟩=_
   rw[aA (ak z.drew _)]
   simpa using a
  have hon:∀u∈([V ⟨l.toArray⟩]:List az),u.oneCell'=ao:=λu hu=>by simp at hu;subst hu;rfl
  have hbm:(k.length+1)*16<=140737488355328:=by omega
  have hmm2:k.length+1<=aw:=by unfold aw;omega
  have d0:z.cell? ⟨h,0,N⟩=O kV:=aA hfb3;have d0a:(z.alloc (S #[V ⟨l.toArray⟩] 9)).cell? ⟨h,0,N⟩=O kV:=((ag (λ_=>False) z).A4 _).B5 d0 id;have e1:z.cell? ⟨w.heap.size,2,N⟩=O (V ⟨l.toArray⟩):=aA m;have e1a:(z.alloc (S #[V ⟨l.toArray⟩] 9)).cell? ⟨w.heap.size,2,N⟩=O (V ⟨l.toArray⟩):=((ag (λ_=>False) z).A4 _).B5 e1 id;have HPX:=L (hkx.C4 hfb3 id)
  have hfin:∀(A a b:Nat)(w':Z),aR 1 9 w' (X (O ⟨A,a,N⟩) (k.length+1) b) (k.length+1) (k.map encS++ [V ⟨l.toArray⟩])->(kV.ownBlock=O A\/((z.drew.alloc (S #[V ⟨l.toArray⟩] 9)).heap.size<=A/\A<w'.heap.size))->Keeps (λq=>kV.ownBlock=O q) (z.drew.alloc (S #[V ⟨l.toArray⟩] 9)) w'->
   Keeps F W (w'.setCell ⟨h,0,N⟩ (X (O ⟨A,a,N⟩) (k.length+1) b))/\aG (Since F W (w'.setCell ⟨h,0,N⟩ (X (O ⟨A,a,N⟩) (k.length+1) b))) (w'.setCell ⟨h,0,N⟩ (X (O ⟨A,a,N⟩) (k.length+1) b)) p {x with pile:=P++ [af (k++ [l])]} s toks:=by
   intro A a b w' hwin hgb t;have hb':=t.C4 HPX.o hkVf;have hks:Keeps (λq=>q=h) w' (w'.setCell ⟨h,0,N⟩ (X (O ⟨A,a,N⟩) (k.length+1) b)):=(ag (λq=>q=h) w').A2 (p:=⟨h,0,N⟩) (Y rfl) _
   have hall:Keeps (λq=>q=mp\/kV.ownBlock=O q\/q=h) W (w'.setCell ⟨h,0,N⟩ (X (O ⟨A,a,N⟩) (k.length+1) b)):=
    (((hk3.A6 (λq e=>Y e)).B9 hkx (λ_ G=>G.elim)).B9 t (λq e=>Y (K (Y e)))).B9 hks (λq e=>Y (K (K e)))
   have hGQ:∀q,(q=mp\/kV.ownBlock=O q\/q=h)->a0 q:=λq e=>by
    rcases e with e|e|e
    .exact e▸hQm
    .exact T.2 q e
    .exact e▸hQb
   have hGF:∀q,(q=mp\/kV.ownBlock=O q\/q=h)->FP q:=λq e=>(hQ q (hGQ q e)).1
   have hkF:Keeps F W (w'.setCell ⟨h,0,N⟩ (X (O ⟨A,a,N⟩) (k.length+1) b)):=hall.A6 (λq e=>hp.pile q (hGF q e))
   have hwe:Win 9 encS (w'.setCell ⟨h,0,N⟩ (X (O ⟨A,a,N⟩) (k.length+1) b)) (X (O ⟨A,a,N⟩) (k.length+1) b) (k++ [l]):=by
    have h1:Win 9 encS w' (X (O ⟨A,a,N⟩) (k.length+1) b) (k++ [l]):=aR.I4 (n:=k.length+1) (by rw[List.map_append];exact hwin);exact h1.A0 hks (λq e hq=>h1.ne hb' (by decide) (e.trans (congrArg O hq)))
   have hmE:eU (w'.setCell ⟨h,0,N⟩ (X (O ⟨A,a,N⟩) (k.length+1) b)) mp (k++ [l]).reverse:=by
    rw[List.reverse_append];exact((hmap.A0 hkx id).A0 t hkVm).A0 hks (λe=>hfbm e.symm)
   have hsz3:W.heap.size<=(z.drew.alloc (S #[V ⟨l.toArray⟩] 9)).heap.size:=ac hk3.size hkx.size;refine⟨hkF,aF hltW hkF.size,FL,FM,Since FP W (w'.setCell ⟨h,0,N⟩ (X (O ⟨A,a,N⟩) (k.length+1) b)),lb,mb,_,vals,hp.K5 (hltW p hp.self.1) hL.lt hM.2.1,hall.C4 hb (λe=>hp.self.2.2.2 (hGF p e)),hL.B6 hall (λq hq e=>hp.lp q hq (hGF q e)),hM.B6 hall (λq hq e=>hp.mp q hq (hGF q e)),?_⟩;refine hst _ _ (af (k++ [l])) hall (λq hg _=>hGQ q hg) ⟨h,mp,_,rfl,aB hb' _,Y hQb,⟨hwe,?_⟩,λe=>by simp at e,hmE,Y hQm⟩;intro q e;cases e;rcases hgb with G|G
   .exact Y (T.2 _ G)
   .exact K ⟨ac hsz3 G.1,ba G.2 hks.size⟩
  have hfin2:∀(A a b:Nat)(w':Z),Keeps (λq=>kV.ownBlock=O q) (z.drew.alloc (S #[V ⟨l.toArray⟩] 9)) w'->(w'.setCell ⟨h,0,N⟩ (X (O ⟨A,a,N⟩) (k.length+1) b)).heap[w.heap.size]?=O (S #[I J i,I J B,V ⟨l.toArray⟩] 241 (0,0)):=by
   intro A a b w' t;refine(aE _ ?_).trans (t.C4 (hkx.C4 m id) ?_)
   .intro e;rw[e,hfb3]at m;cases m
   .intro e;obtain⟨c,hc⟩:=hkv3.E4 e;rw[m]at hc;cases hc
  have HFIN:=L hfin;have HFIN2:=L hfin2;have HWX:=L hwx;have HNC:=L hnewc;have HON:=L hon;have HBM:=L hbm;have HMX:=L hmm2;have HNE:=L hkVf;have HWG:=L (λ(w4:Z)(h4:aG (Since F W w4) w4 p {x with pile:=P++ [af (k++ [l])]} s toks)=>aAe (Since F W w4) w4 p _ s toks l i h4 (by exact hby) (by omega));obtain⟨o,ho⟩:∃o,bj {x with pile:=P++ [af (k++ [l])]} l i=o:=⟨_,rfl⟩;rw[ho]at HWG⊢;clear ho;subst hkve;unfold encS at f d hup;obtain⟨sv,hsv⟩:∃sv:ByteArray,(⟨l.toArray⟩:ByteArray)=sv:=⟨_,rfl⟩;rw[hsv]at hW f d hup b2 b22 d0a e1 e1a HPX HFIN HFIN2 HWX HNC HON HWG⊢;have HKX:=L hkx;clear hlt r hb hL hM hP hp hQ R hQb T hkz hes hQm hd C v G hll hBF hst D hkW0 hltW hfin hfin2 hwx hnewc hon hbm hmm2 hkVf hkVm hkv3 m hfb3 hBm hfbm hk3 hmap hturn hkx;rcases hw with hw|hw
  all_goals
   rw[hw]at c5;clear hw;go_enter func113,ntmps113;go_wp2_with fail;go_region;go_wp2_with fail;go_region
   all_goals
    go_wp2_with fail;go_region;go_wp2_with fail
    go_region_law (refine bO rA rfl _ _ rfl rfl HWX.o ⟨z.heap.size,0,N⟩ 1 1 [V sv] rfl rfl HNC.o HON.o (by decide) HBM.o HMX.o ?_;intro A a b w' hwin hgb t;have t:Keeps (λq=>(X ka k.length kc).ownBlock=O q) (z.drew.alloc (S #[V sv] 9)) w':=t;have hb':=t.C4 HPX.o HNE.o;have r:w'.cell? ⟨h,0,N⟩=O (X ka k.length kc):=aA hb';have v:=free_at hb')
    all_goals
     have f1:=HFIN.o A a b w' hwin hgb t;have m:=HFIN2.o A a b w' t;clear hwin hgb t hb' r v d0 d0a e1 e1a b0 b2 b02 b22 f12 f d hup c4 c5 hcu f0;obtain⟨w4,v⟩:∃w4,w'.setCell ⟨h,0,N⟩ (X (O ⟨A,a,N⟩) (k.length+1) b)=w4:=⟨_,rfl⟩;rw[v]at f1 m;have T:w4.cell? ⟨w.heap.size,0,N⟩=O (I J i):=aA m;have x2:w4.cell? ⟨w.heap.size,2,N⟩=O (V sv):=aA m;have C:=L (HWG.o w4 f1.2);have t:=L f1.1;clear f1 m;go_wp2_with fail;refine(C.o).mono ?_;rintro e R ⟨-,r,d⟩;have m:Keeps F w R:=(HKW.o.B8 t.o).B9 r (λq G=>G.elim Y (λG=>K (ac HKW.o.size G.1)));have f:=L m;have D:=L r.size;clear r m;cases o with
     | error r=>
      obtain⟨no,a2⟩:=r;obtain⟨he,m⟩:=d;have HD:=L m;clear m;unfold bR at he;subst he;go_wp2_with fail;exact⟨rfl,K ⟨_,_,rfl⟩,f.o,rfl,HD.o⟩
     | ok y=>
      obtain⟨he,m⟩:=d;subst he;obtain⟨-,-,yf,y5,-⟩:=m.F6;have r:=L (oE m 4);clear m T x2;go_wp2_with fail
      go_end0
      have hkz:Keeps F w (R.setCell ⟨p,5,N⟩ (I J 4)):=f.o.A2 (p:=⟨p,5,N⟩) (Y HSF.o) _;refine⟨Y rfl,hkz,rfl,r.o.2.A6 ?_ (aF HLT.o hkz.size)⟩;intro q G;rcases G with G|G
      .rcases G with G|G
       .rcases G with G|G
        .exact Y G
        .exact K ⟨ac HKW.o.size G.1,by have:=D.o;have:=G.2;simp[bm];omega⟩
       .exact K ⟨ac HKW.o.size (ac t.o.size G.1),by have:=G.2;simp[bm];omega⟩
      .exact K ⟨ac f.o.size G.1,G.2⟩
theorem eX.L4{D want:Nat}{pile:List Fr}{items:List Tr}(h:eX D want pile items)(c:want=5\/want=1\/want=2):∃a d,pile=a++ [d]:=by
 cases h with
 | new=>omega
 | done t b=>omega
 | list s _ h b c=>exact⟨_,_,rfl⟩
 | object k s _ h b e=>exact⟨_,_,rfl⟩
theorem cG.P2{x:Ps}{q:Nat}(h:cG x q):pY x 1073741824:=⟨λm a=>ac (h.S7 m a) (by decide),by have:=h.room;have:=h.depth;omega⟩
theorem xD(y:Ps)(k:UInt8)(b:(93:UInt8)≠k)(a:(125:UInt8)≠k):y.D9 k=H:=by
 unfold bp;cases d:y.pile.getLast? with
 | none=>rfl
 | some f=>
  cases f with
  | list n=>simp[uV,b]
  | object c=>simp[uV,a]
theorem aJh(F:Nat->Prop)(w:Z)(p:Nat)(y:Ps)(s:LS)(b:List Tok)(a i:Nat)(l:List UInt8){q:Nat}(r:aT l=ao)(o:l.length<=16777216)(h:aG F w p y s b)(c:cG y q):
 ae Q 113 #[E (O ⟨p,0,N⟩),aj #[I J a,I J i,V ⟨l.toArray⟩]] w λe w'=>cH e/\dH F w p s b (y.F7 a l) e w':=by
 have u:=c.bytes;have hi:=c.M1;have t:=c.depth;have f:=c.room
 by_cases m:y.want=2\/y.want=3
 .obtain⟨d,k,g,_⟩:=c.stand.L9 m l;have n:=c.R9 (k:=k) (by rw[g];simp);have v:=aAd n.2.1;have j:d.length<=1048576:=by rw[g]at f;simp at f;omega
  exact aJg F w p y s b a i l d k o h g j (by omega) (by omega) m
 .exact aED F w p y s b a i l r (by omega) h c.P2 (by omega) (by omega) (by omega)
theorem aEJ(F:Nat->Prop)(w:Z)(p:Nat)(x y:Ps)(s:LS)(toks:List Tok)(a:Nat)(h:aG F w p x s toks)(z:x.D9 93=ao)(v:x.pile.length<=1048576)(c:∀w1,aG F w1 p x s toks->ae Q 148 #[E (O ⟨p,0,N⟩)] w1 λe w2=>e=bc (bg #[])/\Keeps F w1 w2/\aG (Since F w1 w2) w2 p y s toks):
 ae Q 112 #[E (O ⟨p,0,N⟩),aj #[I J a,I J 1,I U 93]] w λe w'=>cH e/\dH F w p s toks (.ok y) e w':=by
 have i:=h.lt;have r:=boxed h (S #[I J a,I J 1,I U 93] 238);have d:=ak w (S #[I J a,I J 1,I U 93] 238);have b2:(w.alloc (S #[I J a,I J 1,I U 93] 238)).cell? ⟨w.heap.size,2,N⟩=O (I U 93):=aA d;have j:=L i;have b:=mA F _ p x s toks 93 r v;rw[z]at b;rw[show((((93:UInt8)).toNat:Nat):Int)=93 from rfl]at b;have t:=L b;have n:=L c;have A:=L r;clear h r i d b c z v;go_enter au,av;go_wp2_with fail;refine(t.o).mono ?_;rintro e w1 ⟨rfl,g⟩;have B:=L (n.o w1 (A.o.A5 g));have f:=L g;clear g b2;go_wp2_with fail;refine(B.o).mono ?_;rintro e w2 ⟨rfl,k,l⟩;have m:=L k;have u:=L l;clear k l;go_wp2_with fail
 go_end0
 refine⟨Y rfl,rY (o:=S #[I J a,I J 1,I U 93] 238) j.o ⟨(ah F f.o).B8 m.o,rfl,u.o.A6 (λq h=>h.elim Y (λh=>K ⟨ac f.o.size h.1,h.2⟩)) (aF (λq h=>ba (j.o q h) (by simp)) (ac f.o.size m.o.size))⟩⟩
theorem aCR(F:Nat->Prop)(w:Z)(p:Nat)(x y:Ps)(s:LS)(toks:List Tok)(a:Nat)(h:aG F w p x s toks)(z:x.D9 125=ao)(v:x.pile.length<=1048576)(c:∀w1,aG F w1 p x s toks->ae Q 148 #[E (O ⟨p,0,N⟩)] w1 λe w2=>e=bc (bg #[])/\Keeps F w1 w2/\aG (Since F w1 w2) w2 p y s toks):
 ae Q 112 #[E (O ⟨p,0,N⟩),aj #[I J a,I J 1,I U 125]] w λe w'=>cH e/\dH F w p s toks (.ok y) e w':=by
 have i:=h.lt;have r:=boxed h (S #[I J a,I J 1,I U 125] 238);have d:=ak w (S #[I J a,I J 1,I U 125] 238);have b2:(w.alloc (S #[I J a,I J 1,I U 125] 238)).cell? ⟨w.heap.size,2,N⟩=O (I U 125):=aA d;have j:=L i;have b:=mA F _ p x s toks 125 r v;rw[z]at b;rw[show((((125:UInt8)).toNat:Nat):Int)=125 from rfl]at b;have t:=L b;have n:=L c;have A:=L r;clear h r i d b c z v;go_enter au,av;go_wp2_with fail;refine(t.o).mono ?_;rintro e w1 ⟨rfl,g⟩;have B:=L (n.o w1 (A.o.A5 g));have f:=L g;clear g b2;go_wp2_with fail;refine(B.o).mono ?_;rintro e w2 ⟨rfl,k,l⟩;have m:=L k;have u:=L l;clear k l;go_wp2_with fail
 go_end0
 refine⟨Y rfl,rY (o:=S #[I J a,I J 1,I U 125] 238) j.o ⟨(ah F f.o).B8 m.o,rfl,u.o.A6 (λq h=>h.elim Y (λh=>K ⟨ac f.o.size h.1,h.2⟩)) (aF (λq h=>ba (j.o q h) (by simp)) (ac f.o.size m.o.size))⟩⟩
theorem aEK(F:Nat->Prop)(w:Z)(p:Nat)(x y:Ps)(s:LS)(toks:List Tok)(a:Nat)(h:aG F w p x s toks)(i:x.D9 58=H)(v:x.want≠4)(q:x.pile.length<=1048576):
 ae Q 112 #[E (O ⟨p,0,N⟩),aj #[I J a,I J 1,I U 58]] w λe w'=>cH e/\dH F w p s toks (ai (120,a)) e w':=by
 have k:=h.lt;have j:=boxed h (S #[I J a,I J 1,I U 58] 238);have b:=ak w (S #[I J a,I J 1,I U 58] 238);have b2:(w.alloc (S #[I J a,I J 1,I U 58] 238)).cell? ⟨w.heap.size,2,N⟩=O (I U 58):=aA b;have f:=L b;have c:=mA F _ p x s toks 58 j q;rw[i]at c;rw[show((((58:UInt8)).toNat:Nat):Int)=58 from rfl]at c;have u:((x.want:Int)==4)=H:=by simp;omega
 have D:(w.alloc (S #[I J a,I J 1,I U 58] 238)).cell? ⟨p,5,N⟩=O (I J x.want):=by
  obtain⟨_,A,P,C,G,B,l,o,-,t,-,-,-⟩:=j;rw[aA t];rfl
 have n:=L c;have z:=L j.H8;have m:=L (λw=>gW w 120 a);clear h j k b c i q v;go_enter au,av;go_wp2_with fail;refine(n.o).mono ?_;rintro e w1 ⟨rfl,d⟩;have r:w1.cell? ⟨w.heap.size,0,N⟩=O (I J a):=aA (keep f.o d);have g:=L d;clear d b2;go_wp2_with fail;refine(m.o _).mono ?_;rintro e w2 ⟨i,rfl⟩;unfold bR at i;subst i;go_wp2_with fail;exact⟨rfl,K ⟨_,_,rfl⟩,((ag F w).A4 _).B8 (ah F g.o),rfl,z.o.A0 (ah (λ_=>False) g.o) id⟩
theorem aEL(F:Nat->Prop)(w:Z)(p:Nat)(x y:Ps)(s:LS)(toks:List Tok)(a:Nat)(h:aG F w p x s toks)(i:x.D9 44=H)(v:x.want≠5)(q:x.pile.length<=1048576):
 ae Q 112 #[E (O ⟨p,0,N⟩),aj #[I J a,I J 1,I U 44]] w λe w'=>cH e/\dH F w p s toks (ai (120,a)) e w':=by
 have k:=h.lt;have j:=boxed h (S #[I J a,I J 1,I U 44] 238);have b:=ak w (S #[I J a,I J 1,I U 44] 238);have b2:(w.alloc (S #[I J a,I J 1,I U 44] 238)).cell? ⟨w.heap.size,2,N⟩=O (I U 44):=aA b;have f:=L b;have c:=mA F _ p x s toks 44 j q;rw[i]at c;rw[show((((44:UInt8)).toNat:Nat):Int)=44 from rfl]at c;have u:((x.want:Int)==5)=H:=by simp;omega
 have D:(w.alloc (S #[I J a,I J 1,I U 44] 238)).cell? ⟨p,5,N⟩=O (I J x.want):=by
  obtain⟨_,A,P,C,G,B,l,o,-,t,-,-,-⟩:=j;rw[aA t];rfl
 have n:=L c;have z:=L j.H8;have m:=L (λw=>gW w 120 a);clear h j k b c i q v;go_enter au,av;go_wp2_with fail;refine(n.o).mono ?_;rintro e w1 ⟨rfl,d⟩;have r:w1.cell? ⟨w.heap.size,0,N⟩=O (I J a):=aA (keep f.o d);have g:=L d;clear d b2;go_wp2_with fail;refine(m.o _).mono ?_;rintro e w2 ⟨i,rfl⟩;unfold bR at i;subst i;go_wp2_with fail;exact⟨rfl,K ⟨_,_,rfl⟩,((ag F w).A4 _).B8 (ah F g.o),rfl,z.o.A0 (ah (λ_=>False) g.o) id⟩
theorem aEM(F:Nat->Prop)(w:Z)(p:Nat)(x y:Ps)(s:LS)(toks:List Tok)(a:Nat)(h:aG F w p x s toks)(i:x.D9 93=H)(n:x.pile.length<=1048576):
 ae Q 112 #[E (O ⟨p,0,N⟩),aj #[I J a,I J 1,I U 93]] w λe w'=>cH e/\dH F w p s toks (ai (120,a)) e w':=by
 have j:=h.lt;have l:=boxed h (S #[I J a,I J 1,I U 93] 238);have b:=ak w (S #[I J a,I J 1,I U 93] 238);have b2:(w.alloc (S #[I J a,I J 1,I U 93] 238)).cell? ⟨w.heap.size,2,N⟩=O (I U 93):=aA b;have f:=L b;have c:=mA F _ p x s toks 93 l n;rw[i]at c;rw[show((((93:UInt8)).toNat:Nat):Int)=93 from rfl]at c;have m:=L c;have q:=L l.H8;have k:=L (λw=>gW w 120 a);clear h l j b c i n;go_enter au,av;go_wp2_with fail;refine(m.o).mono ?_;rintro e w1 ⟨rfl,d⟩;have o:w1.cell? ⟨w.heap.size,0,N⟩=O (I J a):=aA (keep f.o d);have g:=L d;clear d b2;go_wp2_with fail;refine(k.o _).mono ?_;rintro e w2 ⟨i,rfl⟩;unfold bR at i;subst i;go_wp2_with fail;exact⟨rfl,K ⟨_,_,rfl⟩,((ag F w).A4 _).B8 (ah F g.o),rfl,q.o.A0 (ah (λ_=>False) g.o) id⟩
theorem aCS(F:Nat->Prop)(w:Z)(p:Nat)(x y:Ps)(s:LS)(toks:List Tok)(a:Nat)(h:aG F w p x s toks)(i:x.D9 125=H)(n:x.pile.length<=1048576):
 ae Q 112 #[E (O ⟨p,0,N⟩),aj #[I J a,I J 1,I U 125]] w λe w'=>cH e/\dH F w p s toks (ai (120,a)) e w':=by
 have j:=h.lt;have l:=boxed h (S #[I J a,I J 1,I U 125] 238);have b:=ak w (S #[I J a,I J 1,I U 125] 238);have b2:(w.alloc (S #[I J a,I J 1,I U 125] 238)).cell? ⟨w.heap.size,2,N⟩=O (I U 125):=aA b;have f:=L b;have c:=mA F _ p x s toks 125 l n;rw[i]at c;rw[show((((125:UInt8)).toNat:Nat):Int)=125 from rfl]at c;have m:=L c;have q:=L l.H8;have k:=L (λw=>gW w 120 a);clear h l j b c i n;go_enter au,av;go_wp2_with fail;refine(m.o).mono ?_;rintro e w1 ⟨rfl,d⟩;have o:w1.cell? ⟨w.heap.size,0,N⟩=O (I J a):=aA (keep f.o d);have g:=L d;clear d b2;go_wp2_with fail;refine(k.o _).mono ?_;rintro e w2 ⟨i,rfl⟩;unfold bR at i;subst i;go_wp2_with fail;exact⟨rfl,K ⟨_,_,rfl⟩,((ag F w).A4 _).B8 (ah F g.o),rfl,q.o.A0 (ah (λ_=>False) g.o) id⟩
theorem aJi(F:Nat->Prop)(w:Z)(p:Nat)(y:Ps)(s:LS)(b:List Tok)(a:Nat)(q:UInt8)(h:aG F w p y s b)(l:cG y 0)(G:bJ q=ao):
 ae Q 112 #[E (O ⟨p,0,N⟩),aj #[I J a,I J 1,I U ((q.toNat:Nat):Int)]] w λe w'=>cH e/\dH F w p s b (y.D3 po a q) e w':=by
 have R:=l.depth;have P:=l.room;have d:y.pile.length<=1048576:=by omega
 have x:=l.P2
 have u:q=123\/q=125\/q=91\/q=93\/q=58\/q=44:=by
  unfold bJ at G
  simpa[or_assoc]using G
 have o:∀k:UInt8,y.D9 k=ao->∀w1,aG F w1 p y s b->ae Q 148 #[E (O ⟨p,0,N⟩)] w1 λe w2=>e=bc (bg #[])/\Keeps F w1 w2/\aG (Since F w1 w2) w2 p (y.C5 po) s b:=by
  intro k g w1 D
  have j:y.want=5\/y.want=1\/y.want=2:=by
   unfold bp at g;simp at g;omega
  obtain⟨f,A,i⟩:=l.stand.L4 j;have n:f.length<=1048576:=by rw[i]at d;simp at d;omega
  cases A with
  | list m=>
   have B:y.C5 po=Ps.C7 {y with pile:=f,items:=eD y.items m}:=by
    have r:y.pile.getLast?=O (.list m):=by rw[i];simp
    have t:y.pile.dropLast=f:=by rw[i];simp
    unfold bs;rw[r,t]
   rw[B];exact aJe F w1 p y s b f m D i l.Q1 l.M1 x.many n
  | object v=>
   have B:y.C5 po=Ps.C7 {y with pile:=f,items:=po y.items v}:=by
    have r:y.pile.getLast?=O (af v):=by rw[i];simp
    have t:y.pile.dropLast=f:=by rw[i];simp
    unfold bs;rw[r,t]
   rw[B];have z:=l.R9 (k:=v) (by rw[i];simp);exact aEH F w1 p y s b f v D i l.Q1 l.M1 x.many n z.1 z.2.1 (ac z.2.2 l.bytes)
 rcases u with rfl|rfl|rfl|rfl|rfl|rfl
 .have g:y.D3 po a 123=(y.D0 a).map λp=>{p with pile:=p.pile++ [af []],want:=2}:=by unfold ar;rw[if_neg (by decide),if_pos rfl]
  rw[g];exact aEF F w p y s b a h l.nodes d
 .have g:y.D3 po a 125=if y.D9 125 then .ok (y.C5 po)else ai (120,a):=by unfold ar;rw[if_neg (by decide),if_neg (by decide),if_neg (λh=>absurd h.1 (by decide)),if_neg (λh=>absurd h.1 (by decide))]
  rw[g];cases c:y.D9 125 with
  | true=>exact aCR F w p y _ s b a h c d (o 125 c)
  | false=>exact aCS F w p y y s b a h c d
 .have g:y.D3 po a 91=(y.D0 a).map λp=>{p with pile:=p.pile++ [.list 0],want:=1}:=by unfold ar;rw[if_pos rfl]
  rw[g];exact aG4 F w p y s b a h l.nodes d
 .have g:y.D3 po a 93=if y.D9 93 then .ok (y.C5 po)else ai (120,a):=by unfold ar;rw[if_neg (by decide),if_neg (by decide),if_neg (λh=>absurd h.1 (by decide)),if_neg (λh=>absurd h.1 (by decide))]
  rw[g];cases c:y.D9 93 with
  | true=>exact aEJ F w p y _ s b a h c d (o 93 c)
  | false=>exact aEM F w p y y s b a h c d
 .have c:y.D9 58=H:=xD y 58 (by decide) (by decide)
  by_cases j:y.want=4
  .have g:y.D3 po a 58=.ok {y with want:=0}:=by unfold ar;rw[if_neg (by decide),if_neg (by decide),if_pos ⟨rfl,j⟩]
   rw[g];exact aEG F w p y s b a h j
  .have g:y.D3 po a 58=ai (120,a):=by unfold ar;rw[if_neg (by decide),if_neg (by decide),if_neg (λh=>j h.2),if_neg (λh=>absurd h.1 (by decide)),if_neg (by rw[c];decide)]
   rw[g];exact aEK F w p y y s b a h c j d
 .have c:y.D9 44=H:=xD y 44 (by decide) (by decide)
  by_cases j:y.want=5
  .have g:y.D3 po a 44=.ok {y with want:=if iU y.pile then 3 else 0}:=by unfold ar;rw[if_neg (by decide),if_neg (by decide),if_neg (λh=>absurd h.1 (by decide)),if_pos ⟨rfl,j⟩]
   rw[g];obtain⟨f,A,i⟩:=l.stand.L4 (Y j);have n:f.length<=1048576:=by rw[i]at d;simp at d;omega
   cases A with
   | list m=>
    have C:iU y.pile=H:=by rw[i];unfold iU;simp
    rw[C];exact uF F w p y s b a h j f m i n
   | object v=>
    have C:iU y.pile=ao:=by rw[i];unfold iU;simp
    rw[C];exact rZ F w p y s b a h j f v i n
  .have g:y.D3 po a 44=ai (120,a):=by unfold ar;rw[if_neg (by decide),if_neg (by decide),if_neg (λh=>absurd h.1 (by decide)),if_neg (λh=>j h.2),if_neg (by rw[c];decide)]
   rw[g];exact aEL F w p y y s b a h c j d
end Go.Proofs.YtakkmiomhackiaaGreatDoor
