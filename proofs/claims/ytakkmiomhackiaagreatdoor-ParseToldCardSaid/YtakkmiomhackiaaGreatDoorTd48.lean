/-
  The program, one part of its walk. Conditions: none.
-/
import Derived.Test.YtakkmiomhackiaaGreatDoorTd20
import Derived.Test.YtakkmiomhackiaaGreatDoorTd47
set_option linter.all false
set_option maxRecDepth 100000
set_option maxHeartbeats 16000000
open Go.Proofs.Tryz
open Bool renaming false->Y,true->V
open Go renaming Calls->ai,Value->ak,World->U,lt_of_block->aw,maxLen->av
open Go.Instr renaming makeMap->bk
open Go.IntKind renaming i64->ah,wrap_i64->ba
open Go.Obj renaming cells->E,map->Q
open Go.Proofs.Tryz renaming func105->Z,ntmps105->H,prog->ag
open Go.Proofs.YtakkmiomhackiaaGreatDoor.Keeps renaming A3->S
open Go.Proofs.YtakkmiomhackiaaGreatDoor.Ra renaming bad->ar
open Go.Proofs.YtakkmiomhackiaaGreatDoor.Rr renaming D3->au,E5->bh,H5->bj
open Go.Value renaming bool->G,int->ac,map->D,ownBlock->bc,pointer->aj,slice->O
open List renaming getElem?_append_right->az
open Nat renaming le_of_lt->X,le_trans->ao,lt_of_lt_of_le->bg
open Option renaming none->J,some->I
open Or renaming inl->ae,inr->af
namespace Go.Proofs.YtakkmiomhackiaaGreatDoor
open Go.RowKit
theorem aIv{r:Rr}{a:List RFr}{f:RFr}(h:r.pile=a++ [f]):r.L7=Rr.C7 {r with pile:=a} (madeOf f):=by
 unfold Rr.L7;simp[h]
theorem aFv(w:U)(z:Nat)(s:ByteArray)(d i top:Nat)(r:Rr)(A:List RFr)(f:RFr)(a0:aU w z s d i r top)(hB:Bnd r d)(hp:r.pile=A++ [f])(hw6:r.want≠6)(F:f.object=V->f.items.length=f.keys.length/\bH f.keys/\f.keys.Nodup):
 ai ag 143 #[aj (I ⟨z,0,J⟩)] w λe w'=>vM w z s d i r.L7 e w':=by
 rw[aIv hp];have hB2:Bnd {r with pile:=A} d:=⟨hB.depth,by have:=hB.pile;rw[hp]at this;simp at this;show A.length<=512;omega,hB.nodes,hB.bytes,λg hg=>hB.items g (by rw[hp];exact List.mem_append_left _ hg)⟩;have hfi:=hB.items f (by rw[hp];simp);have hpl:=hB.pile;obtain⟨P,pcs,so,fl,bi,tx,a1,n1,m1,a2,n2,m2,hb,hin⟩:=a0;obtain⟨pc,B,o,K,mm,a3,css,rfl,R,y⟩:=hin.pile.L4 hp;obtain⟨N,hN⟩:∃N,r.pile.length=N:=⟨_,rfl⟩;have hN2:N=A.length+1:=by rw[<-hN,hp];simp
 obtain⟨C,hx⟩:∃x,A.length=x:=⟨_,rfl⟩;rw[hN]at hpl;rw[hx]at hN2;have c:=hin.win;rw[hN,hN2]at c;obtain⟨pg,l,t,rfl⟩:=c.P9;obtain⟨ka,kc,rfl⟩:=y.keys.A8;obtain⟨va,vc,rfl⟩:=y.items.A8;rw[<-hN2]at c hb;obtain⟨pl1,pl2⟩:=R.O8;have hfl:pc.flatten.length=C*4:=by rw[nN pl2,pl1,hx]
 have h:∀(j:Nat)(u:ak),(frC o (O ka f.keys.length kc) mm (O va f.items.length vc))[j]?=I u->w.cell? ⟨pg,l+C*4+j,J⟩=I u:=by
  intro j u v;have:=c.B5 (j:=C*4+j) (u:=u) (by rw[dS,az (by omega),hfl,show C*4+j-C*4=j by omega];exact v);rw[Nat.add_assoc];exact this
 have y0:w.cell? ⟨pg,l+C*4,J⟩=I (G o):=h 0 _ rfl;have y1:=h 1 _ rfl;have y2:=h 2 _ rfl;have y3:=h 3 _ rfl
 have hpc:N<=t:=by
  rcases c.2 with⟨v,_⟩|⟨g',T,cap',cur,v,_,hc,_⟩
  .cases v
  .cases v;exact hc
 obtain⟨⟨q0,q1,q2,q3,q4,q5,q6,q7⟩,_,qf⟩:=cZ hb;have hrl:=aw hb;have e1:ah.wrap ((N:Int)-1)=(C:Int):=by rw[ba];omega
 have e2:(C:Int)<(N:Int):=by omega
 have e3:(C:Int)<=(t:Int):=by omega
 have e0:(0:Int)<=(C:Int):=by omega
 have hne:z≠pg:=by
  intro e;have:=c.ne hb (by decide);simp[bc]at this;exact this e.symm
 have hW:∀W,W=(w.setCell ⟨z,4,J⟩ (O (I ⟨pg,l,J⟩) C t)).alloc (E #[G o,O ka f.keys.length kc,D (I mm),O va f.items.length vc] 265)->
  Below z w W/\aU W z s d i {r with pile:=A} B/\Win 9 encS W (O ka f.keys.length kc) f.keys/\aR 6 34 W (O va f.items.length vc) f.items.length css.flatten/\lU (λk=>B<=k) W css f.items/\(∀k,(O va f.items.length vc).ownBlock=I k->B<=k)/\B<=W.heap.size/\z<W.heap.size:=by
  rintro W rfl;have v:Keeps (λk=>k=z) w ((w.setCell ⟨z,4,J⟩ (O (I ⟨pg,l,J⟩) C t)).alloc (E #[G o,O ka f.keys.length kc,D (I mm),O va f.items.length vc] 265)):=((S (λk=>k=z) w).E9 4 _).A4 _;have hb2:=((S (λ_=>False) (w.setCell ⟨z,4,J⟩ (O (I ⟨pg,l,J⟩) C t))).A4 (E #[G o,O ka f.keys.length kc,D (I mm),O va f.items.length vc] 265)).C4 (aB (o:=4) hb (O (I ⟨pg,l,J⟩) C t)) id;have hkP:∀k,(O (I ⟨pg,l,J⟩) N t).ownBlock=I k->¬k=z:=λk e e2=>by cases e;exact hne e2.symm
  have T:B<=w.heap.size:=ao (ao y.mF.1 (X y.mF.2)) hin.le;refine⟨v.B3 (X hrl) λk e=>by omega,⟨_,pc,so,fl,bi,tx,a1,n1,m1,a2,n2,m2,hb2,?_⟩,y.keys.A0 v λk e e2=>y.keys.ne hb (by decide) (e2▸e),y.items.A0 v λk e e2=>y.items.ne hb (by decide) (e2▸e),(y.vals.A0 v λk _ _ e=>by subst e;exact .of hb (by decide) (by decide)).A6 λk e _=>e.1,λk e=>(y.iF k e).1,ao T v.size,bg hrl v.size⟩;have ht:=(c.A0 v hkP).B0 (k:=C) (by omega);rw[dS,List.take_left' hfl]at ht;refine⟨ao T v.size,?_,hin.pF,R.A0 v λk _ _ e=>by subst e;exact .of hb (by decide) (by decide),λe=>absurd e hw6⟩
  show aR 4 265 _ _ A.length _
  rw[hx];exact ht
 have HOB:=L (And.intro y.obj F);have HB2:=L (And.intro hB2 hfi)
 cases o with
 | false=>
  have hmd:madeOf f=.list f.items:=by unfold madeOf;rw[<-y.obj];rfl
  rw[hmd];have T:=L (hW _ rfl);clear hN hN2 hx hW hB2 hfl h R hin c hb hpl pl1 pl2 hne y hmd F;have HP:=L (nT _ z s d i B _ T.o.2.1 HB2.o.1 5 Y 0 ⟨#[]⟩ va f.items.length vc J 0 0 (.list f.items) (.list _ css f.items T.o.2.2.2.1 T.o.2.2.2.2.2.1 T.o.2.2.2.2.1.1 T.o.2.2.2.2.1.2));go_enter func143,ntmps143;go_wp2_with fail;refine HP.o.mono ?_;rintro e w6 ⟨rfl,hb6,v⟩;have HF:=L (And.intro hb6 v);clear hb6 v;go_wp2_with fail
  go_end0
  exact⟨rfl,T.o.1.trans HF.o.1,HF.o.2⟩
 | true=>
  obtain⟨h1,h2,h3⟩:=F y.obj.symm;have hmd:madeOf f=.object (cV f.keys) (besides f.keys f.items):=by unfold madeOf;rw[<-y.obj];rfl
  rw[hmd];have T:=L (hW _ rfl);have hkn:f.keys.length<=65536:=by omega
  have HM:=L (aGA _ _ _ _ f.keys f.items css T.o.2.2.1 T.o.2.2.2.1 T.o.2.2.2.2.1 h1 hkn h2 h3);clear hN hN2 hx hW hB2 hfl h R hin c hb hpl pl1 pl2 hne y hmd F h1 h2 h3;go_enter func143,ntmps143;go_wp2_with fail;refine HM.o.mono ?_;rintro e F ⟨a,n,m,b,p,q,rfl,h,c⟩;have HP:=L (nT F z s d i B _ (T.o.2.1.C9 (Keeps.A1 _ c)) HB2.o.1 6 Y 0 ⟨#[]⟩ a n m b p q _ (h.A6 λk e _=>e.elim id λe=>ao T.o.2.2.2.2.2.2.1 e));have y:=L (T.o.1.trans (c.mono (X T.o.2.2.2.2.2.2.2)));clear h c;go_wp2_with fail;refine HP.o.mono ?_;rintro e w6 ⟨rfl,hb6,v⟩;have HF:=L (And.intro hb6 v);clear hb6 v;go_wp2_with fail
  go_end0
  exact⟨rfl,y.o.trans HF.o.1,HF.o.2⟩
def pP(w:U)(a:Nat)(s:ByteArray)(d i:Nat)(R:Ra)(e:Ending)(w':U):Prop:=e=.returned (.tuple #[])/\Below a w w'/\match R with
 | .on _ r=>∃b,aU w' a s d i r b
 | .bad no _=>o5 w' a no i
 | .cut=>False
def aKP(w:U)(i:Nat)(r:Rr):Prop:=(r.pile= []/\r.E5=Y/\r.H5=Y/\∃a c,w.cell? ⟨i,4,J⟩=I (O a 0 c))\/
 ∃g f h b e d N,r.pile=g++ [f]/\r.E5=f.object/\r.H5=!f.object/\w.cell? ⟨i,4,J⟩=I (O (I ⟨h,b,J⟩) N d)/\w.cell? ⟨h,b+e*4,J⟩=I (G f.object)/\(0:Int)<(N:Int)/\ah.wrap ((N:Int)-1)=(e:Int)/\(0:Int)<=(e:Int)/\(e:Int)<(N:Int)
theorem aU.N1{w:U}{k d i q:Nat}{s:ByteArray}{r:Rr}(T:aU w k s d i r q)(W:r.pile.length<=512):aKP w k r/\w.cell? ⟨k,3,J⟩=I (ac ah r.want)/\w.cell? ⟨k,2,J⟩=I (ac ah i)/\(∀o,w.frozen? ⟨k,o,J⟩=Y)/\k<w.heap.size:=by
 obtain⟨P,z,so,fl,bi,tx,a1,n1,m1,a2,n2,m2,l,h⟩:=T;refine⟨?_,aA l,aA l,free_at l,aw l⟩;rcases List.eq_nil_or_concat r.pile with e|⟨b,f,e⟩
 .obtain⟨a,c,rfl⟩:=h.win.A8;refine ae ⟨e,by unfold bh;rw[e];rfl,by unfold bj;rw[e];rfl,a,c,?_⟩;rw[aA l,e];rfl
 .rw[List.concat_eq_append]at e;obtain⟨A,B,o,K,mm,a0,C,rfl,m,F⟩:=h.pile.L4 e;have t:r.pile.length=b.length+1:=by rw[e];simp
  have g:=h.win;rw[t]at g;obtain⟨N,n,p,rfl⟩:=g.P9;obtain⟨v,x⟩:=m.O8;have y:A.flatten.length=b.length*4:=by rw[nN x,v]
  have R:=g.B5 (j:=b.length*4) (u:=G o) (by rw[dS,az (by omega),y,show b.length*4-b.length*4=0 by omega];rfl);refine af ⟨b,f,N,n,b.length,p,b.length+1,e,by unfold bh;rw[e];simp,by unfold bj;rw[e];simp,aA l,by rw[R,F.obj],by omega,by rw[ba];omega,by omega,by omega⟩
theorem aU.P6{w:U}{c d i b:Nat}{s:ByteArray}{r:Rr}(h:aU w c s d i r b)(n:Nat)(z:Int)(p:z=n)(v:n≠6):aU (w.setCell ⟨c,3,J⟩ (ac ah z)) c s d i {r with want:=n} b:=by
 subst p;obtain⟨P,f,l,t,q,y,a1,x,u,a2,m,j,g,a⟩:=h;have a:=a.L8 g ((S (λk=>k=c) w).E9 3 (ac ah n));exact⟨P,f,l,t,q,y,a1,x,u,a2,m,j,aB (o:=3) g _,a.le,a.win,a.pF,a.pile,λe=>absurd e v⟩
theorem aB3(w:U)(j:Nat)(s:ByteArray)(d i b:Nat)(r:Rr)(m:aU w j s d i r b)(h:Bnd r d)(hi:i<=1073741824):
 ai ag 105 #[aj (I ⟨j,0,J⟩),ac .u8 58] w λe w'=>pP w j s d i (r.D3 d 58) e w':=by
 obtain⟨q,T,c2,cf,n⟩:=m.N1 h.pile;have x:=L (λ(W:U)(y:Keeps (λ_=>False) w W)=>eI W j s d i b r (m.C9 y) hi 120 i i);have t:=L n;have z:=L (m.P6 0 0 rfl (by decide))
 have l:r.D3 d 58=if r.want=4 then .on 1 {r with want:=0}else ar 120 0:=by
  unfold au
  by_cases g:r.want=4
  .simp[g]
  .simp[g]
 rw[l];clear l m h
 by_cases g:r.want=4
 .rw[if_pos g];have A:((r.want:Int)==4)=V:=by simp;omega
  clear g;rcases q with⟨_,-,-,a,c,h⟩|⟨o,f,B,l,C,m,N,-,-,-,h,p,F,K,P,R⟩
  all_goals
   go_enter Z,H;go_wp2_with fail
   go_end0
   exact⟨rfl,((S (λk=>k=j) w).E9 3 _).B3 (X t.o) λk e=>by omega,b,z.o⟩
 .rw[if_neg g];have A:((r.want:Int)==4)=Y:=by simp;omega
  clear g;rcases q with⟨_,-,-,a,c,h⟩|⟨o,f,B,l,C,m,N,-,-,-,h,p,F,K,P,R⟩
  all_goals
   go_enter Z,H;go_wp2_with fail
   go_still_tail 9,(by kernel_rfl)
   go_wp2_with fail;refine(x.o _ (S _ w).A9).mono ?_;rintro e w2 ⟨rfl,u,g⟩;have v:=L (And.intro u g);clear u g;go_wp2_with fail
   go_end0
   exact⟨rfl,((S (λk=>k=j) w).A9.B8 v.o.1).B3 (X t.o) λk e=>by omega,v.o.2⟩
theorem aB4(w:U)(j:Nat)(s:ByteArray)(d i g:Nat)(r:Rr)(x:aU w j s d i r g)(b:Bnd r d)(hi:i<=1073741824):
 ai ag 105 #[aj (I ⟨j,0,J⟩),ac .u8 44] w λe w'=>pP w j s d i (r.D3 d 44) e w':=by
 obtain⟨C,c3,c2,cf,z⟩:=x.N1 b.pile;have F:=L (λ(W:U)(K:Keeps (λ_=>False) w W)=>eI W j s d i g r (x.C9 K) hi 120 i i);have y:=L z;have P:=L (x.P6 0 0 rfl (by decide));have A:=L (x.P6 3 3 rfl (by decide))
 have h:r.D3 d 44=if r.want=5/\r.E5=V then .on 1 {r with want:=3}else if r.want=5/\r.H5=V then .on 1 {r with want:=0}else ar 120 0:=by
  unfold au;simp
 rw[h];clear h x b
 by_cases l:r.want=5
 .have R:((r.want:Int)==5)=V:=by simp;omega
  rcases C with⟨_,h,m,a,c,n⟩|⟨B,f,T,p,px,q,N,-,h,m,n,o,n1,n2,n3,n4⟩
  .rw[if_neg (by rw[h];simp),if_neg (by rw[m];simp)];clear l h m;go_enter Z,H;go_wp2_with fail
   go_still_tail 9,(by kernel_rfl)
   go_wp2_with fail;refine(F.o _ (S _ w).A9).mono ?_;rintro e w2 ⟨rfl,t,b⟩;have u:=L (And.intro t b);clear t b;go_wp2_with fail
   go_end0
   exact⟨rfl,((S (λk=>k=j) w).A9.B8 u.o.1).B3 (X y.o) λk e=>by omega,u.o.2⟩
  .cases v:f.object with
   | true=>
    rw[v]at h m o;rw[if_pos ⟨l,h⟩];clear l h m;go_enter Z,H;go_wp2_with fail
    go_end0
    exact⟨rfl,((S (λk=>k=j) w).E9 3 _).B3 (X y.o) λk e=>by omega,g,A.o⟩
   | false=>
    rw[v]at h m o;rw[if_neg (by rw[h];simp),if_pos ⟨l,m⟩];clear l h m;go_enter Z,H;go_wp2_with fail
    go_end0
    exact⟨rfl,((S (λk=>k=j) w).E9 3 _).B3 (X y.o) λk e=>by omega,g,P.o⟩
 .have R:((r.want:Int)==5)=Y:=by simp;omega
  rw[if_neg (λx=>l x.1),if_neg (λx=>l x.1)];clear l;rcases C with⟨_,-,-,a,c,n⟩|⟨B,f,T,p,px,q,N,-,-,-,n,o,n1,n2,n3,n4⟩
  all_goals
   go_enter Z,H;go_wp2_with fail
   go_still_tail 9,(by kernel_rfl)
   go_wp2_with fail;refine(F.o _ (S _ w).A9).mono ?_;rintro e w2 ⟨rfl,t,b⟩;have u:=L (And.intro t b);clear t b;go_wp2_with fail
   go_end0
   exact⟨rfl,((S (λk=>k=j) w).A9.B8 u.o.1).B3 (X y.o) λk e=>by omega,u.o.2⟩
theorem aB5(w:U)(p:Nat)(s:ByteArray)(d i v:Nat)(r:Rr)(T:aU w p s d i r v)(b:Bnd r d)(hi:i<=1073741824)(hobj:∀h f,r.pile=h++ [f]->f.object=V->(r.want=5\/r.want=2)->f.items.length=f.keys.length/\bH f.keys/\f.keys.Nodup):
 ai ag 105 #[aj (I ⟨p,0,J⟩),ac .u8 93] w λe w'=>pP w p s d i (r.D3 d 93) e w':=by
 obtain⟨ht,c3,c2,-,A⟩:=T.N1 b.pile;have B:=L (λ(W:U)(hW:Keeps (λ_=>False) w W)=>eI W p s d i v r (T.C9 hW) hi 120 i i);have C:=L A;have x:=L (λ(h:List RFr)(f:RFr)(q:r.pile=h++ [f])(h6:r.want≠6)(t:f.object=V->f.items.length=f.keys.length/\bH f.keys/\f.keys.Nodup)=>aFv w p s d i v r h f T b q h6 t)
 have g:r.D3 d 93=if r.H5=V/\(r.want=5\/r.want=1)then .on 1 r.L7 else ar 120 0:=by
  unfold au;simp
 rw[g];clear g T b
 have F:r.want=5/\((r.want:Int)==5)=V\/(r.want=1/\((r.want:Int)==5)=Y/\((r.want:Int)==1)=V)\/(¬r.want=5/\¬r.want=1/\((r.want:Int)==5)=Y/\((r.want:Int)==1)=Y):=by
  by_cases m:r.want=5
  .exact ae ⟨m,by simp;omega⟩
  .by_cases y:r.want=1
   .exact af (ae ⟨y,by simp;omega,by simp;omega⟩)
   .exact af (af ⟨m,y,by simp;omega,by simp;omega⟩)
 rcases ht with⟨_,-,l,a,c,K⟩|⟨h,f,pg,poff,px,pcap,N,q,t,l,K,z,n1,n2,n3,n4⟩
 .rw[if_neg (by rw[l];simp)];clear l;rcases F with⟨-,-⟩|⟨-,-,-⟩|⟨-,-,-,-⟩
  all_goals
   go_enter Z,H;go_wp2_with fail
   go_still_tail 9,(by kernel_rfl)
   go_wp2_with fail;refine(B.o _ (S _ w).A9).mono ?_;rintro e w2 ⟨rfl,u,b⟩;have j:=L (And.intro u b);clear u b;go_wp2_with fail
   go_end0
   exact⟨rfl,((S (λk=>k=p) w).A9.B8 j.o.1).B3 (X C.o) λk e=>by omega,j.o.2⟩
 .cases o:f.object with
  | true=>
   rw[o]at t l z;rw[if_neg (by rw[l];simp)];clear t l q;rcases F with⟨-,-⟩|⟨-,-,-⟩|⟨-,-,-,-⟩
   all_goals
    go_enter Z,H;go_wp2_with fail
    go_still_tail 9,(by kernel_rfl)
    go_wp2_with fail;refine(B.o _ (S _ w).A9).mono ?_;rintro e w2 ⟨rfl,u,b⟩;have j:=L (And.intro u b);clear u b;go_wp2_with fail
    go_end0
    exact⟨rfl,((S (λk=>k=p) w).A9.B8 j.o.1).B3 (X C.o) λk e=>by omega,j.o.2⟩
  | false=>
   rw[o]at t l z;rcases F with⟨m,e1⟩|⟨m,e1,e2⟩|⟨m,y,e1,e2⟩
   .rw[if_pos ⟨l,ae m⟩];have P:=L (x.o h f q (by omega) (λR=>absurd R (by rw[o];simp)));clear m t l q;go_enter Z,H;go_wp2_with fail;refine P.o.mono ?_;rintro e w2 ⟨rfl,n,g⟩;have j:=L (And.intro n g);clear n g;go_wp2_with fail
    go_end0
    exact⟨rfl,j.o.1,j.o.2⟩
   .rw[if_pos ⟨l,af m⟩];have P:=L (x.o h f q (by omega) (λR=>absurd R (by rw[o];simp)));clear m t l q;go_enter Z,H;go_wp2_with fail;refine P.o.mono ?_;rintro e w2 ⟨rfl,n,g⟩;have j:=L (And.intro n g);clear n g;go_wp2_with fail
    go_end0
    exact⟨rfl,j.o.1,j.o.2⟩
   .rw[if_neg (λT=>T.2.elim m y)];clear m y t l q;go_enter Z,H;go_wp2_with fail
    go_still_tail 9,(by kernel_rfl)
    go_wp2_with fail;refine(B.o _ (S _ w).A9).mono ?_;rintro e w2 ⟨rfl,u,b⟩;have j:=L (And.intro u b);clear u b;go_wp2_with fail
    go_end0
    exact⟨rfl,((S (λk=>k=p) w).A9.B8 j.o.1).B3 (X C.o) λk e=>by omega,j.o.2⟩
theorem wB(w:U)(p:Nat)(s:ByteArray)(d i u:Nat)(r:Rr)(a0:aU w p s d i r u)(g:Bnd r d)(hi:i<=1073741824)(q:∀b f,r.pile=b++ [f]->f.object=V->(r.want=5\/r.want=2)->f.items.length=f.keys.length/\bH f.keys/\f.keys.Nodup):
 ai ag 105 #[aj (I ⟨p,0,J⟩),ac .u8 125] w λe w'=>pP w p s d i (r.D3 d 125) e w':=by
 obtain⟨ht,c3,c2,-,B⟩:=a0.N1 g.pile;have C:=L (λ(W:U)(hW:Keeps (λ_=>False) w W)=>eI W p s d i u r (a0.C9 hW) hi 120 i i);have F:=L B;have x:=L (λ(b:List RFr)(f:RFr)(o:r.pile=b++ [f])(h6:r.want≠6)(j:f.object=V->f.items.length=f.keys.length/\bH f.keys/\f.keys.Nodup)=>aFv w p s d i u r b f a0 g o h6 j)
 have h:r.D3 d 125=if r.E5=V/\(r.want=5\/r.want=2)then .on 1 r.L7 else ar 120 0:=by
  unfold au;simp
 rw[h];clear h a0 g
 have K:r.want=5/\((r.want:Int)==5)=V\/(r.want=2/\((r.want:Int)==5)=Y/\((r.want:Int)==2)=V)\/(¬r.want=5/\¬r.want=2/\((r.want:Int)==5)=Y/\((r.want:Int)==2)=Y):=by
  by_cases m:r.want=5
  .exact ae ⟨m,by simp;omega⟩
  .by_cases y:r.want=2
   .exact af (ae ⟨y,by simp;omega,by simp;omega⟩)
   .exact af (af ⟨m,y,by simp;omega,by simp;omega⟩)
 rcases ht with⟨_,j,-,a,c,P⟩|⟨b,f,pg,poff,px,pcap,N,o,j,v,P,z,n1,n2,n3,n4⟩
 .rw[if_neg (by rw[j];simp)];clear j;rcases K with⟨-,-⟩|⟨-,-,-⟩|⟨-,-,-,-⟩
  all_goals
   go_enter Z,H;go_wp2_with fail
   go_still_tail 9,(by kernel_rfl)
   go_wp2_with fail;refine(C.o _ (S _ w).A9).mono ?_;rintro e w2 ⟨rfl,t,g⟩;have l:=L (And.intro t g);clear t g;go_wp2_with fail
   go_end0
   exact⟨rfl,((S (λk=>k=p) w).A9.B8 l.o.1).B3 (X F.o) λk e=>by omega,l.o.2⟩
 .cases A:f.object with
  | false=>
   rw[A]at j v z;rw[if_neg (by rw[j];simp)];clear j v o;rcases K with⟨-,-⟩|⟨-,-,-⟩|⟨-,-,-,-⟩
   all_goals
    go_enter Z,H;go_wp2_with fail
    go_still_tail 9,(by kernel_rfl)
    go_wp2_with fail;refine(C.o _ (S _ w).A9).mono ?_;rintro e w2 ⟨rfl,t,g⟩;have l:=L (And.intro t g);clear t g;go_wp2_with fail
    go_end0
    exact⟨rfl,((S (λk=>k=p) w).A9.B8 l.o.1).B3 (X F.o) λk e=>by omega,l.o.2⟩
  | true=>
   rw[A]at j v z;rcases K with⟨m,e1⟩|⟨m,e1,e2⟩|⟨m,y,e1,e2⟩
   .rw[if_pos ⟨j,ae m⟩];have R:=L (x.o b f o (by omega) (λT=>q b f o T (ae m)));clear m j v o;go_enter Z,H;go_wp2_with fail;refine R.o.mono ?_;rintro e w2 ⟨rfl,n,h⟩;have l:=L (And.intro n h);clear n h;go_wp2_with fail
    go_end0
    exact⟨rfl,l.o.1,l.o.2⟩
   .rw[if_pos ⟨j,af m⟩];have R:=L (x.o b f o (by omega) (λT=>q b f o T (af m)));clear m j v o;go_enter Z,H;go_wp2_with fail;refine R.o.mono ?_;rintro e w2 ⟨rfl,n,h⟩;have l:=L (And.intro n h);clear n h;go_wp2_with fail
    go_end0
    exact⟨rfl,l.o.1,l.o.2⟩
   .rw[if_neg (λa0=>a0.2.elim m y)];clear m y j v o;go_enter Z,H;go_wp2_with fail
    go_still_tail 9,(by kernel_rfl)
    go_wp2_with fail;refine(C.o _ (S _ w).A9).mono ?_;rintro e w2 ⟨rfl,t,g⟩;have l:=L (And.intro t g);clear t g;go_wp2_with fail
    go_end0
    exact⟨rfl,((S (λk=>k=p) w).A9.B8 l.o.1).B3 (X F.o) λk e=>by omega,l.o.2⟩
theorem aIw:kQ 170 265 4 64:=⟨underlying170,by decide,by
 have h:(ag.info? 265).map (λi=>(i.zero,i.size,i.bytes))=I (I (.agg #[G Y,O J 0 0,D J,O J 0 0]),4,64):=by kernel_rfl
 obtain⟨i,c,a,d,b⟩:=info_parts h;exact⟨i,_,c,a,d,b,rfl⟩⟩
theorem aB6{w w':U}{b d i h g off cap N want:Nat}{s:ByteArray}{r:Rr}{o:Bool}{P:ak}{j:List (List ak)}{u:Int}{v:Bool}{x:Nat}{y:ByteArray}{a1 a2:Option Addr}{z A B C:Nat}{dc:List ak}
 (q:w.heap[b]?=I (E (rdC s d i r.want P r.nodes r.bytes u v x y (O a1 z A) (O a2 B C) 0 0 0) 172 (0,0)))(a:nO w b P j dc r h)(hN:r.pile.length=N)
 (f:aR 4 265 w' (O (I ⟨g,off,J⟩) (N+1) cap) (N+1) (j.flatten++frC o gO w.heap.size gO))(F:P.ownBlock=I g\/w.heap.size<=g)
 (K:Keeps (λk=>P.ownBlock=I k) ((w.alloc (Q #[] 0)).alloc (E (frC o gO w.heap.size gO).toArray 265)) w')(hw:want≠6):
 ∀W,Keeps (λk=>k=b) w' W->W.heap[b]?=I (E (rdC s d i want (O (I ⟨g,off,J⟩) (N+1) cap) r.nodes r.bytes u v x y (O a1 z A) (O a2 B C) 0 0 0) 172 (0,0))->
 Below b w W/\∃h,aU W b s d i {r with pile:=r.pile++ [⟨o,[],[]⟩],want:=want} h:=by
 intro W t R;have T:=aw q;have hPr:P.ownBlock≠I b:=a.win.ne q (by decide);have hq:Keeps (λ_=>False) w ((w.alloc (Q #[] 0)).alloc (E (frC o gO w.heap.size gO).toArray 265)):=((S _ w).A4 _).A4 _;have hqs:w.heap.size<((w.alloc (Q #[] 0)).alloc (E (frC o gO w.heap.size gO).toArray 265)).heap.size:=by simp;omega
 have l:Keeps (λk=>P.ownBlock=I k) w w':=(hq.A6 λ_ a0=>a0.elim).B9 K λk e=>ae e
 have m:Keeps (λk=>P.ownBlock=I k\/k=b) w W:=(l.A6 λk e=>ae e).B9 t λk e=>ae (af e)
 have n:eZ w b:=.of q (by decide) (by decide)
 have hPF:∀k,P.ownBlock=I k->eZ w k:=λk e=>by
  obtain⟨c,p⟩:=a.win.E4 e;exact .of p (by decide) (by decide)
 have p:dT W w.heap.size []:=by
  have h0:=dT.O7 w;have h1:=h0.A0 ((S (λ_=>False) (w.alloc (Q #[] 0))).A4 (E (frC o gO w.heap.size gO).toArray 265)) id;have h2:=h1.A0 K (λe=>by have:=a.win.lt e;omega);exact h2.A0 t (by omega)
 have hmw:w.heap.size<W.heap.size:=bg hqs (ao K.size t.size);have hple:=a.pile.le;refine⟨m.B3 (X T) λk e=>e.elim (a.pF k) λe=>by omega,W.heap.size,_,j++ [frC o gO w.heap.size gO],u,v,x,y,a1,z,A,a2,B,C,R,Nat.le_refl _,?_,λk e=>?_,?_,λe=>absurd e hw⟩
 .show aR 4 265 W _ (r.pile++ [(⟨o,[],[]⟩:RFr)]).length _
  rw[List.length_append,List.length_singleton,hN,dS]
  exact f.A0 t λk e e2=>by
   subst e2;exact f.ne (l.C4 q hPr) (by decide) e
 .obtain rfl:g=k:=by simpa[bc]using e
  exact F.elim (a.pF g) λe=>by omega
 .exact .snoc (a.pile.A0 m λk _ _ e=>e.elim (hPF k) λe=>e▸n) o gO w.heap.size gO [] ⟨o,[],[]⟩ ⟨rfl,.E0 _ _ _,λk e=>(by cases e),p,⟨a.le,hmw⟩,.E0 _ _ _,λk e=>(by cases e),.E0 _ _⟩
theorem aB7(w:U)(a b c d:ak):∀(j:Nat)(u:ak),[a,b,c,d][j]?=I u->(w.alloc (E #[a,b,c,d] 265)).cell? ((⟨w.heap.size,0,J⟩:Addr).add j)=I u:=λj u e=>by
 rw[Addr.add_lit,Nat.zero_add];exact(aA (heap_alloc_new w _)).trans (by simpa using e)
theorem wC(w:U)(rb:Nat)(s:ByteArray)(d i top:Nat)(r:Rr)(a3:aU w rb s d i r top)(h:Bnd r d)(hi:i<=1073741824)(c:UInt8)(hc:c=91\/c=123):
 ai ag 105 #[aj (I ⟨rb,0,J⟩),ac .u8 ((c.toNat:Nat):Int)] w λe w'=>pP w rb s d i (r.D3 d c) e w':=by
 obtain⟨ht,-,-,-,hrl⟩:=a3.N1 h.pile;have HM:=L (qZ w rb s d i top r a3 hi h.depth h.pile h.nodes);have HL:=L hrl
 have l:r.D3 d c=match r.D5 d with
  | .error no=>ar no 0
  | .ok r=>.on 1 {r with pile:=r.pile++ [⟨c==123,[],[]⟩],want:=if c=123 then 2 else 1}:=by
  unfold au Rr.I5;rw[if_pos hc];cases r.D5 d<;>rfl
 rw[l];cases b:r.D5 d with
 | error no=>
  rw[b]at HM;clear l b a3 h;rcases hc with rfl|rfl
  all_goals
   rcases ht with⟨_,_,_,a,c,v⟩|⟨ini,f,pg,C,px,F,N,_,_,_,v,hcp,n1,n2,n3,n4⟩
   all_goals
    go_enter Z,H;go_wp2_with fail;refine HM.o.mono ?_;rintro e w1 ⟨t,rfl,j⟩;have A:=L (And.intro t j);clear t j;go_wp2_with fail
    go_end0
    exact⟨rfl,A.o.1.B3 (X HL.o) λk e=>by omega,A.o.2⟩
 | ok r2=>
  have j:=aAM h b;rw[b]at HM;have HB2:=L j;clear l b a3 h j;rcases hc with rfl|rfl
  .rcases ht with⟨_,_,_,a,c,v⟩|⟨ini,f,pg,C,px,F,N,_,_,_,v,hcp,n1,n2,n3,n4⟩
   all_goals
    go_enter Z,H;go_wp2_with fail;refine HM.o.mono ?_;rintro e w1 ⟨t,rfl,K⟩;have HK:=L (t.B3 (X HL.o) λk e=>by omega);obtain⟨P,pcs,so,fl,bi,tx,a1,n1,m1,a2,n2,m2,hb,m⟩:=K;obtain⟨pa,R,rfl⟩:=m.win.A8;have x:=HB2.o.pile;obtain⟨a0,B⟩:∃a0,r2.pile.length=a0:=⟨_,rfl⟩;have b:=m.win;have j:=m;rw[B]at x b j;have h:=hb;rw[B]at h;obtain⟨⟨-,-,-,-,q4,-,-,-⟩,_,-⟩:=cZ h;have hmk:(bk 263 J).run ag w1=.ok (D (I w1.heap.size)) (w1.alloc (Q #[] 0)):=by kernel_rfl
    have T:=((S (λ_=>False) w1).A4 (Q #[] 0)).A4 (E #[G Y,O J 0 0,D (I w1.heap.size),O J 0 0] 265);have W:=L (b.A0 T λ_ _=>id);have HNC:=L (aB7 (w1.alloc (Q #[] 0)) (G Y) (O J 0 0) (D (I w1.heap.size)) (O J 0 0));have HQ:=L (λ(w':U)(t:Keeps (λk=>(O pa a0 R).ownBlock=I k) ((w1.alloc (Q #[] 0)).alloc (E #[G Y,O J 0 0,D (I w1.heap.size),O J 0 0] 265)) w')=>t.C4 (T.C4 h id) (b.ne h (by decide)));have y:=L (show(a0+1)*64<=140737488355328/\a0+1<=av from⟨by omega,by unfold av;omega⟩);have HIN:=L (λ(w':U)(g off cap:Nat)=>aB6 (w':=w') (g:=g) (off:=off) (cap:=cap) (want:=1) (o:=Y) h j B);clear t hb m j B x b T h
    go_wp2_with (at_builtin;refine dD aIw rfl _ _ rfl rfl W.o ⟨w1.heap.size+1,0,J⟩ 1 1 [G Y,O J 0 0,D (I w1.heap.size),O J 0 0] (by rfl) rfl ?_ ?_ (by decide) y.o.1 y.o.2 ?_)
    .have:=HNC.o
     simpa using this
    .intro u hu;simp at hu;rcases hu with rfl|rfl|rfl|rfl<;>rfl
    intro g off cap w' n z q;have l:=HQ.o w' q;obtain⟨⟨-,-,-,t3,t4,-,-,-⟩,_,tf⟩:=cZ l;have HBL:=L l;have A:=L (And.intro n (And.intro z q));clear n z q l;go_wp2_with fail
    go_end0
    have p:=HIN.o w' g off cap A.o.1 (A.o.2.1.imp id λa3=>by have:=a3.1;omega) A.o.2.2 (by decide) _ (((S (λk=>k=rb) w').E9 4 _).E9 3 _) (aB (o:=3) (aB (o:=4) HBL.o _) _);exact⟨rfl,HK.o.trans p.1,p.2⟩
  .rcases ht with⟨_,_,_,a,c,v⟩|⟨ini,f,pg,C,px,F,N,_,_,_,v,hcp,n1,n2,n3,n4⟩
   all_goals
    go_enter Z,H;go_wp2_with fail;refine HM.o.mono ?_;rintro e w1 ⟨t,rfl,K⟩;have HK:=L (t.B3 (X HL.o) λk e=>by omega);obtain⟨P,pcs,so,fl,bi,tx,a1,n1,m1,a2,n2,m2,hb,m⟩:=K;obtain⟨pa,R,rfl⟩:=m.win.A8;have x:=HB2.o.pile;obtain⟨a0,B⟩:∃a0,r2.pile.length=a0:=⟨_,rfl⟩;have b:=m.win;have j:=m;rw[B]at x b j;have h:=hb;rw[B]at h;obtain⟨⟨-,-,-,-,q4,-,-,-⟩,_,-⟩:=cZ h;have hmk:(bk 263 J).run ag w1=.ok (D (I w1.heap.size)) (w1.alloc (Q #[] 0)):=by kernel_rfl
    have T:=((S (λ_=>False) w1).A4 (Q #[] 0)).A4 (E #[G V,O J 0 0,D (I w1.heap.size),O J 0 0] 265);have W:=L (b.A0 T λ_ _=>id);have HNC:=L (aB7 (w1.alloc (Q #[] 0)) (G V) (O J 0 0) (D (I w1.heap.size)) (O J 0 0));have HQ:=L (λ(w':U)(t:Keeps (λk=>(O pa a0 R).ownBlock=I k) ((w1.alloc (Q #[] 0)).alloc (E #[G V,O J 0 0,D (I w1.heap.size),O J 0 0] 265)) w')=>t.C4 (T.C4 h id) (b.ne h (by decide)));have y:=L (show(a0+1)*64<=140737488355328/\a0+1<=av from⟨by omega,by unfold av;omega⟩);have HIN:=L (λ(w':U)(g off cap:Nat)=>aB6 (w':=w') (g:=g) (off:=off) (cap:=cap) (want:=2) (o:=V) h j B);clear t hb m j B x b T h
    go_wp2_with (at_builtin;refine dD aIw rfl _ _ rfl rfl W.o ⟨w1.heap.size+1,0,J⟩ 1 1 [G V,O J 0 0,D (I w1.heap.size),O J 0 0] (by rfl) rfl ?_ ?_ (by decide) y.o.1 y.o.2 ?_)
    .have:=HNC.o
     simpa using this
    .intro u hu;simp at hu;rcases hu with rfl|rfl|rfl|rfl<;>rfl
    intro g off cap w' n z q;have l:=HQ.o w' q;obtain⟨⟨-,-,-,t3,t4,-,-,-⟩,_,tf⟩:=cZ l;have HBL:=L l;have A:=L (And.intro n (And.intro z q));clear n z q l;go_wp2_with fail
    go_end0
    have p:=HIN.o w' g off cap A.o.1 (A.o.2.1.imp id λa3=>by have:=a3.1;omega) A.o.2.2 (by decide) _ ((((S (λk=>k=rb) w').E9 4 _).E9 3 (ac ah 1)).E9 3 _) (aB (o:=3) (aB (o:=3) (aB (o:=4) HBL.o _) (ac ah 1)) _);exact⟨rfl,HK.o.trans p.1,p.2⟩
end Go.Proofs.YtakkmiomhackiaaGreatDoor
