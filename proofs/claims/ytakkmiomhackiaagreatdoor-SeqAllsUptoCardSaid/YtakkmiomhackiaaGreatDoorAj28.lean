/-
  The program, one part of its walk. Conditions: none.
-/
import Derived.Test.YtakkmiomhackiaaGreatDoorAj27
set_option linter.all false
set_option maxRecDepth 100000
set_option maxHeartbeats 16000000
open Go.Proofs.Tryz
open Bool renaming false->U,true->S
open Go renaming Calls->ag,Value->ai,World->X,lt_of_block->au,maxLen->ar
open Go.Proofs.Tryz renaming func105->T,ntmps105->ac,prog->ae
open Option renaming none->O,some->I
namespace Go.Proofs.YtakkmiomhackiaaGreatDoor
open Go.RowKit
open Instr renaming makeMap->bk
open IntKind renaming i64->af
open Obj renaming cells->Z,map->D
open Keeps renaming A4->Y
open Ra renaming bad->ak
open Rr renaming C7->ao,E4->bh,F9->bj
open Value renaming bool->E,int->Q,map->H,ownBlock->az,pointer->ah,slice->J
variable {r:Rr}{w:X}{d i:Nat}{s:ByteArray}
def aKJ{a:List RFr}{f:RFr}(h:r.e=a++ [f]):r.L8=Rr.C5 {r with e:=a} (madeOf f):=by
 unfold Rr.L8;simp[h]
def aG6(w:X)(z:Nat)(s:ByteArray)(d i i2:Nat)(r:Rr)(B:List RFr)(f:RFr)(a0:aU w z s d i r i2)(hB:Bnd r d)(hp:r.e=B++ [f])(i3:r.b≠6)(L:f.object=S->f.c.length=f.a.length/\bK f.a/\f.a.Nodup):
 ag ae 143 #[ah z] w λe w'=>xM w z s d i r.L8 e w':=by
 rw[aKJ hp];have h5:Bnd {r with e:=B} d:=⟨hB.h,by have:=hB.e;rw[hp]at this;simp at this;show B.length<=512;omega,hB.g,hB.bytes,λg hg=>hB.c g (by rw[hp];exact List.mem_append_left _ hg)⟩;have i4:=hB.c f (by rw[hp];simp);have h6:=hB.e;obtain⟨P,i6,so,fl,bi,tx,a1,n1,m1,a2,n2,m2,hb,g6⟩:=a0;obtain⟨pc,C,o,K,mm,V,h0,rfl,R,y⟩:=g6.e.M3 hp;obtain⟨N,hN⟩:∃N,r.e.length=N:=⟨_,rfl⟩;have g7:N=B.length+1:=by rw[<-hN,hp];simp
 obtain⟨F,hx⟩:∃x,B.length=x:=⟨_,rfl⟩;rw[hN]at h6;rw[hx]at g7;have c:=g6.a;rw[hN,g7]at c;obtain⟨pg,l,t,rfl⟩:=c.some;obtain⟨ka,kc,rfl⟩:=y.a.A8;obtain⟨va,vc,rfl⟩:=y.c.A8;rw[<-g7]at c hb;obtain⟨h7,h8⟩:=R.O9;have h4:pc.flatten.length=F*4:=by rw[oE h8,h7,hx]
 have h:∀(j:Nat)(u:ai),(frC o (J ka f.a.length kc) mm (J va f.c.length vc))[j]?=I u->w.cell? ⟨pg,l+F*4+j,O⟩=I u:=by
  intro j u v;have:=c.B6 (j:=F*4+j) (u:=u) (by rw[dV,cL (by omega),h4,show F*4+j-F*4=j by omega];exact v);rw[Nat.add_assoc];exact this
 have y0:w.cell? ⟨pg,l+F*4,O⟩=I (E o):=h 0 _ rfl;have y1:=h 1 _ rfl;have y2:=h 2 _ rfl;have y3:=h 3 _ rfl
 have i7:N<=t:=by
  rcases c.2 with⟨v,_⟩|⟨g',g8,g9,h9,v,_,hc,_⟩
  .cases v
  .cases v;exact hc
 obtain⟨⟨q0,q1,q2,q3,q4,q5,q6,q7⟩,_,qf⟩:=dF hb;have i0:=au hb;have e1:af.wrap ((N:Int)-1)=(F:Int):=by rw[b9];omega
 have e2:(F:Int)<(N:Int):=by omega
 have e3:(F:Int)<=(t:Int):=by omega
 have e0:(0:Int)<=(F:Int):=by omega
 have h9:z≠pg:=by
  intro e;have:=c.ne hb (by decide);simp[az]at this;exact this e.symm
 have hW:∀W,W=(w.setCell ⟨z,4,O⟩ (J (pg,l) F t)).alloc (Z #[o,J ka f.a.length kc,H (I mm),J va f.c.length vc] 265)->
  Below z w W/\aU W z s d i {r with e:=B} C/\Win 9 encS W (J ka f.a.length kc) f.a/\aQ 6 34 W (J va f.c.length vc) f.c.length h0.flatten/\l5 (λk=>C<=k) W h0 f.c/\(∀k,(J va f.c.length vc).ownBlock=I k->C<=k)/\C<=W.heap.size/\z<W.heap.size:=by
  rintro W rfl;have v:Keeps (λk=>k=z) w ((w.setCell ⟨z,4,O⟩ (J (pg,l) F t)).alloc (Z #[o,J ka f.a.length kc,H (I mm),J va f.c.length vc] 265)):=((Y (λk=>k=z) w).own 4 _).A5 _;have g9:=((Y (λ_=>False) (w.setCell ⟨z,4,O⟩ (J (pg,l) F t))).A5 (Z #[o,J ka f.a.length kc,H (I mm),J va f.c.length vc] 265)).B4 (aB (o:=4) hb (J (pg,l) F t)) id;have i1:∀k,(J (pg,l) N t).ownBlock=I k->¬k=z:=λk e e2=>by cases e;exact h9 e2.symm
  have g8:C<=w.heap.size:=bo (bo y.h.1 (iF y.h.2)) g6.le;refine⟨v.A6 (iF i0) λk e=>by omega,⟨_,pc,so,fl,bi,tx,a1,n1,m1,a2,n2,m2,g9,?_⟩,y.a.A0 v λk e e2=>y.a.ne hb (by decide) (e2▸e),y.c.A0 v λk e e2=>y.c.ne hb (by decide) (e2▸e),(y.b.A0 v λk _ _ e=>by subst e;exact .of hb (by decide) (by decide)).mono λk e _=>e.1,λk e=>(y.g k e).1,bo g8 v.size,a7 i0 v.size⟩;have ht:=(c.A0 v i1).B3 (k:=F) (by omega);rw[dV,List.take_left' h4]at ht;refine⟨bo g8 v.size,?_,g6.b,R.A0 v λk _ _ e=>by subst e;exact .of hb (by decide) (by decide),λe=>absurd e i3⟩;show aQ 4 265 _ _ B.length _;rw[hx];exact ht
 have i8:=A (And.intro y.e L);have i1:=A (And.intro h5 i4)
 cases o with
 | false=>
  have g8:madeOf f=.list f.c:=by unfold madeOf;rw[<-y.e];rfl
  rw[g8];have HW:=A (hW _ rfl);clear hN g7 hx hW h5 h4 h R g6 c hb h6 h7 h8 h9 y g8 L;have HP:=A (oG _ z s d i C _ HW.o.2.1 i1.o.1 5 U 0 ⟨#[]⟩ va f.c.length vc O 0 0 (.list f.c) (.list _ h0 f.c HW.o.2.2.2.1 HW.o.2.2.2.2.2.1 HW.o.2.2.2.2.1.1 HW.o.2.2.2.2.1.2));go_enter func143,ntmps143;go_wp2_with fail;refine HP.o.mono ?_;rintro e w6 ⟨rfl,g9,v⟩;have HF:=A (And.intro g9 v);clear g9 v;go_wp2;go_end0;exact⟨rfl,HW.o.1.trans HF.o.1,HF.o.2⟩
 | true=>
  obtain⟨h1,h2,h3⟩:=L y.e.symm;have g8:madeOf f=.object (dC f.a) (besides f.a f.c):=by unfold madeOf;rw[<-y.e];rfl
  rw[g8];have HW:=A (hW _ rfl);have i5:f.a.length<=65536:=by omega
  have HM:=A (aHU _ _ _ _ f.a f.c h0 HW.o.2.2.1 HW.o.2.2.2.1 HW.o.2.2.2.2.1 h1 i5 h2 h3);clear hN g7 hx hW h5 h4 h R g6 c hb h6 h7 h8 h9 y g8 L h1 h2 h3;go_enter func143,ntmps143;go_wp2_with fail;refine HM.o.mono ?_;rintro e L ⟨a,n,m,b,p,q,rfl,h,c⟩;have HP:=A (oG L z s d i C _ (HW.o.2.1.C8 (Keeps.A2 _ c)) i1.o.1 6 U 0 ⟨#[]⟩ a n m b p q _ (h.mono λk e _=>e.elim id λe=>bo HW.o.2.2.2.2.2.2.1 e));have y:=A (HW.o.1.trans (c.mono (iF HW.o.2.2.2.2.2.2.2)));clear h c;go_wp2_with fail;refine HP.o.mono ?_;rintro e w6 ⟨rfl,g9,v⟩;have HF:=A (And.intro g9 v);clear g9 v;go_wp2;go_end0;exact⟨rfl,y.o.trans HF.o.1,HF.o.2⟩
def rI(w:X)(a:Nat)(s:ByteArray)(d i:Nat)(R:Ra)(e:Ending)(w':X):Prop:=e=.returned (.tuple #[])/\Below a w w'/\match R with
 | .on _ r=>∃b,aU w' a s d i r b
 | .bad no _=>qB w' a no i
 | .cut=>False
def aMu(w:X)(i:Nat)(r:Rr):Prop:=(r.e= []/\r.E4=U/\r.F9=U/\∃a c,w.cell? ⟨i,4,O⟩=I (J a 0 c))\/
 ∃g f h b e d N,r.e=g++ [f]/\r.E4=f.object/\r.F9=!f.object/\w.cell? ⟨i,4,O⟩=I (J (I ⟨h,b,O⟩) N d)/\w.cell? ⟨h,b+e*4,O⟩=I (E f.object)/\(0:Int)<(N:Int)/\af.wrap ((N:Int)-1)=(e:Int)/\(0:Int)<=(e:Int)/\(e:Int)<(N:Int)
def aU.O2{k q:Nat}(W:aU w k s d i r q)(hl:r.e.length<=512):aMu w k r/\w.cell? ⟨k,3,O⟩=I (Q af r.b)/\w.cell? ⟨k,2,O⟩=I (Q af i)/\(∀o,w.frozen? ⟨k,o,O⟩=U)/\k<w.heap.size:=by
 obtain⟨P,z,so,fl,bi,tx,a1,n1,m1,a2,n2,m2,l,h⟩:=W;refine⟨?_,aA l,aA l,free_at l,au l⟩;rcases List.eq_nil_or_concat r.e with e|⟨b,f,e⟩
 .obtain⟨a,c,rfl⟩:=h.a.A8;refine .inl ⟨e,by unfold bh;rw[e];rfl,by unfold bj;rw[e];rfl,a,c,?_⟩;rw[aA l,e];rfl
 .rw[List.concat_eq_append]at e;obtain⟨B,C,o,K,mm,V,F,rfl,m,L⟩:=h.e.M3 e;have t:r.e.length=b.length+1:=by rw[e];simp
  have g:=h.a;rw[t]at g;obtain⟨N,n,p,rfl⟩:=g.some;obtain⟨v,x⟩:=m.O9;have y:B.flatten.length=b.length*4:=by rw[oE x,v]
  have R:=g.B6 (j:=b.length*4) (u:=E o) (by rw[dV,cL (by omega),y,show b.length*4-b.length*4=0 by omega];rfl);refine .inr ⟨b,f,N,n,b.length,p,b.length+1,e,by unfold bh;rw[e];simp,by unfold bj;rw[e];simp,aA l,by rw[R,L.e],by omega,by rw[b9];omega,by omega,by omega⟩
def aU.S3{c b:Nat}(h:aU w c s d i r b)(n:Nat)(z:Int)(p:z=n)(v:n≠6):aU (w.setCell ⟨c,3,O⟩ (Q af z)) c s d i {r with b:=n} b:=by
 subst p;obtain⟨P,f,l,t,q,y,a1,x,u,a2,m,j,g,a⟩:=h;have a:=a.N2 g ((Y (λk=>k=c) w).own 3 (Q af n));exact⟨P,f,l,t,q,y,a1,x,u,a2,m,j,aB (o:=3) g _,a.le,a.a,a.b,a.e,λe=>absurd e v⟩
def aEf(w:X)(j:Nat)(s:ByteArray)(d i b:Nat)(r:Rr)(m:aU w j s d i r b)(h:Bnd r d)(hi:i<=1073741824):
 ag ae 105 #[ah j,Q .u8 58] w λe w'=>rI w j s d i (r.C7 d 58) e w':=by
 obtain⟨q,V,c2,cf,n⟩:=m.O2 h.e;have x:=A (λ(W:X)(y:Keeps (λ_=>False) w W)=>eP W j s d i b r (m.C8 y) hi 120 i i);have t:=A n;have z:=A (m.S3 0 0 rfl (by decide))
 have l:r.C7 d 58=if r.b=4 then .on 1 {r with b:=0}else ak 120 0:=by
  unfold ao;by_cases g:r.b=4
  .simp[g]
  .simp[g]
 rw[l];clear l m h;by_cases g:r.b=4
 .rw[pz g];have B:((r.b:Int)==4)=S:=by simp;omega
  clear g;rcases q with⟨_,-,-,a,c,h⟩|⟨o,f,C,l,F,m,N,-,-,-,h,p,K,L,P,R⟩
  all_goals
   go_enter T,ac;go_wp2;go_end0;exact⟨rfl,((Y (λk=>k=j) w).own 3 _).A6 (iF t.o) λk e=>by omega,b,z.o⟩
 .rw[py g];have B:((r.b:Int)==4)=U:=by simp;omega
  clear g;rcases q with⟨_,-,-,a,c,h⟩|⟨o,f,C,l,F,m,N,-,-,-,h,p,K,L,P,R⟩
  all_goals
   go_enter T,ac;go_wp2
   go_still_tail 9,(by kernel_rfl)
   go_wp2_with fail;refine(x.o _ (Y _ w).B0).mono ?_;rintro e w2 ⟨rfl,u,g⟩;have v:=A (And.intro u g);clear u g;go_wp2;go_end0;exact⟨rfl,((Y (λk=>k=j) w).B0.same v.o.1).A6 (iF t.o) λk e=>by omega,v.o.2⟩
def aEg(w:X)(l:Nat)(s:ByteArray)(d i b:Nat)(r:Rr)(q:aU w l s d i r b)(g:Bnd r d)(hi:i<=1073741824):
 ag ae 105 #[ah l,Q .u8 44] w λe w'=>rI w l s d i (r.C7 d 44) e w':=by
 obtain⟨y,c3,c2,cf,t⟩:=q.O2 g.e;have B:=A (λ(W:X)(C:Keeps (λ_=>False) w W)=>eP W l s d i b r (q.C8 C) hi 120 i i);have z:=A t;have F:=A (q.S3 0 0 rfl (by decide));have u:=A (q.S3 3 3 rfl (by decide))
 have h:r.C7 d 44=if r.b=5/\r.E4=S then .on 1 {r with b:=3}else if r.b=5/\r.F9=S then .on 1 {r with b:=0}else ak 120 0:=by
  unfold ao;simp
 rw[h];clear h q g;by_cases g:r.b=5
 focus
  have K:((r.b:Int)==5)=S:=by simp;omega
  rcases y with⟨_,h,m,a,c,j⟩|⟨v,f,L,n,P,o,N,-,h,m,j,p,R,V,n3,n4⟩;rotate_left
  .cases x:f.object;all_goals rw[x]at h m p
   focus rw[py (by rw[h];simp),pz ⟨g,m⟩]
   rotate_left
   focus rw[pz ⟨g,h⟩]
   all_goals
    clear g h m;go_enter T,ac;go_wp2;go_end0;exact⟨rfl,((Y (λk=>k=l) w).own 3 _).A6 (iF z.o) λk e=>by omega,b,by first|exact u.o|exact F.o⟩
  rw[py (by rw[h];simp),py (by rw[m];simp)];clear g h m
 rotate_left
 focus
  have K:((r.b:Int)==5)=U:=by simp;omega
  rw[py (λq=>g q.1),py (λq=>g q.1)];clear g;rcases y with⟨_,-,-,a,c,j⟩|⟨v,f,L,n,P,o,N,-,-,-,j,p,R,V,n3,n4⟩
 all_goals
  go_enter T,ac;go_wp2
  go_still_tail 9,(by kernel_rfl)
  go_wp2_with fail;refine(B.o _ (Y _ w).B0).mono ?_;rintro e w2 ⟨rfl,j,h⟩;have m:=A (And.intro j h);clear j h;go_wp2;go_end0;exact⟨rfl,((Y (λk=>k=l) w).B0.same m.o.1).A6 (iF z.o) λk e=>by omega,m.o.2⟩
def aEh(w:X)(o:Nat)(s:ByteArray)(d i l:Nat)(r:Rr)(C:aU w o s d i r l)(g:Bnd r d)(hi:i<=1073741824)(F:∀b f,r.e=b++ [f]->f.object=S->(r.b=5\/r.b=2)->f.c.length=f.a.length/\bK f.a/\f.a.Nodup):
 ag ae 105 #[ah o,Q .u8 93] w λe w'=>rI w o s d i (r.C7 d 93) e w':=by
 obtain⟨K,c3,c2,-,z⟩:=C.O2 g.e;have P:=A (λ(W:X)(R:Keeps (λ_=>False) w W)=>eP W o s d i l r (C.C8 R) hi 120 i i);have V:=A z;have B:=A (λ(b:List RFr)(f:RFr)(j:r.e=b++ [f])(h6:r.b≠6)(p:f.object=S->f.c.length=f.a.length/\bK f.a/\f.a.Nodup)=>aG6 w o s d i l r b f C g j h6 p)
 have h:r.C7 d 93=if r.F9=S/\(r.b=5\/r.b=1)then .on 1 r.L8 else ak 120 0:=by
  unfold ao;simp
 rw[h];clear h C g;by_cases m:r.F9=S/\(r.b=5\/r.b=1)
 .rw[pz m];rcases K with⟨_,-,h,a,-,-⟩|⟨b,f,pg,q,px,t,N,j,-,h,u,n,n1,n2,n3,n4⟩
  .exact absurd (m.1.symm.trans h) (by simp)
  have g:f.object=U:=by simpa[h]using m.1
  have HE:=A (B.o b f j (by omega) (λhh=>absurd hh (by rw[g];simp)));rw[g]at n;have v:((r.b:Int)==5)=S\/((r.b:Int)==5)=U/\((r.b:Int)==1)=S:=by simp;omega
  clear m h j g;rcases v with L|⟨L,e2⟩
  all_goals
   go_enter T,ac;go_wp2_with fail;refine HE.o.mono ?_;rintro e w2 ⟨rfl,x,j⟩;have y:=A (And.intro x j);clear x j;go_wp2;go_end0;exact⟨rfl,y.o.1,y.o.2⟩
 rw[py m];have v:((r.b:Int)==5)=S\/((r.b:Int)==5)=U/\((r.b:Int)==1)=S\/((r.b:Int)==5)=U/\((r.b:Int)==1)=U:=by simp;omega
 rcases K with⟨_,p,h,a,c,u⟩|⟨b,f,pg,q,px,t,N,-,p,h,u,n,n1,n2,n3,n4⟩;rotate_left
 focus
  cases g:f.object;all_goals rw[g]at p h n
  focus
   replace v:((r.b:Int)==5)=U/\((r.b:Int)==1)=U:=by
    by_cases C:r.b=5\/r.b=1
    .exact absurd ⟨h,C⟩ m
    simp;omega
   obtain⟨L,e2⟩:=v
 any_goals(rcases v with- |⟨-,-⟩|⟨-,-⟩)
 all_goals
  clear m p h;go_enter T,ac;go_wp2
  go_still_tail 9,(by kernel_rfl)
  go_wp2_with fail;refine(P.o _ (Y _ w).B0).mono ?_;rintro e w2 ⟨rfl,h,g⟩;have y:=A (And.intro h g);clear h g;go_wp2;go_end0;exact⟨rfl,((Y (λk=>k=o) w).B0.same y.o.1).A6 (iF V.o) λk e=>by omega,y.o.2⟩
def zP(w:X)(o:Nat)(s:ByteArray)(d i m:Nat)(r:Rr)(C:aU w o s d i r m)(h:Bnd r d)(hi:i<=1073741824)(p:∀b f,r.e=b++ [f]->f.object=S->(r.b=5\/r.b=2)->f.c.length=f.a.length/\bK f.a/\f.a.Nodup):
 ag ae 105 #[ah o,Q .u8 125] w λe w'=>rI w o s d i (r.C7 d 125) e w':=by
 obtain⟨F,c3,c2,-,z⟩:=C.O2 h.e;have L:=A (λ(W:X)(P:Keeps (λ_=>False) w W)=>eP W o s d i m r (C.C8 P) hi 120 i i);have R:=A z;have B:=A (λ(b:List RFr)(f:RFr)(l:r.e=b++ [f])(V:r.b≠6)(g:f.object=S->f.c.length=f.a.length/\bK f.a/\f.a.Nodup)=>aG6 w o s d i m r b f C h l V g)
 have j:r.C7 d 125=if r.E4=S/\(r.b=5\/r.b=2)then .on 1 r.L8 else ak 120 0:=by
  unfold ao;simp
 rw[j];clear j C h;by_cases j:r.E4=S/\(r.b=5\/r.b=2)
 .rw[pz j];rcases F with⟨_,g,-,a,-,-⟩|⟨b,f,pg,q,px,t,N,l,g,-,u,n,n1,n2,n3,n4⟩
  .exact absurd (j.1.symm.trans g) (by simp)
  have h:f.object=S:=by simpa[g]using j.1
  have HE:=A (B.o b f l (by omega) (λhh=>p b f l hh j.2));rw[h]at n;have v:((r.b:Int)==5)=S\/((r.b:Int)==5)=U/\((r.b:Int)==2)=S:=by simp;omega
  clear j g l h;rcases v with K|⟨K,e2⟩
  all_goals
   go_enter T,ac;go_wp2_with fail;refine HE.o.mono ?_;rintro e w2 ⟨rfl,x,l⟩;have y:=A (And.intro x l);clear x l;go_wp2;go_end0;exact⟨rfl,y.o.1,y.o.2⟩
 rw[py j];have v:((r.b:Int)==5)=S\/((r.b:Int)==5)=U/\((r.b:Int)==2)=S\/((r.b:Int)==5)=U/\((r.b:Int)==2)=U:=by simp;omega
 rcases F with⟨_,g,x,a,c,u⟩|⟨b,f,pg,q,px,t,N,-,g,x,u,n,n1,n2,n3,n4⟩;rotate_left
 focus
  cases h:f.object;all_goals rw[h]at g x n
  rotate_left
  focus
   replace v:((r.b:Int)==5)=U/\((r.b:Int)==2)=U:=by
    by_cases C:r.b=5\/r.b=2
    .exact absurd ⟨g,C⟩ j
    simp;omega
   obtain⟨K,e2⟩:=v
 any_goals(rcases v with- |⟨-,-⟩|⟨-,-⟩)
 all_goals
  clear j g x;go_enter T,ac;go_wp2
  go_still_tail 9,(by kernel_rfl)
  go_wp2_with fail;refine(L.o _ (Y _ w).B0).mono ?_;rintro e w2 ⟨rfl,h,g⟩;have y:=A (And.intro h g);clear h g;go_wp2;go_end0;exact⟨rfl,((Y (λk=>k=o) w).B0.same y.o.1).A6 (iF R.o) λk e=>by omega,y.o.2⟩
def aKK:lB 170 265 4 64:=⟨underlying170,by decide,by
 have h:(ae.info? 265).map (λi=>(i.zero,i.size,i.bytes))=I (I (.agg #[E U,(),H O,()]),4,64):=by kernel_rfl
 obtain⟨i,c,a,d,b⟩:=info_parts h;exact⟨i,_,c,a,d,b,rfl⟩⟩
def aEi{w':X}{b h g off cap N want:Nat}{o:Bool}{P:ai}{j:List (List ai)}{u:Int}{v:Bool}{x:Nat}{y:ByteArray}{a1 a2:Option Addr}{z B C F:Nat}{dc:List ai}
 (q:w.heap[b]?=I (Z (rdC s d i r.b P r.g r.bytes u v x y (J a1 z B) (J a2 C F) 0 0 0) 172 (0,0)))(a:oF w b P j dc r h)(hN:r.e.length=N)
 (f:aQ 4 265 w' (J (g,off) (N+1) cap) (N+1) (j.flatten++frC o gQ w.heap.size gQ))(K:P.ownBlock=I g\/w.heap.size<=g)
 (L:Keeps (λk=>P.ownBlock=I k) ((w.alloc (D #[] 0)).alloc (Z (frC o gQ w.heap.size gQ).toArray 265)) w')(hw:want≠6):
 ∀W,Keeps (λk=>k=b) w' W->W.heap[b]?=I (Z (rdC s d i want (J (g,off) (N+1) cap) r.g r.bytes u v x y (J a1 z B) (J a2 C F) 0 0 0) 172 (0,0))->
 Below b w W/\∃h,aU W b s d i {r with e:=r.e++ [⟨o,[],[]⟩],b:=want} h:=by
 intro W t R;have V:=au q;have g3:P.ownBlock≠I b:=a.a.ne q (by decide);have hq:Keeps (λ_=>False) w ((w.alloc (D #[] 0)).alloc (Z (frC o gQ w.heap.size gQ).toArray 265)):=((Y _ w).A5 _).A5 _;have g4:w.heap.size<((w.alloc (D #[] 0)).alloc (Z (frC o gQ w.heap.size gQ).toArray 265)).heap.size:=by simp;omega
 have l:Keeps (λk=>P.ownBlock=I k) w w':=(hq.mono λ_ a0=>a0.elim).trans L λk e=>.inl e;have m:Keeps (λk=>P.ownBlock=I k\/k=b) w W:=(l.mono λk e=>.inl e).trans t λk e=>.inl (.inr e);have n:fC w b:=.of q (by decide) (by decide)
 have g5:∀k,P.ownBlock=I k->fC w k:=λk e=>by
  obtain⟨c,p⟩:=a.a.D5 e;exact .of p (by decide) (by decide)
 have p:dY W w.heap.size []:=by
  have h0:=dY.R1 w;have h1:=h0.A0 ((Y (λ_=>False) (w.alloc (D #[] 0))).A5 (Z (frC o gQ w.heap.size gQ).toArray 265)) id;have h2:=h1.A0 L (λe=>by have:=a.a.lt e;omega);exact h2.A0 t (by omega)
 have g6:w.heap.size<W.heap.size:=a7 g4 (bo L.size t.size);have g7:=a.e.le;refine⟨m.A6 (iF V) λk e=>e.elim (a.b k) λe=>by omega,W.heap.size,_,j++ [frC o gQ w.heap.size gQ],u,v,x,y,a1,z,B,a2,C,F,R,Nat.le_refl _,?_,λk e=>?_,?_,λe=>absurd e hw⟩
 .show aQ 4 265 W _ (r.e++ [(⟨o,[],[]⟩:RFr)]).length _;rw[List.length_append,List.length_singleton,hN,dV]
  exact f.A0 t λk e e2=>by
   subst e2;exact f.ne (l.B4 q g3) (by decide) e
 .obtain rfl:g=k:=by simpa[az]using e
  exact K.elim (a.b g) λe=>by omega
 .exact .snoc (a.e.A0 m λk _ _ e=>e.elim (g5 k) λe=>e▸n) o gQ w.heap.size gQ [] ⟨o,[],[]⟩ ⟨rfl,.nil _ _ _,λk e=>(by cases e),p,⟨a.le,g6⟩,.nil _ _ _,λk e=>(by cases e),.nil _ _⟩
def aEj(w:X)(a b c d:ai):∀(j:Nat)(u:ai),[a,b,c,d][j]?=I u->(w.alloc (Z #[a,b,c,d] 265)).cell? ((⟨w.heap.size,0,O⟩:Addr).add j)=I u:=λj u e=>by
 rw[Addr.add_lit,Nat.zero_add];exact(aA (heap_alloc_new w _)).trans (by simpa using e)
def zQ(w:X)(rb:Nat)(s:ByteArray)(d i g5:Nat)(r:Rr)(a3:aU w rb s d i r g5)(h:Bnd r d)(hi:i<=1073741824)(c:UInt8)(hc:c=91\/c=123):
 ag ae 105 #[ah rb,Q .u8 c.toNat] w λe w'=>rI w rb s d i (r.C7 d c) e w':=by
 obtain⟨ht,-,-,-,g9⟩:=a3.O2 h.e;have HM:=A (sH w rb s d i g5 r a3 hi h.h h.e h.g);have HL:=A g9
 have l:r.C7 d c=match r.D4 d with
  | .error no=>ak no 0
  | .ok r=>.on 1 {r with e:=r.e++ [⟨c==123,[],[]⟩],b:=if c=123 then 2 else 1}:=by
  unfold ao Rr.E6;rw[pz hc];cases r.D4 d<;>rfl
 rw[l];cases b:r.D4 d with
 | error no=>
  rw[b]at HM;clear l b a3 h;rcases hc with rfl|rfl
  all_goals
   rcases ht with⟨_,_,_,a,c,v⟩|⟨g6,f,pg,F,px,K,N,_,_,_,v,g7,n1,n2,n3,n4⟩
   all_goals
    go_enter T,ac;go_wp2_with fail;refine HM.o.mono ?_;rintro e w1 ⟨t,rfl,j⟩;have B:=A (And.intro t j);clear t j;go_wp2;go_end0;exact⟨rfl,B.o.1.A6 (iF HL.o) λk e=>by omega,B.o.2⟩
 | ok r2=>
  have j:=aBC h b;rw[b]at HM;have g8:=A j;clear l b a3 h j;rcases hc with rfl|rfl
  .rcases ht with⟨_,_,_,a,c,v⟩|⟨g6,f,pg,F,px,K,N,_,_,_,v,g7,n1,n2,n3,n4⟩
   all_goals
    go_enter T,ac;go_wp2_with fail;refine HM.o.mono ?_;rintro e w1 ⟨t,rfl,L⟩;have HK:=A (t.A6 (iF HL.o) λk e=>by omega);obtain⟨P,h0,so,fl,bi,tx,a1,n1,m1,a2,n2,m2,hb,m⟩:=L;obtain⟨pa,R,rfl⟩:=m.a.A8;have x:=g8.o.e;obtain⟨a0,C⟩:∃a0,r2.e.length=a0:=⟨_,rfl⟩;have b:=m.a;have j:=m;rw[C]at x b j;have h:=hb;rw[C]at h;obtain⟨⟨-,-,-,-,q4,-,-,-⟩,_,-⟩:=dF h;have h1:(bk 263 O).run ae w1=.ok (H (I w1.heap.size)) (w1.alloc (D #[] 0)):=(by kernel_rfl);have V:=((Y (λ_=>False) w1).A5 (D #[] 0)).A5 (Z #[E U,(),H (I w1.heap.size),()] 265);have W:=A (b.A0 V λ_ _=>id);have g2:=A (aEj (w1.alloc (D #[] 0)) (E U) (J O 0 0) (H (I w1.heap.size)) (J O 0 0));have HQ:=A (λ(w':X)(t:Keeps (λk=>(J pa a0 R).ownBlock=I k) ((w1.alloc (D #[] 0)).alloc (Z #[E U,(),H (I w1.heap.size),()] 265)) w')=>t.B4 (V.B4 h id) (b.ne h (by decide)));have y:=A (show(a0+1)*64<=140737488355328/\a0+1<=ar from⟨by omega,by unfold ar;omega⟩);have g3:=A (λ(w':X)(g off cap:Nat)=>aEi (w':=w') (g:=g) (off:=off) (cap:=cap) (want:=1) (o:=U) h j C);clear t hb m j C x b V h;go_wp2_with (at_builtin;refine bC aKK rfl _ _ rfl rfl W.o ⟨w1.heap.size+1,0,O⟩ 1 1 [E U,J O 0 0,H (I w1.heap.size),J O 0 0] (by rfl) rfl ?_ ?_ (by decide) y.o.1 y.o.2 ?_)
    .have:=g2.o;simpa using this
    .intro u hu;simp at hu;rcases hu with rfl|rfl|rfl|rfl<;>rfl
    intro g off cap w' n z q;have l:=HQ.o w' q;obtain⟨⟨-,-,-,t3,t4,-,-,-⟩,_,tf⟩:=dF l;have g4:=A l;have B:=A (And.intro n (And.intro z q));clear n z q l;go_wp2;go_end0;have p:=g3.o w' g off cap B.o.1 (B.o.2.1.imp id λa3=>by have:=a3.1;omega) B.o.2.2 (by decide) _ (((Y (λk=>k=rb) w').own 4 _).own 3 _) (aB (o:=3) (aB (o:=4) g4.o _) _);exact⟨rfl,HK.o.trans p.1,p.2⟩
  .rcases ht with⟨_,_,_,a,c,v⟩|⟨g6,f,pg,F,px,K,N,_,_,_,v,g7,n1,n2,n3,n4⟩
   all_goals
    go_enter T,ac;go_wp2_with fail;refine HM.o.mono ?_;rintro e w1 ⟨t,rfl,L⟩;have HK:=A (t.A6 (iF HL.o) λk e=>by omega);obtain⟨P,h0,so,fl,bi,tx,a1,n1,m1,a2,n2,m2,hb,m⟩:=L;obtain⟨pa,R,rfl⟩:=m.a.A8;have x:=g8.o.e;obtain⟨a0,C⟩:∃a0,r2.e.length=a0:=⟨_,rfl⟩;have b:=m.a;have j:=m;rw[C]at x b j;have h:=hb;rw[C]at h;obtain⟨⟨-,-,-,-,q4,-,-,-⟩,_,-⟩:=dF h;have h1:(bk 263 O).run ae w1=.ok (H (I w1.heap.size)) (w1.alloc (D #[] 0)):=(by kernel_rfl);have V:=((Y (λ_=>False) w1).A5 (D #[] 0)).A5 (Z #[E S,(),H (I w1.heap.size),()] 265);have W:=A (b.A0 V λ_ _=>id);have g2:=A (aEj (w1.alloc (D #[] 0)) (E S) (J O 0 0) (H (I w1.heap.size)) (J O 0 0));have HQ:=A (λ(w':X)(t:Keeps (λk=>(J pa a0 R).ownBlock=I k) ((w1.alloc (D #[] 0)).alloc (Z #[E S,(),H (I w1.heap.size),()] 265)) w')=>t.B4 (V.B4 h id) (b.ne h (by decide)));have y:=A (show(a0+1)*64<=140737488355328/\a0+1<=ar from⟨by omega,by unfold ar;omega⟩);have g3:=A (λ(w':X)(g off cap:Nat)=>aEi (w':=w') (g:=g) (off:=off) (cap:=cap) (want:=2) (o:=S) h j C);clear t hb m j C x b V h;go_wp2_with (at_builtin;refine bC aKK rfl _ _ rfl rfl W.o ⟨w1.heap.size+1,0,O⟩ 1 1 [E S,J O 0 0,H (I w1.heap.size),J O 0 0] (by rfl) rfl ?_ ?_ (by decide) y.o.1 y.o.2 ?_)
    .have:=g2.o;simpa using this
    .intro u hu;simp at hu;rcases hu with rfl|rfl|rfl|rfl<;>rfl
    intro g off cap w' n z q;have l:=HQ.o w' q;obtain⟨⟨-,-,-,t3,t4,-,-,-⟩,_,tf⟩:=dF l;have g4:=A l;have B:=A (And.intro n (And.intro z q));clear n z q l;go_wp2;go_end0;have p:=g3.o w' g off cap B.o.1 (B.o.2.1.imp id λa3=>by have:=a3.1;omega) B.o.2.2 (by decide) _ ((((Y (λk=>k=rb) w').own 4 _).own 3 (Q af 1)).own 3 _) (aB (o:=3) (aB (o:=3) (aB (o:=4) g4.o _) (Q af 1)) _);exact⟨rfl,HK.o.trans p.1,p.2⟩
