/-
  The program, one part of its walk. Conditions: none.
-/
import Derived.Test.YtakkmiomhackiaaGreatDoorBf22
set_option linter.all false
set_option maxRecDepth 100000
set_option maxHeartbeats 16000000
open Go.Proofs.Tryz
open Bool renaming false->E,true->X
open Go renaming Calls->ai,Value->ar,World->U,info_parts->bc,lt_of_block->av,maxLen->au
open Go.Instr renaming makeMap->bh
open Go.IntKind renaming i64->ah,wrap_i64->bj
open Go.Obj renaming cells->af,map->Q
open Go.Proofs.Tryz renaming func105->Y,ntmps105->Z,prog->ag
open Go.Proofs.YtakkmiomhackiaaGreatDoor.Keeps renaming A8->J
open Go.Proofs.YtakkmiomhackiaaGreatDoor.Ra renaming bad->ak
open Go.Proofs.YtakkmiomhackiaaGreatDoor.Rr renaming J6->ao,L0->ba,M9->aw
open Go.Value renaming bool->L,int->F,map->ae,pointer->aj,slice->H
open Nat renaming le_of_lt->D
open Option renaming none->O,some->I
open Or renaming inl->l,inr->ac
namespace Go.Proofs.YtakkmiomhackiaaGreatDoor
open Go.RowKit
variable {w:U}{d i:Nat}{s:ByteArray}{r:Rr}

def rI(w:U)(a:Nat)(s:ByteArray)(d i:Nat)(R:Ra)(e:Ending)(w':U):Prop:=e=.returned (.tuple #[])/\Below a w w'/\match R with
 | .on _ r=>∃b,aU w' a s d i r b
 | .bad no _=>qB w' a no i
 | .cut=>False
def aMu(w:U)(i:Nat)(r:Rr):Prop:=(r.e= []/\r.M9=E/\r.L0=E/\∃a c,w.cell? ⟨i,4,O⟩=I (H a 0 c))\/
 ∃g f h b e d N,r.e=g++ [f]/\r.M9=f.object/\r.L0=!f.object/\w.cell? ⟨i,4,O⟩=I (H (I ⟨h,b,O⟩) N d)/\w.cell? ⟨h,b+e*4,O⟩=I (L f.object)/\(0:Int)<(N:Int)/\ah.wrap ((N:Int)-1)=(e:Int)/\(0:Int)<=(e:Int)/\(e:Int)<(N:Int)
def aU.Q0{k t:Nat}(V:aU w k s d i r t)(W:r.e.length<=512):aMu w k r/\w.cell? ⟨k,3,O⟩=I (F ah r.a)/\w.cell? ⟨k,2,O⟩=I (F ah i)/\(∀o,w.frozen? ⟨k,o,O⟩=E)/\k<w.heap.size:=by
 obtain⟨P,B,so,fl,bi,tx,a1,n1,m1,a2,n2,m2,m,h⟩:=V;refine⟨?_,aA m,aA m,free_at m,av m⟩;rcases List.eq_nil_or_concat r.e with e|⟨b,f,e⟩
 .obtain⟨a,c,rfl⟩:=h.a.A7;refine l ⟨e,by unfold aw;rw[e];rfl,by unfold ba;rw[e];rfl,a,c,?_⟩;rw[aA m,e];rfl
 .rw[List.concat_eq_append]at e;obtain⟨C,G,o,K,mm,a0,N,rfl,n,R⟩:=h.e.P6 e;have v:r.e.length=b.length+1:=by rw[e];simp
  have g:=h.a;rw[v]at g;obtain⟨S,p,q,rfl⟩:=g.some;obtain⟨x,y⟩:=n.O4;have z:C.flatten.length=b.length*4:=by rw[oE y,x]
  have T:=g.B3 (j:=b.length*4) (u:=L o) (by rw[dV,List.getElem?_append_right (by omega),z,show b.length*4-b.length*4=0 by omega];rfl);refine ac ⟨b,f,S,p,b.length,q,b.length+1,e,by unfold aw;rw[e];simp,by unfold ba;rw[e];simp,aA m,by rw[T,R.i],by omega,by rw[bj];omega,by omega,by omega⟩
def aU.R7{c b:Nat}(h:aU w c s d i r b)(n:Nat)(z:Int)(q:z=n)(x:n≠6):aU (w.setCell ⟨c,3,O⟩ (F ah z)) c s d i {r with a:=n} b:=by
 subst q;obtain⟨P,f,m,u,t,B,a1,y,v,a2,p,j,g,a⟩:=h;have a:=a.N9 g ((J (λk=>k=c) w).own 3 (F ah n));exact⟨P,f,m,u,t,B,a1,y,v,a2,p,j,aB (o:=3) g _,a.le,a.a,a.b,a.e,λe=>absurd e x⟩
def aEf(w:U)(j:Nat)(s:ByteArray)(d i b:Nat)(r:Rr)(n:aU w j s d i r b)(h:Bnd r d)(hi:i<=1073741824):
 ai ag 105 #[aj j,F .u8 58] w λe w'=>rI w j s d i (r.J6 d 58) e w':=by
 obtain⟨t,V,c2,cf,o⟩:=n.Q0 h.e;have y:=A (λ(W:U)(z:Keeps (λ_=>False) w W)=>eP W j s d i b r (n.C3 z) hi 120 i i);have u:=A o;have B:=A (n.R7 0 0 rfl (by decide))
 have m:r.J6 d 58=if r.a=4 then .on 1 {r with a:=0}else ak 120 0:=by
  unfold ao
  by_cases g:r.a=4
  .simp[g]
  .simp[g]
 rw[m];clear m n h
 by_cases g:r.a=4
 .rw[if_pos g];have C:((r.a:Int)==4)=X:=by simp;omega
  clear g;rcases t with⟨_,-,-,a,c,h⟩|⟨p,f,G,m,K,n,N,-,-,-,h,q,P,R,S,T⟩
  all_goals
   go_enter Y,Z;go_wp2
   go_end0
   exact⟨rfl,((J (λk=>k=j) w).own 3 _).C6 (D u.o) λk e=>by omega,b,B.o⟩
 .rw[if_neg g];have C:((r.a:Int)==4)=E:=by simp;omega
  clear g;rcases t with⟨_,-,-,a,c,h⟩|⟨p,f,G,m,K,n,N,-,-,-,h,q,P,R,S,T⟩
  all_goals
   go_enter Y,Z;go_wp2
   go_still_tail 9,(by kernel_rfl)
   go_wp2_with fail;refine(y.o _ (J _ w).B0).mono ?_;rintro e w2 ⟨rfl,v,g⟩;have x:=A (And.intro v g);clear v g;go_wp2
   go_end0
   exact⟨rfl,((J (λk=>k=j) w).B0.same x.o.1).C6 (D u.o) λk e=>by omega,x.o.2⟩
def aEg(w:U)(j:Nat)(s:ByteArray)(d i g:Nat)(r:Rr)(y:aU w j s d i r g)(b:Bnd r d)(hi:i<=1073741824):
 ai ag 105 #[aj j,F .u8 44] w λe w'=>rI w j s d i (r.J6 d 44) e w':=by
 obtain⟨K,c3,c2,cf,B⟩:=y.Q0 b.e;have P:=A (λ(W:U)(R:Keeps (λ_=>False) w W)=>eP W j s d i g r (y.C3 R) hi 120 i i);have z:=A B;have S:=A (y.R7 0 0 rfl (by decide));have C:=A (y.R7 3 3 rfl (by decide))
 have h:r.J6 d 44=if r.a=5/\r.M9=X then .on 1 {r with a:=3}else if r.a=5/\r.L0=X then .on 1 {r with a:=0}else ak 120 0:=by
  unfold ao;simp
 rw[h];clear h y b
 by_cases m:r.a=5
 .have T:((r.a:Int)==5)=X:=by simp;omega
  rcases K with⟨_,h,n,a,c,o⟩|⟨G,f,V,q,px,t,N,-,h,n,o,p,n1,n2,n3,n4⟩
  .rw[if_neg (by rw[h];simp),if_neg (by rw[n];simp)];clear m h n;go_enter Y,Z;go_wp2
   go_still_tail 9,(by kernel_rfl)
   go_wp2_with fail;refine(P.o _ (J _ w).B0).mono ?_;rintro e w2 ⟨rfl,u,b⟩;have v:=A (And.intro u b);clear u b;go_wp2
   go_end0
   exact⟨rfl,((J (λk=>k=j) w).B0.same v.o.1).C6 (D z.o) λk e=>by omega,v.o.2⟩
  .cases x:f.object with
   | true=>
    rw[x]at h n p;rw[if_pos ⟨m,h⟩];clear m h n;go_enter Y,Z;go_wp2
    go_end0
    exact⟨rfl,((J (λk=>k=j) w).own 3 _).C6 (D z.o) λk e=>by omega,g,C.o⟩
   | false=>
    rw[x]at h n p;rw[if_neg (by rw[h];simp),if_pos ⟨m,n⟩];clear m h n;go_enter Y,Z;go_wp2
    go_end0
    exact⟨rfl,((J (λk=>k=j) w).own 3 _).C6 (D z.o) λk e=>by omega,g,S.o⟩
 .have T:((r.a:Int)==5)=E:=by simp;omega
  rw[if_neg (λy=>m y.1),if_neg (λy=>m y.1)];clear m;rcases K with⟨_,-,-,a,c,o⟩|⟨G,f,V,q,px,t,N,-,-,-,o,p,n1,n2,n3,n4⟩
  all_goals
   go_enter Y,Z;go_wp2
   go_still_tail 9,(by kernel_rfl)
   go_wp2_with fail;refine(P.o _ (J _ w).B0).mono ?_;rintro e w2 ⟨rfl,u,b⟩;have v:=A (And.intro u b);clear u b;go_wp2
   go_end0
   exact⟨rfl,((J (λk=>k=j) w).B0.same v.o.1).C6 (D z.o) λk e=>by omega,v.o.2⟩
def aEh(w:U)(q:Nat)(s:ByteArray)(d i x:Nat)(r:Rr)(V:aU w q s d i r x)(b:Bnd r d)(hi:i<=1073741824)(g4:∀h f,r.e=h++ [f]->f.object=X->(r.a=5\/r.a=2)->f.b.length=f.a.length/\bK f.a/\f.a.Nodup):
 ai ag 105 #[aj q,F .u8 93] w λe w'=>rI w q s d i (r.J6 d 93) e w':=by
 obtain⟨ht,c3,c2,-,C⟩:=V.Q0 b.e;have G:=A (λ(W:U)(hW:Keeps (λ_=>False) w W)=>eP W q s d i x r (V.C3 hW) hi 120 i i);have K:=A C;have y:=A (λ(h:List RFr)(f:RFr)(t:r.e=h++ [f])(h6:r.a≠6)(u:f.object=X->f.b.length=f.a.length/\bK f.a/\f.a.Nodup)=>aG6 w q s d i x r h f V b t h6 u)
 have g:r.J6 d 93=if r.L0=X/\(r.a=5\/r.a=1)then .on 1 r.P3 else ak 120 0:=by
  unfold ao;simp
 rw[g];clear g V b
 have P:r.a=5/\((r.a:Int)==5)=X\/(r.a=1/\((r.a:Int)==5)=E/\((r.a:Int)==1)=X)\/(¬r.a=5/\¬r.a=1/\((r.a:Int)==5)=E/\((r.a:Int)==1)=E):=by
  by_cases n:r.a=5
  .exact l ⟨n,by simp;omega⟩
  .by_cases z:r.a=1
   .exact ac (l ⟨z,by simp;omega,by simp;omega⟩)
   .exact ac (ac ⟨n,z,by simp;omega,by simp;omega⟩)
 rcases ht with⟨_,-,m,a,c,R⟩|⟨h,f,pg,g5,px,g6,N,t,u,m,R,B,n1,n2,n3,n4⟩
 .rw[if_neg (by rw[m];simp)];clear m;rcases P with⟨-,-⟩|⟨-,-,-⟩|⟨-,-,-,-⟩
  all_goals
   go_enter Y,Z;go_wp2
   go_still_tail 9,(by kernel_rfl)
   go_wp2_with fail;refine(G.o _ (J _ w).B0).mono ?_;rintro e w2 ⟨rfl,v,b⟩;have j:=A (And.intro v b);clear v b;go_wp2
   go_end0
   exact⟨rfl,((J (λk=>k=q) w).B0.same j.o.1).C6 (D K.o) λk e=>by omega,j.o.2⟩
 .cases p:f.object with
  | true=>
   rw[p]at u m B;rw[if_neg (by rw[m];simp)];clear u m t;rcases P with⟨-,-⟩|⟨-,-,-⟩|⟨-,-,-,-⟩
   all_goals
    go_enter Y,Z;go_wp2
    go_still_tail 9,(by kernel_rfl)
    go_wp2_with fail;refine(G.o _ (J _ w).B0).mono ?_;rintro e w2 ⟨rfl,v,b⟩;have j:=A (And.intro v b);clear v b;go_wp2
    go_end0
    exact⟨rfl,((J (λk=>k=q) w).B0.same j.o.1).C6 (D K.o) λk e=>by omega,j.o.2⟩
  | false=>
   rw[p]at u m B;rcases P with⟨n,e1⟩|⟨n,e1,e2⟩|⟨n,z,e1,e2⟩
   .rw[if_pos ⟨m,l n⟩];have S:=A (y.o h f t (by omega) (λT=>absurd T (by rw[p];simp)));clear n u m t;go_enter Y,Z;go_wp2_with fail;refine S.o.mono ?_;rintro e w2 ⟨rfl,o,g⟩;have j:=A (And.intro o g);clear o g;go_wp2
    go_end0
    exact⟨rfl,j.o.1,j.o.2⟩
   .rw[if_pos ⟨m,ac n⟩];have S:=A (y.o h f t (by omega) (λT=>absurd T (by rw[p];simp)));clear n u m t;go_enter Y,Z;go_wp2_with fail;refine S.o.mono ?_;rintro e w2 ⟨rfl,o,g⟩;have j:=A (And.intro o g);clear o g;go_wp2
    go_end0
    exact⟨rfl,j.o.1,j.o.2⟩
   .rw[if_neg (λV=>V.2.elim n z)];clear n z u m t;go_enter Y,Z;go_wp2
    go_still_tail 9,(by kernel_rfl)
    go_wp2_with fail;refine(G.o _ (J _ w).B0).mono ?_;rintro e w2 ⟨rfl,v,b⟩;have j:=A (And.intro v b);clear v b;go_wp2
    go_end0
    exact⟨rfl,((J (λk=>k=q) w).B0.same j.o.1).C6 (D K.o) λk e=>by omega,j.o.2⟩
def zP(w:U)(q:Nat)(s:ByteArray)(d i v:Nat)(r:Rr)(a0:aU w q s d i r v)(g:Bnd r d)(hi:i<=1073741824)(t:∀b f,r.e=b++ [f]->f.object=X->(r.a=5\/r.a=2)->f.b.length=f.a.length/\bK f.a/\f.a.Nodup):
 ai ag 105 #[aj q,F .u8 125] w λe w'=>rI w q s d i (r.J6 d 125) e w':=by
 obtain⟨ht,c3,c2,-,G⟩:=a0.Q0 g.e;have K:=A (λ(W:U)(hW:Keeps (λ_=>False) w W)=>eP W q s d i v r (a0.C3 hW) hi 120 i i);have P:=A G;have y:=A (λ(b:List RFr)(f:RFr)(p:r.e=b++ [f])(h6:r.a≠6)(j:f.object=X->f.b.length=f.a.length/\bK f.a/\f.a.Nodup)=>aG6 w q s d i v r b f a0 g p h6 j)
 have h:r.J6 d 125=if r.M9=X/\(r.a=5\/r.a=2)then .on 1 r.P3 else ak 120 0:=by
  unfold ao;simp
 rw[h];clear h a0 g
 have R:r.a=5/\((r.a:Int)==5)=X\/(r.a=2/\((r.a:Int)==5)=E/\((r.a:Int)==2)=X)\/(¬r.a=5/\¬r.a=2/\((r.a:Int)==5)=E/\((r.a:Int)==2)=E):=by
  by_cases n:r.a=5
  .exact l ⟨n,by simp;omega⟩
  .by_cases z:r.a=2
   .exact ac (l ⟨z,by simp;omega,by simp;omega⟩)
   .exact ac (ac ⟨n,z,by simp;omega,by simp;omega⟩)
 rcases ht with⟨_,j,-,a,c,S⟩|⟨b,f,pg,g4,px,g5,N,p,j,x,S,B,n1,n2,n3,n4⟩
 .rw[if_neg (by rw[j];simp)];clear j;rcases R with⟨-,-⟩|⟨-,-,-⟩|⟨-,-,-,-⟩
  all_goals
   go_enter Y,Z;go_wp2
   go_still_tail 9,(by kernel_rfl)
   go_wp2_with fail;refine(K.o _ (J _ w).B0).mono ?_;rintro e w2 ⟨rfl,u,g⟩;have m:=A (And.intro u g);clear u g;go_wp2
   go_end0
   exact⟨rfl,((J (λk=>k=q) w).B0.same m.o.1).C6 (D P.o) λk e=>by omega,m.o.2⟩
 .cases C:f.object with
  | false=>
   rw[C]at j x B;rw[if_neg (by rw[j];simp)];clear j x p;rcases R with⟨-,-⟩|⟨-,-,-⟩|⟨-,-,-,-⟩
   all_goals
    go_enter Y,Z;go_wp2
    go_still_tail 9,(by kernel_rfl)
    go_wp2_with fail;refine(K.o _ (J _ w).B0).mono ?_;rintro e w2 ⟨rfl,u,g⟩;have m:=A (And.intro u g);clear u g;go_wp2
    go_end0
    exact⟨rfl,((J (λk=>k=q) w).B0.same m.o.1).C6 (D P.o) λk e=>by omega,m.o.2⟩
  | true=>
   rw[C]at j x B;rcases R with⟨n,e1⟩|⟨n,e1,e2⟩|⟨n,z,e1,e2⟩
   .rw[if_pos ⟨j,l n⟩];have T:=A (y.o b f p (by omega) (λV=>t b f p V (l n)));clear n j x p;go_enter Y,Z;go_wp2_with fail;refine T.o.mono ?_;rintro e w2 ⟨rfl,o,h⟩;have m:=A (And.intro o h);clear o h;go_wp2
    go_end0
    exact⟨rfl,m.o.1,m.o.2⟩
   .rw[if_pos ⟨j,ac n⟩];have T:=A (y.o b f p (by omega) (λV=>t b f p V (ac n)));clear n j x p;go_enter Y,Z;go_wp2_with fail;refine T.o.mono ?_;rintro e w2 ⟨rfl,o,h⟩;have m:=A (And.intro o h);clear o h;go_wp2
    go_end0
    exact⟨rfl,m.o.1,m.o.2⟩
   .rw[if_neg (λa0=>a0.2.elim n z)];clear n z j x p;go_enter Y,Z;go_wp2
    go_still_tail 9,(by kernel_rfl)
    go_wp2_with fail;refine(K.o _ (J _ w).B0).mono ?_;rintro e w2 ⟨rfl,u,g⟩;have m:=A (And.intro u g);clear u g;go_wp2
    go_end0
    exact⟨rfl,((J (λk=>k=q) w).B0.same m.o.1).C6 (D P.o) λk e=>by omega,m.o.2⟩
def aKK:lB 170 265 4 64:=⟨underlying170,by decide,by
 have h:(ag.info? 265).map (λi=>(i.zero,i.size,i.bytes))=I (I (.agg #[L E,(),ae O,()]),4,64):=by kernel_rfl
 obtain⟨i,c,a,d,b⟩:=bc h;exact⟨i,_,c,a,d,b,rfl⟩⟩
def aEi{w':U}{b h g off cap N want:Nat}{o:Bool}{P:ar}{j:List (List ar)}{v:Int}{x:Bool}{y:Nat}{z:ByteArray}{a1 a2:Option Addr}{B C G K:Nat}{dc:List ar}
 (t:w.heap[b]?=I (af (rdC s d i r.a P r.g r.bytes v x y z (H a1 B C) (H a2 G K) 0 0 0) 172 (0,0)))(a:oF w b P j dc r h)(hN:r.e.length=N)
 (f:aQ 4 265 w' (H (g,off) (N+1) cap) (N+1) (j.flatten++frC o gQ w.heap.size gQ))(R:P.ownBlock=I g\/w.heap.size<=g)
 (S:Keeps (λk=>P.ownBlock=I k) ((w.alloc (Q #[] 0)).alloc (af (frC o gQ w.heap.size gQ).toArray 265)) w')(hw:want≠6):
 ∀W,Keeps (λk=>k=b) w' W->W.heap[b]?=I (af (rdC s d i want (H (g,off) (N+1) cap) r.g r.bytes v x y z (H a1 B C) (H a2 G K) 0 0 0) 172 (0,0))->
 Below b w W/\∃h,aU W b s d i {r with e:=r.e++ [⟨o,[],[]⟩],a:=want} h:=by
 intro W u T;have V:=av t;have g3:P.ownBlock≠I b:=a.a.ne t (by decide);have hq:Keeps (λ_=>False) w ((w.alloc (Q #[] 0)).alloc (af (frC o gQ w.heap.size gQ).toArray 265)):=((J _ w).A6 _).A6 _;have g4:w.heap.size<((w.alloc (Q #[] 0)).alloc (af (frC o gQ w.heap.size gQ).toArray 265)).heap.size:=by simp;omega
 have m:Keeps (λk=>P.ownBlock=I k) w w':=(hq.mono λ_ a0=>a0.elim).trans S λk e=>l e
 have n:Keeps (λk=>P.ownBlock=I k\/k=b) w W:=(m.mono λk e=>l e).trans u λk e=>l (ac e)
 have p:fC w b:=.of t (by decide) (by decide)
 have g5:∀k,P.ownBlock=I k->fC w k:=λk e=>by
  obtain⟨c,q⟩:=a.a.E0 e;exact .of q (by decide) (by decide)
 have q:dY W w.heap.size []:=by
  have h0:=dY.N0 w;have h1:=h0.A2 ((J (λ_=>False) (w.alloc (Q #[] 0))).A6 (af (frC o gQ w.heap.size gQ).toArray 265)) id;have h2:=h1.A2 S (λe=>by have:=a.a.lt e;omega);exact h2.A2 u (by omega)
 have g6:w.heap.size<W.heap.size:=Nat.lt_of_lt_of_le g4 (Nat.le_trans S.size u.size);have g7:=a.e.le;refine⟨n.C6 (D V) λk e=>e.elim (a.b k) λe=>by omega,W.heap.size,_,j++ [frC o gQ w.heap.size gQ],v,x,y,z,a1,B,C,a2,G,K,T,Nat.le_refl _,?_,λk e=>?_,?_,λe=>absurd e hw⟩
 .show aQ 4 265 W _ (r.e++ [(⟨o,[],[]⟩:RFr)]).length _
  rw[List.length_append,List.length_singleton,hN,dV]
  exact f.A2 u λk e e2=>by
   subst e2;exact f.ne (m.B7 t g3) (by decide) e
 .obtain rfl:g=k:=by simpa[Value.ownBlock]using e
  exact R.elim (a.b g) λe=>by omega
 .exact .snoc (a.e.A2 n λk _ _ e=>e.elim (g5 k) λe=>e▸p) o gQ w.heap.size gQ [] ⟨o,[],[]⟩ ⟨rfl,.nil _ _ _,λk e=>(by cases e),q,⟨a.le,g6⟩,.nil _ _ _,λk e=>(by cases e),.nil _ _⟩
def aEj(w:U)(a b c d:ar):∀(j:Nat)(u:ar),[a,b,c,d][j]?=I u->(w.alloc (af #[a,b,c,d] 265)).cell? ((⟨w.heap.size,0,O⟩:Addr).add j)=I u:=λj u e=>by
 rw[Addr.add_lit,Nat.zero_add];exact(aA (heap_alloc_new w _)).trans (by simpa using e)
def zQ(w:U)(rb:Nat)(s:ByteArray)(d i g5:Nat)(r:Rr)(a3:aU w rb s d i r g5)(h:Bnd r d)(hi:i<=1073741824)(c:UInt8)(hc:c=91\/c=123):
 ai ag 105 #[aj rb,F .u8 c.toNat] w λe w'=>rI w rb s d i (r.J6 d c) e w':=by
 obtain⟨ht,-,-,-,g9⟩:=a3.Q0 h.e;have HM:=A (sH w rb s d i g5 r a3 hi h.h h.e h.g);have HL:=A g9
 have m:r.J6 d c=match r.B9 d with
  | .error no=>ak no 0
  | .ok r=>.on 1 {r with e:=r.e++ [⟨c==123,[],[]⟩],a:=if c=123 then 2 else 1}:=by
  unfold ao Rr.I4;rw[if_pos hc];cases r.B9 d<;>rfl
 rw[m];cases b:r.B9 d with
 | error no=>
  rw[b]at HM;clear m b a3 h;rcases hc with rfl|rfl
  all_goals
   rcases ht with⟨_,_,_,a,c,x⟩|⟨g6,f,pg,K,px,R,N,_,_,_,x,g7,n1,n2,n3,n4⟩
   all_goals
    go_enter Y,Z;go_wp2_with fail;refine HM.o.mono ?_;rintro e w1 ⟨v,rfl,j⟩;have C:=A (And.intro v j);clear v j;go_wp2
    go_end0
    exact⟨rfl,C.o.1.C6 (D HL.o) λk e=>by omega,C.o.2⟩
 | ok r2=>
  have j:=aBC h b;rw[b]at HM;have g8:=A j;clear m b a3 h j;rcases hc with rfl|rfl
  .rcases ht with⟨_,_,_,a,c,x⟩|⟨g6,f,pg,K,px,R,N,_,_,_,x,g7,n1,n2,n3,n4⟩
   all_goals
    go_enter Y,Z;go_wp2_with fail;refine HM.o.mono ?_;rintro e w1 ⟨v,rfl,S⟩;have HK:=A (v.C6 (D HL.o) λk e=>by omega);obtain⟨P,h0,so,fl,bi,tx,a1,n1,m1,a2,n2,m2,hb,n⟩:=S;obtain⟨pa,T,rfl⟩:=n.a.A7;have y:=g8.o.e;obtain⟨a0,G⟩:∃a0,r2.e.length=a0:=⟨_,rfl⟩;have b:=n.a;have j:=n;rw[G]at y b j;have h:=hb;rw[G]at h;obtain⟨⟨-,-,-,-,q4,-,-,-⟩,_,-⟩:=dF h;have h1:(bh 263 O).run ag w1=.ok (ae (I w1.heap.size)) (w1.alloc (Q #[] 0)):=by kernel_rfl
    have V:=((J (λ_=>False) w1).A6 (Q #[] 0)).A6 (af #[L E,(),ae (I w1.heap.size),()] 265);have W:=A (b.A2 V λ_ _=>id);have g2:=A (aEj (w1.alloc (Q #[] 0)) (L E) (H O 0 0) (ae (I w1.heap.size)) (H O 0 0));have HQ:=A (λ(w':U)(v:Keeps (λk=>(H pa a0 T).ownBlock=I k) ((w1.alloc (Q #[] 0)).alloc (af #[L E,(),ae (I w1.heap.size),()] 265)) w')=>v.B7 (V.B7 h id) (b.ne h (by decide)));have z:=A (show(a0+1)*64<=140737488355328/\a0+1<=au from⟨by omega,by unfold au;omega⟩);have g3:=A (λ(w':U)(g off cap:Nat)=>aEi (w':=w') (g:=g) (off:=off) (cap:=cap) (want:=1) (o:=E) h j G);clear v hb n j G y b V h
    go_wp2_with (at_builtin;refine bC aKK rfl _ _ rfl rfl W.o ⟨w1.heap.size+1,0,O⟩ 1 1 [L E,H O 0 0,ae (I w1.heap.size),H O 0 0] (by rfl) rfl ?_ ?_ (by decide) z.o.1 z.o.2 ?_)
    .have:=g2.o
     simpa using this
    .intro u hu;simp at hu;rcases hu with rfl|rfl|rfl|rfl<;>rfl
    intro g off cap w' p B t;have m:=HQ.o w' t;obtain⟨⟨-,-,-,t3,t4,-,-,-⟩,_,tf⟩:=dF m;have g4:=A m;have C:=A (And.intro p (And.intro B t));clear p B t m;go_wp2
    go_end0
    have q:=g3.o w' g off cap C.o.1 (C.o.2.1.imp id λa3=>by have:=a3.1;omega) C.o.2.2 (by decide) _ (((J (λk=>k=rb) w').own 4 _).own 3 _) (aB (o:=3) (aB (o:=4) g4.o _) _);exact⟨rfl,HK.o.trans q.1,q.2⟩
  .rcases ht with⟨_,_,_,a,c,x⟩|⟨g6,f,pg,K,px,R,N,_,_,_,x,g7,n1,n2,n3,n4⟩
   all_goals
    go_enter Y,Z;go_wp2_with fail;refine HM.o.mono ?_;rintro e w1 ⟨v,rfl,S⟩;have HK:=A (v.C6 (D HL.o) λk e=>by omega);obtain⟨P,h0,so,fl,bi,tx,a1,n1,m1,a2,n2,m2,hb,n⟩:=S;obtain⟨pa,T,rfl⟩:=n.a.A7;have y:=g8.o.e;obtain⟨a0,G⟩:∃a0,r2.e.length=a0:=⟨_,rfl⟩;have b:=n.a;have j:=n;rw[G]at y b j;have h:=hb;rw[G]at h;obtain⟨⟨-,-,-,-,q4,-,-,-⟩,_,-⟩:=dF h;have h1:(bh 263 O).run ag w1=.ok (ae (I w1.heap.size)) (w1.alloc (Q #[] 0)):=by kernel_rfl
    have V:=((J (λ_=>False) w1).A6 (Q #[] 0)).A6 (af #[L X,(),ae (I w1.heap.size),()] 265);have W:=A (b.A2 V λ_ _=>id);have g2:=A (aEj (w1.alloc (Q #[] 0)) (L X) (H O 0 0) (ae (I w1.heap.size)) (H O 0 0));have HQ:=A (λ(w':U)(v:Keeps (λk=>(H pa a0 T).ownBlock=I k) ((w1.alloc (Q #[] 0)).alloc (af #[L X,(),ae (I w1.heap.size),()] 265)) w')=>v.B7 (V.B7 h id) (b.ne h (by decide)));have z:=A (show(a0+1)*64<=140737488355328/\a0+1<=au from⟨by omega,by unfold au;omega⟩);have g3:=A (λ(w':U)(g off cap:Nat)=>aEi (w':=w') (g:=g) (off:=off) (cap:=cap) (want:=2) (o:=X) h j G);clear v hb n j G y b V h
    go_wp2_with (at_builtin;refine bC aKK rfl _ _ rfl rfl W.o ⟨w1.heap.size+1,0,O⟩ 1 1 [L X,H O 0 0,ae (I w1.heap.size),H O 0 0] (by rfl) rfl ?_ ?_ (by decide) z.o.1 z.o.2 ?_)
    .have:=g2.o
     simpa using this
    .intro u hu;simp at hu;rcases hu with rfl|rfl|rfl|rfl<;>rfl
    intro g off cap w' p B t;have m:=HQ.o w' t;obtain⟨⟨-,-,-,t3,t4,-,-,-⟩,_,tf⟩:=dF m;have g4:=A m;have C:=A (And.intro p (And.intro B t));clear p B t m;go_wp2
    go_end0
    have q:=g3.o w' g off cap C.o.1 (C.o.2.1.imp id λa3=>by have:=a3.1;omega) C.o.2.2 (by decide) _ ((((J (λk=>k=rb) w').own 4 _).own 3 (F ah 1)).own 3 _) (aB (o:=3) (aB (o:=3) (aB (o:=4) g4.o _) (F ah 1)) _);exact⟨rfl,HK.o.trans q.1,q.2⟩
def aMd:lB 32 9 1 16:=⟨underlying32,by decide,by
 have h:(ag.info? 9).map (λi=>(i.zero,i.size,i.bytes))=I (I (.string ⟨#[]⟩),1,16):=by kernel_rfl
 obtain⟨i,c,a,d,b⟩:=bc h;exact⟨i,_,c,a,d,b,rfl⟩⟩
def aKM{a:List RFr}{f:RFr}{c:Nat}{b:Oo}(h:r.e=a++ [f]):Rr.O3 {r with bytes:=c} b={r with bytes:=c,e:=a++ [{f with a:=f.a++ [b]}],a:=4}:=by
 unfold Rr.O3;simp[h]
def aIK(w:U)(c:Nat)(s:ByteArray)(d i i3:Nat)(r:Rr)(j5:List RFr)(f:RFr)(a0:aU w c s d i r i3)(hB:Bnd r d)(h:r.K6=X)(q:r.e=j5++ [f])(m8:f.a.length<=65537)(hi:i<s.size)(hs:s.size<=16777216):
 ai ag 106 #[aj c] w λe w'=>qC w c s d i (r.J0 d (s.data.toList.drop (i+1))) e w':=by
 have h8:c<w.heap.size:=by obtain⟨P,k1,so,fl,bi,tx,a1,n1,m1,a2,n2,m2,hb,-⟩:=a0;exact av hb
 have l1:w.cell? ⟨c,3,O⟩=I (F ah r.a):=by obtain⟨P,k1,so,fl,bi,tx,a1,n1,m1,a2,n2,m2,hb,-⟩:=a0;exact aA hb
 have m:r.J0 d (s.data.toList.drop (i+1))=jS r (cM [] 1 (s.data.toList.drop (i+1))):=by
  unfold Rr.J0;rw[h];rfl
 rw[m];have j6:=A (λW=>uG W s i hi (by omega));have k4:=A (λx(hx:cM [] 1 (s.data.toList.drop (i+1))=.ok x)=>sU _ (Nat.le_refl _) hx);have k5:((r.a:Int)==2)=X\/(((r.a:Int)==2)=E/\((r.a:Int)==3)=X):=by unfold Rr.K6 at h;simp at h⊢;omega
 obtain⟨T,c2,-⟩:=a0.cells;have HK:=A (Below.refl c w);have l2:=A a0;have j7:=A h8;have i8:=A (And.intro hB h);have i9:=A q;obtain⟨w1,l3⟩:∃w1,w=w1:=⟨_,rfl⟩;obtain⟨r2,l4⟩:∃r2,r=r2:=⟨_,rfl⟩;obtain⟨R,b⟩:∃R,cM [] 1 (s.data.toList.drop (i+1))=R:=⟨_,rfl⟩;rw[b]at j6 k4⊢
 have l5:=A (show aJY R from by
  cases t:R with
  | cut=>trivial
  | bad no a=>exact oN _ (Nat.le_refl _) (b.trans t)
  | ok x=>trivial)
 clear b;obtain⟨S,a6,No,a3,C,t,b⟩:=vG i R;rw[t]at j6;have HR:=A b;clear t b;subst l3;subst l4;clear a0 h8 m hB h q;have HX:=aDi (j6.o) w
 have v:¬w.heap.size=c:=by have:=j7.o;omega
 rcases k5 with k2|⟨k2,k3⟩
 all_goals
  go_enter func106,ntmps106;go_wp2
  go_region_held3 (λw'=>w'.cell? c=I (.string s)/\w'.cell? ⟨c,2,O⟩=I (F ah i)) (first|with_reducible exact hS|go_keep) (first
   | (go_at_call 88;(with_reducible refine HX.o.1.mono ?_);rintro e z ⟨rfl,b⟩;have hS:=And.intro (bE b T) (bE b c2))
   | (go_at_call 88;(with_reducible refine HX.o.2.mono ?_);rintro e z ⟨rfl,t,b⟩;have hS:=And.intro (bE b T) (bE b c2);obtain⟨g0,g1,g2,g3,g4,gf⟩:=cells5 t))
  all_goals
   first
    | (have h := heap_alloc_new z (af #["", F ah 0,No,a3,C] 200)
       have m:=b.alloc b.size (af #["",F ah 0,No,a3,C] 200);have q:=b.size;obtain⟨W,V⟩:∃W,z.alloc (af #["",F ah 0,No,a3,C] 200)=W:=⟨_,rfl⟩;rw[V]at h m⊢;obtain⟨B,hB⟩:∃B,z.heap.size=B:=⟨_,rfl⟩;rw[hB]at h q⊢)
    | (obtain ⟨h, m⟩ := aS (.string ⟨#[]⟩) (F ah 0) (F ah No) (F ah a3) (L C) t b (Nat.le_refl _)
       have q:=Nat.le_refl w.heap.size;obtain⟨W,V⟩:∃W,((((z.setCell w (.string ⟨#[]⟩)).setCell ⟨w.heap.size,1,O⟩ (F ah 0)).setCell ⟨w.heap.size,2,O⟩ (F ah No)).setCell ⟨w.heap.size,3,O⟩ (F ah a3)).setCell ⟨w.heap.size,4,O⟩ (L C)=W:=⟨_,rfl⟩;rw[V]at h m⊢;obtain⟨B,hB⟩:∃B,w.heap.size=B:=⟨_,rfl⟩;have b:=q;rw[hB]at h⊢;rw[hB]at b;replace q:w.heap.size<=B:=by rw[hB];exact Nat.le_refl _
       clear g0 g1 g2 g3 g4 gf b t)
   obtain⟨-,-,x2,x3,x4,-⟩:=cells5 h;have HW:=A (show Below c w W/\aU W c s d i r i3/\c<W.heap.size from⟨HK.o.trans (m.mono (D j7.o)),l2.o.C3 (Keeps.A0 _ m),Nat.lt_of_lt_of_le j7.o m.size⟩)
   clear h m q T c2 hS v HX;cases R with
   | cut=>
    obtain rfl:=HR.o;go_wp2;go_ret;exact⟨HW.o.1,rfl,r,i3,HW.o.2.1⟩
   | bad no a=>
    obtain⟨rfl,rfl,rfl⟩:=HR.o;have t:no≠0:=l5.o;have b:(((no:Nat):Int)!=0)=X:=by simp;omega
    clear t;go_wp2_with fail;refine(eP W c s d i i3 r HW.o.2.1 (by omega) no ((i+a:Nat):Int) ((i+a:Nat):Int)).mono ?_;rintro e w5 ⟨rfl,z,t⟩;have HF:=A (And.intro z t);clear z t;go_wp2;go_ret;exact⟨HW.o.1.trans (HF.o.1.C6 (D HW.o.2.2) λk e=>by omega),rfl,HF.o.2⟩
   | ok x=>
    obtain⟨sx,n⟩:=x;obtain⟨rfl,rfl,hS,hT⟩:=HR.o;obtain⟨o1,o2,o3⟩:=k4.o _ rfl;simp only[List.length_drop,Array.length_toList,ByteArray.size_data,List.length_nil,Nat.zero_add]at o1 o2 o3 hT;obtain⟨y,hy⟩:∃y,i+n=y:=⟨_,rfl⟩;obtain⟨nb,i4⟩:∃nb,r.bytes+sx.length=nb:=⟨_,rfl⟩;have j9:=i8.o.1.bytes;have k0:S.size=sx.length:=by rw[hS];show sx.toArray.size=sx.length;simp
    rw[hy]at hT;subst hT;have m9:ah.wrap ((r.bytes:Int)+(S.size:Int))=(nb:Int):=by rw[bj];omega
    have n0:ah.wrap ((y:Int)-1)=(y:Int)-1:=by rw[bj];omega
    have l6:=HW.o.2.1;obtain⟨P,k1,so,fl,bi,tx,a1,n1,m1,a2,n2,m2,hb,T⟩:=l6;obtain⟨pc,n3,o,K,mm,a5,n4,rfl,h,V⟩:=T.e.P6 i9.o;obtain⟨N,hN⟩:∃N,r.e.length=N:=⟨_,rfl⟩;have q:N=j5.length+1:=by rw[<-hN,i9.o];simp
    obtain⟨px,hx⟩:∃x,j5.length=x:=⟨_,rfl⟩;have l7:=i8.o.1.e;rw[hN]at l7;rw[hx]at q;have b:=T.a;rw[hN,q]at b;obtain⟨pg,m,j3,rfl⟩:=b.some;obtain⟨ka,kc,rfl⟩:=V.a.A7;rw[<-q]at b hb;obtain⟨i7,j2⟩:=h.O4;have h9:pc.flatten.length=px*4:=by rw[oE j2,i7,hx]
    have v:∀(j:Nat)(u:ar),(frC o (H ka f.a.length kc) mm a5)[j]?=I u->W.cell? ⟨pg,m+px*4+j,O⟩=I u:=by
     intro j u hj;have:=b.B3 (j:=px*4+j) (u:=u) (by rw[dV,List.getElem?_append_right (by omega),h9,show px*4+j-px*4=j by omega];exact hj);rw[Nat.add_assoc];exact this
    have y1:=v 1 _ rfl;have y2:=v 2 _ rfl
    have i1:c≠pg:=by
     intro e;have:=b.ne hb (by decide);simp[Value.ownBlock]at this;exact this e.symm
    have i5:mm≠c:=V.d.ne hb;have n5:c<=mm:=Nat.le_trans h.le V.g.1;have l8:=A q;have l9:=A hx
    have j0:mm≠pg:=by
     obtain⟨cc,hc⟩:=b.block;exact V.d.ne hc
    obtain⟨⟨-,-,q2,-,q4,-,-,-⟩,_,-⟩:=dF hb;have e1:ah.wrap ((N:Int)-1)=(px:Int):=by rw[bj];omega
    have e2:(px:Int)<(N:Int):=by omega
    have e0:(0:Int)<=(px:Int):=by omega
    clear hN q hx;have k6:sx.length<=au:=by unfold au;omega
    have j1:=V.d.P5 k6;have q:r.L9=f.a:=by unfold Rr.L9;rw[i9.o];simp
    rw[show encS sx=.string S by rw[hS];rfl]at j1;have m7:=A (λ(a:Int)=>HW.o.1.trans (((J (λk=>k=c) W).own 6 (F ah a)).C6 (D HW.o.2.2) λk e=>by omega));have HX:=A (And.intro hS (And.intro hy (And.intro i4 q)))
    by_cases i0:sx∈f.a
    .rw[if_pos (List.mem_reverse.2 i0)]at j1;clear hb T hS hy j9 k0 o1 i4 h V b h9 v q i7 j2;go_wp2_with fail;refine(eP W c s d i i3 _ HW.o.2.1 (by omega) 101 i ((y:Int)-1)).mono ?_;rintro e w5 ⟨rfl,z,t⟩;have HF:=A (And.intro z t);clear z t;go_wp2;go_ret;rw[aAg i8.o.2 (by rw[HX.o.2.2.2];exact i0)];exact⟨HW.o.1.trans (HF.o.1.C6 (D HW.o.2.2) λk e=>by omega),rfl,by simpa using HF.o.2⟩
    .rw[if_neg (λa0=>i0 (List.mem_reverse.1 a0))]at j1;obtain⟨Wm,k7,i6,k8⟩:=V.d.C9 (k:=sx) (by simp;omega) k6;rw[show encS sx=.string S by rw[hS];rfl]at k7;have j4:=mW k8;have j8:=j4.B7 hb (λe=>i5 e.symm);obtain⟨⟨-,-,p2,-,-,-,p6,-⟩,_,pf⟩:=dF j8;have i2:=A (And.intro j4 (And.intro j8 i6));have m0:=A (And.intro hb (And.intro T (And.intro h (And.intro V (And.intro b h9)))));have k9:=A (And.intro i1 (And.intro i5 (And.intro j0 i0)));clear hb T hS hy j9 k0 o1 i4 h V b h9 v q i7 j2 j4 j8 i6 k8
     by_cases m3:2097152<nb
     .have e8:(2097152:Int)<(nb:Int):=by omega
      go_wp2_with fail;refine(sG (Wm.setCell ⟨c,6,O⟩ (F ah nb)) c 3 i ((y:Int)-1) s d i r.a _ r.g nb so fl bi tx _ _ (aB (o:=6) i2.o.2.1 (F ah nb))).mono ?_;rintro e w5 ⟨rfl,z,t⟩;have HF:=A (And.intro z t);clear z t;go_wp2;go_ret;rw[sV (λa0=>k9.o.2.2.2 (by rw[<-HX.o.2.2.2];exact a0.2)) (by have:=HX.o.2.2.1;omega)];refine⟨(HW.o.1.trans (((i2.o.1.mono (G:=λk=>k=mm\/k=c) λ_=>.inl).A3 (p:=⟨c,6,O⟩) (l (ac rfl)) (F ah nb)).C6 (D HW.o.2.2) λk e=>by omega)).trans (HF.o.1.C6 (Nat.le_trans (D HW.o.2.2) (Nat.le_trans i2.o.1.size (by simp[World.setCell]))) λk e=>by omega),rfl,?_⟩;exact⟨_,_,i,_,_,_,_,_,_,_,_,_,_,_,_,_,_,_,by omega,HF.o.2⟩
     .have e8:¬(2097152:Int)<(nb:Int):=by omega
      go_wp2_with fail;generalize v:(Wm.setCell ⟨c,6,O⟩ (F ah nb)).setCell ⟨c,2,O⟩ (F ah y)=t;have j2:t.heap[c]?=I (af (rdC s d y r.a (H (pg,m) N j3) r.g nb so fl bi tx (H a1 n1 m1) (H a2 n2 m2) 0 0 0) 172 (0,0)):=by rw[<-v];exact aB (o:=2) (aB (o:=6) i2.o.2.1 _) _
      have i6:Keeps (λk=>k=mm\/k=c) W t:=by rw[<-v];exact((i2.o.1.mono λ_=>.inl).A3 (p:=⟨c,6,O⟩) (l (ac rfl)) _).A3 (p:=⟨c,2,O⟩) (l (ac rfl)) _
      have i7:dY t mm (sx::f.a.reverse):=by rw[<-v];exact(i2.o.2.2.A2 ((J (λk=>k=c) Wm).own 6 _) i5).A2 ((J (λk=>k=c) _).own 2 _) i5
      clear p2 p6 pf k7 j1 q2 q4 v y2 x2 x3 x4;obtain⟨hb,T,h,V,b,h9⟩:=m0.o;have j1:(H ka f.a.length kc).ownBlock≠I c:=V.a.ne hb (by decide)
      have j8:(H ka f.a.length kc).ownBlock≠I pg:=by
       intro e;obtain⟨cc,hc⟩:=V.a.E0 e;exact b.ne hc (by decide) rfl
      have j9:(H ka f.a.length kc).ownBlock≠I mm:=V.d.own V.a.M7;have z1:t.cell? ⟨pg,m+px*4+1,O⟩=I (H ka f.a.length kc):=i6.B3 y1 (λa0=>a0.elim (λe=>j0 e.symm) λe=>i1 e.symm);have z:=b.A2 i6 (λk e a0=>by cases e;exact a0.elim (λe2=>j0 e2.symm) λe2=>i1 e2.symm);have j4:=(V.a.A2 i6 (λk e a0=>a0.elim (λe2=>j9 (e2▸e)) λe2=>j1 (e2▸e))).M7;obtain⟨⟨_,_,_,-,t4,_,_,_⟩,_,-⟩:=dF j2
      have v:∀(w':U)(g off cap:Nat),aQ 1 9 w' (H (g,off) (f.a.length+1) cap) (f.a.length+1) (f.a.map encS++ [.string S])->((H ka f.a.length kc).ownBlock=I g\/t.heap.size<=g)->Keeps (λk=>(H ka f.a.length kc).ownBlock=I k) t w'->
       qC w c s d i (jS r (.ok (sx,n))) (.returned (L X)) ((w'.setCell ⟨pg,m+px*4+1,O⟩ (H (g,off) (f.a.length+1) cap)).setCell ⟨c,3,O⟩ (F ah 4)):=by
       intro w' g off cap h1 h2 h3;obtain⟨hS,hy,i4,q⟩:=HX.o;obtain rfl:=l8.o;have v:=aKL hS hb T l9.o h V b h9 j2 i6 i7 i1 i5 j0 j1 j8 j9 z h1 h2 h3;rw[aDk i8.o.2 (by rw[q];exact k9.o.2.2.2) (by omega),i4];refine⟨HW.o.1.trans v.1,rfl,((w'.setCell ⟨pg,m+px*4+1,O⟩ (H (g,off) (f.a.length+1) cap)).setCell ⟨c,3,O⟩ (F ah 4)).heap.size,?_⟩;rw[aKM i9.o,hy];exact v.2
      have k7:=A v;have m4:=A (j4.A2 ((J (λ_=>False) t).B0.A6 (af #[S] 9)) λ_ _=>id)
      have m5:=A (show ∀(j:Nat)(u:ar),[Value.string S][j]?=I u->(t.drew.alloc (af #[S] 9)).cell? ((⟨t.heap.size,0,O⟩:Addr).add j)=I u from λj u hj=>by
       rw[Addr.add_lit,Nat.zero_add];exact(aA (heap_alloc_new t.drew _)).trans (by simpa using hj))
      have k8:=A (And.intro j2 j1);have k0:=A (And.intro z1 j8);have m6:=A z;have l0:=A (show(f.a.length+1)*16<=140737488355328/\f.a.length+1<=au from⟨by omega,by unfold au;omega⟩);have n6:¬pg=c:=λe=>i1 e.symm
      clear hb T h V b h9 j2 i6 i7 z j4 v j1 j8 j9 i1;have a4:=((J (λ_=>False) t).A6 (af #[S] 9)).B3 t4 id;have a1:=((J (λ_=>False) t).A6 (af #[S] 9)).B3 z1 id
      go_region_law (refine bP aMd rfl _ _ rfl rfl m4.o t 1 1 [.string S] (by rfl) (by rfl) m5.o (by intro u V;simp at V;subst V;rfl) (by decide) l0.o.1 l0.o.2 ?_;intro g' v z w' b T h;have h8:=h.B7 (((J (λ_=>False) t).B0.A6 (af #[S] 9)).B7 k8.o.1 id) k8.o.2;have h9:w'.cell? ⟨c,4,O⟩=I (H (pg,m) N j3):=aA h8;have i1:w'.cell? ⟨pg,m+px*4+1,O⟩=I (H ka f.a.length kc):=h.B3 (((J (λ_=>False) t).B0.A6 (af #[S] 9)).B3 k0.o.1 id) k0.o.2;have l1:w'.cell? ⟨c,3,O⟩=I (F ah r.a):=aA h8;have i6:=free_at h8;have i7:=((m6.o.A2 ((J (λ_=>False) t).B0.A6 (af #[S] 9)) λ_ _=>id).A2 h λk e e2=>k0.o.2 (by cases e;exact e2)).F0;clear h8)
      all_goals
       have HF:=A (And.intro b (And.intro T h));clear b T h;go_wp2;go_ret;exact k7.o w' g' v z HF.o.1 (HF.o.2.1.imp id λa0=>Nat.le_trans (show t.heap.size<=(t.drew.alloc (af #[S] 9)).heap.size by simp) a0.1) (((J (λk=>(H ka f.a.length kc).ownBlock=I k) t).B0.A6 (af #[S] 9)).same HF.o.2.2)
