/-
  The program, one part of its walk. Conditions: none.
-/
import Derived.Test.YtakkmiomhackiaaGreatDoorTd44
import Derived.Test.YtakkmiomhackiaaGreatDoorTd46
import Derived.Test.YtakkmiomhackiaaGreatDoorTd48
set_option linter.all false
set_option maxRecDepth 100000
set_option maxHeartbeats 16000000
open Go.Proofs.Tryz
open Bool renaming false->U,true->G
open Except renaming error->bz
open False renaming elim->ct
open Go renaming Addr->cg,Calls->ag,Ending->ck,TypeId->dh,Value->af,World->H,bodyPost_ret->bh,cell_of_one->cv,heap_alloc_new->bm,lt_of_block->ak,maxLen->dt,results->bj,run_convert_bytes_back->ez
open Go.Ending renaming returned->aj
open Go.Instr renaming typeAssert->az
open Go.IntKind renaming i64->O,u64->A,wrap_i64->dl
open Go.Obj renaming cells->E
open Go.Proofs.Tryz renaming func11->dw,func75->bu,ntmps11->dx,ntmps3->ei,ntmps75->bw,prog->Q,results13->dv,results48->co,underlying22->dy,underlying5->ee,underlying9->eh
open Go.Proofs.YtakkmiomhackiaaGreatDoor.Keeps renaming A1->cu,A3->ah
open Go.Proofs.YtakkmiomhackiaaGreatDoor.Ra renaming bad->cj
open Go.Proofs.YtakkmiomhackiaaGreatDoor.Rr renaming B4->dm,D3->cr,F7->em,H5->ev,I5->ar,J7->bs,M9->dp,N2->eo,N9->dq
open Go.Result renaming ok->au
open Go.RowKit renaming Below->T
open Go.RowKit.Below renaming heap_alloc->et,refl->bp
open Go.Value renaming agg->bk,bool->Z,iface->ae,int->J,nilIface->ai,pointer->ac,slice->Y,string->D,tuple->av
open Go.World renaming drewN->bx
open List renaming concat_eq_append->cz,eq_nil_or_concat->cw,getElem?_eq_getElem->di,length_append->ek,length_drop->ew,mem_append->dj,mem_append_left->du,take_length->eu
open Nat renaming le_of_lt->bg,le_refl->aw,le_trans->ao,zero_le->ep
open Option renaming none->I,some->V
open Or renaming inl->bc,inr->ba
open UInt8 renaming le_iff_toNat_le->ej
open UInt8.toNat renaming inj->fa
namespace Go.Proofs.YtakkmiomhackiaaGreatDoor
open Go.RowKit
def Rr.stepE(en:Bool)(r:Rr)(depth:Nat)(c:UInt8)(t:List UInt8):Ra:=
 if bJ c then r.D3 depth c
 else if c=34 then r.F7 depth t
 else if aN c≠ []then r.N2 depth (aN c) (c::t)
 else if c=45\/isD c=G then r.M9 en depth (c::t)
 else cj 120 0
theorem aJa{r:Rr}{d n:Nat}{c:UInt8}{a:Rr}(h:r.D3 d c=.on n a):n=1:=by
 unfold cr ar at h
 repeat' (first|(injection h with b h2;exact b.symm)|(cases h;done)|split at h)
theorem aCz{r:Rr}{d:Nat}{c:UInt8}(h:r.D3 d c=.cut):False:=by
 unfold cr ar at h
 repeat' (first|(cases h;done)|split at h)
def wX(w:H)(g:Nat)(no a:Int):Prop:=
 ∃s d i n P nodes bytes c h f m a1 l j a2 e b k,w.heap[g]?=V (E (rdC s d i n P nodes bytes c h f m (Y a1 l j) (Y a2 e b) no a k) 172 (0,0))
def lB(w:H)(c:Nat)(s:ByteArray)(d i:Nat)(R:Ra)(e:ck)(w':H):Prop:=T c w w'/\match R with
 | .on n r=>e=aj (Z G)/\∃b,aU w' c s d (i+n) r b
 | .cut=>e=aj (Z U)/\∃r b,aU w' c s d i r b
 | .bad no a=>e=aj (Z G)/\wX w' c no ((i+a:Nat):Int)
theorem o5.weak{w:H}{b:Nat}{no a:Int}(h:o5 w b no a):wX w b no a:=by
 obtain⟨s,d,i,p,P,nodes,bytes,e,k,j,o,a1,n,l,a2,g,c,m,-,f⟩:=h;exact⟨s,d,i,p,P,nodes,bytes,e,k,j,o,a1,n,l,a2,g,c,m,f⟩
theorem o6.weak{w c w':H}{b d i:Nat}{s:ByteArray}{R:Ra}{e:ck}(h:o6 c b s d i R e w')(f:T b w c):lB w b s d i R e w':=by
 refine⟨f.trans h.1,?_⟩;cases R with
 | on n r=>exact h.2
 | cut=>exact h.2
 | bad no a=>exact⟨h.2.1,h.2.2.weak⟩
theorem aJb{r:Rr}{d no a:Nat}{c:UInt8}(h:r.D3 d c=cj no a):a=0:=by
 unfold cr ar at h
 repeat' (first|(injection h with h1 b;exact b.symm)|(cases h;done)|split at h)
theorem o6.D9{w w':H}{c d i:Nat}{s:ByteArray}{R:Ra}{e:ck}(h:o6 w c s d i R e w'):∃b,e=aj (Z b):=by
 obtain⟨_,h⟩:=h;cases R with
 | on n r=>exact⟨_,h.1⟩
 | cut=>exact⟨_,h.1⟩
 | bad no a=>exact⟨_,h.1⟩
theorem o5.B4{w:H}{b:Nat}{no a:Int}(h:o5 w b no a):∃i:Nat,i<=1073741824/\w.cell? ⟨b,2,I⟩=V (J O i)/\(∀o,w.frozen? ⟨b,o,I⟩=U)/\b<w.heap.size/\∀z:Int,z=((i+1:Nat):Int)->wX (w.setCell ⟨b,2,I⟩ (J O z)) b no a:=by
 obtain⟨s,d,i,r,P,nodes,bytes,f,l,k,q,a1,p,m,a2,g,e,n,hi,c⟩:=h;refine⟨i,hi,aA c,free_at c,ak c,λz j=>?_⟩;subst j;exact⟨s,d,i+1,r,P,nodes,bytes,f,l,k,q,a1,p,m,a2,g,e,n,aB (o:=2) c _⟩
structure ROk(r:Rr)(d:Nat):Prop where
 bnd:Bnd r d
 key:r.E6=G->∃ini f,r.pile=ini++ [f]/\f.keys.length<=65537
 obj:∀ini f,r.pile=ini++ [f]->f.object=G->(r.want=5\/r.want=2)->f.items.length=f.keys.length/\bH f.keys/\f.keys.Nodup
theorem aEi(w:H)(b:Nat)(s:ByteArray)(d i a:Nat)(r:Rr)(h:aU w b s d i r a)(j:Bnd r d)(hi:i<=1073741824)(c:UInt8)(k:bJ c=G)(g:∀l f,r.pile=l++ [f]->f.object=G->(r.want=5\/r.want=2)->f.items.length=f.keys.length/\bH f.keys/\f.keys.Nodup):
 ag Q 105 #[ac (V ⟨b,0,I⟩),J .u8 ((c.toNat:Nat):Int)] w λe w'=>pP w b s d i (r.D3 d c) e w':=by
 unfold bJ at k;simp at k;rcases k with((((rfl|rfl)|rfl)|rfl)|rfl)|rfl
 .exact wC w b s d i a r h j hi 123 (ba rfl)
 .exact wB w b s d i a r h j hi g
 .exact wC w b s d i a r h j hi 91 (bc rfl)
 .exact aB5 w b s d i a r h j hi g
 .exact aB3 w b s d i a r h j hi
 .exact aB4 w b s d i a r h j hi
theorem aEj(w:H)(b:Nat)(s:ByteArray)(d i f:Nat)(r:Rr)(g:aU w b s d i r f)(q:ROk r d)(en:Bool)(hi:i<s.size)(hs:s.size<=16777216)(c:UInt8)(t:s[i]=c)(h:bJ c=G):
 ag Q 75 #[ac (V ⟨b,0,I⟩),Z en] w λe w'=>lB w b s d i (r.D3 d c) e w':=by
 have u:∀W,Keeps (λ_=>False) w W->aU W b s d i r f/\T b w W:=λW v=>⟨g.C9 v,v.B3 (by obtain⟨P,z,so,fl,bi,tx,a1,n1,m1,a2,n2,m2,B,-⟩:=g;exact bg (ak B)) λ_=>ct⟩
 obtain⟨c0,c2,-⟩:=g.F6;have i1:(i:Int)<(s.size:Int):=by omega
 have i0:(0:Int)<=(i:Int):=by omega
 have C:=L u;have j:=L (λ(W:H)(v:aU W b s d i r f)=>show ag Q 105 #[ac (V ⟨b,0,I⟩),J .u8 ((c.toNat:Nat):Int)] W λe w'=>pP W b s d i (r.D3 d c) e w' from aEi W b s d i f r v q.bnd (by omega) c h q.obj);obtain⟨x,l⟩:∃x:Int,((c.toNat:Nat):Int)=x:=⟨_,rfl⟩;have hxs:((s[i].toNat:Nat):Int)=x:=by rw[t];exact l
 rw[l]at j
 have F:x=123\/x=125\/x=91\/x=93\/x=58\/x=44:=by
  unfold bJ at h;simp at h;rcases h with((((g|g)|g)|g)|g)|g<;>subst g<;>simp at l<;>omega
 have m:=L (λn K(g:r.D3 d c=.on n K)=>aJa g);have o:=L (λno a(g:r.D3 d c=cj no a)=>aJb g);have p:=L (λ(g:r.D3 d c=.cut)=>aCz g);obtain⟨R,y⟩:∃R,r.D3 d c=R:=⟨_,rfl⟩;rw[y]at j m p o⊢;clear y h l t u g q;rcases F with rfl|rfl|rfl|rfl|rfl|rfl
 all_goals
  go_enter bu,bw;go_wp2_with fail
  go_quiet (fail)
  generalize g:bx w _=y;have X:=L (show aU y b s d i r f/\T b w y from C.o y (by rw[<-g];exact(ah _ w).O2 _));clear g;go_wp2_with fail;refine(j.o y X.o.1).mono ?_;rintro e w2 ⟨rfl,g,q⟩;have t:=L (X.o.2.trans g);clear g;cases R with
  | cut=>exact absurd rfl p.o
  | on n K=>
   obtain⟨u,h⟩:=q;obtain⟨-,k2,kf⟩:=h.F6;have l:b<w2.heap.size:=by obtain⟨P,z,so,fl,bi,tx,a1,n1,m1,a2,n2,m2,B,-⟩:=h;exact ak B
   have g:=L (And.intro h l);have j1:O.wrap ((i:Int)+1)=((i+1:Nat):Int):=by rw[dl];omega
   clear h;go_wp2_with fail;go_ret;obtain rfl:=m.o n K rfl;exact⟨t.o.trans (((ah (λk=>k=b) w2).E9 2 _).B3 (bg g.o.2) λk e=>by omega),rfl,u,g.o.1.B4 (i+1) _ (by simp)⟩
  | bad no a=>
   obtain⟨i2,hi2,k2,kf,l,h⟩:=o5.B4 q;have g:=L (And.intro h l);obtain⟨N,u⟩:∃N,i2+1=N:=⟨_,rfl⟩;have j1:O.wrap ((i2:Int)+1)=(N:Int):=by rw[dl];omega
   have S:=L u;clear h u;go_wp2_with fail;go_ret;refine⟨t.o.trans (((ah (λk=>k=b) w2).E9 2 _).B3 (bg g.o.2) λk e=>by omega),rfl,?_⟩;rw[show((i+a:Nat):Int)=(i:Int)from by rw[o.o no a rfl];simp];exact g.o.1 _ (by rw[S.o])
theorem aEk(w:H)(c:Nat)(s:ByteArray)(d i a:Nat)(r:Rr)(p:aU w c s d i r a)(g:ROk r d)(en:Bool)(hi:i<s.size)(m:s.size<=16777216)(n:s[i]=34):
 ag Q 75 #[ac (V ⟨c,0,I⟩),Z en] w λe w'=>lB w c s d i (r.F7 d (s.data.toList.drop (i+1))) e w':=by
 have o:∀W,Keeps (λ_=>False) w W->aU W c s d i r a/\T c w W:=λW h=>⟨p.C9 h,h.B3 (by obtain⟨P,q,y,z,B,C,a1,F,K,a2,N,R,t,-⟩:=p;exact bg (ak t)) λ_=>ct⟩
 obtain⟨S,c2,-⟩:=p.F6;have X:(i:Int)<(s.size:Int):=by omega
 have i0:(0:Int)<=(i:Int):=by omega
 have k:=L o
 have u:=L (λ(W:H)(h:aU W c s d i r a)=>show ag Q 106 #[ac (V ⟨c,0,I⟩)] W λe w'=>o6 W c s d i (r.F7 d (s.data.toList.drop (i+1))) e w' from by
  cases j:r.E6 with
  | false=>exact aGH W c s d i a r h g.bnd j hi m
  | true=>
   obtain⟨l,f,v,x⟩:=g.key j;exact aGI W c s d i a r l f h g.bnd j v x hi m)
 have v:((s[i].toNat:Nat):Int)=34:=by rw[n];rfl
 clear n o p g;go_enter bu,bw;go_wp2_with fail
 go_quiet (fail)
 generalize g:bx w _=j;have l:=L (show aU j c s d i r a/\T c w j from k.o j (by rw[<-g];exact(ah _ w).O2 _));clear g;go_wp2_with fail;refine(u.o j l.o.1).mono ?_;rintro e w2 g;obtain⟨b,rfl⟩:=g.D9;have n:=L (g.weak l.o.2);clear g;go_wp2_with fail;go_ret;exact n.o
theorem aEl(w:H)(g:Nat)(s:ByteArray)(d i a:Nat)(r:Rr)(x:aU w g s d i r a)(n:ROk r d)(en:Bool)(hi:i<s.size)(v:s.size<=16777216)(c:UInt8)(o:s[i]=c)(p:aN c≠ []):
 ag Q 75 #[ac (V ⟨g,0,I⟩),Z en] w λe w'=>lB w g s d i (r.N2 d (aN c) (s.data.toList.drop i)) e w':=by
 have u:∀W,Keeps (λ_=>False) w W->aU W g s d i r a/\T g w W:=λW k=>⟨x.C9 k,k.B3 (by obtain⟨P,z,F,K,N,R,a1,S,X,a2,n2,m2,B,-⟩:=x;exact bg (ak B)) λ_=>ct⟩
 obtain⟨c0,c2,-⟩:=x.F6;have i1:(i:Int)<(s.size:Int):=by omega
 have i0:(0:Int)<=(i:Int):=by omega
 have m:=L u
 have C:c=110\/c=116\/c=102:=by
  unfold aN at p
  by_cases f:c=110
  .exact bc f
  .by_cases h:c=116
   .exact ba (bc h)
   .by_cases j:c=102
    .exact ba (ba j)
    .simp[f,h,j]at p
 rcases C with rfl|rfl|rfl
 .have q:=L (λ(W:H)(k:aU W g s d i r a)=>sU W g s d i a r k n.bnd ⟨#[110,117,108,108]⟩ (bc rfl) (by omega) v);have y:((s[i].toNat:Nat):Int)=110:=by rw[o];rfl
  clear o u x n p;go_enter bu,bw;go_wp2_with fail
  go_quiet (fail)
  generalize h:bx w _=j;have l:=L (show aU j g s d i r a/\T g w j from m.o j (by rw[<-h];exact(ah _ w).O2 _));clear h;go_wp2_with fail;refine(q.o j l.o.1).mono ?_;rintro e w2 f;obtain⟨b,rfl⟩:=f.D9;have t:=L (f.weak l.o.2);clear f;go_wp2_with fail;go_ret;exact t.o
 .have q:=L (λ(W:H)(k:aU W g s d i r a)=>sU W g s d i a r k n.bnd ⟨#[116,114,117,101]⟩ (ba (bc rfl)) (by omega) v);have y:((s[i].toNat:Nat):Int)=116:=by rw[o];rfl
  clear o u x n p;go_enter bu,bw;go_wp2_with fail
  go_quiet (fail)
  generalize h:bx w _=j;have l:=L (show aU j g s d i r a/\T g w j from m.o j (by rw[<-h];exact(ah _ w).O2 _));clear h;go_wp2_with fail;refine(q.o j l.o.1).mono ?_;rintro e w2 f;obtain⟨b,rfl⟩:=f.D9;have t:=L (f.weak l.o.2);clear f;go_wp2_with fail;go_ret;exact t.o
 .have q:=L (λ(W:H)(k:aU W g s d i r a)=>sU W g s d i a r k n.bnd ⟨#[102,97,108,115,101]⟩ (ba (ba rfl)) (by omega) v);have y:((s[i].toNat:Nat):Int)=102:=by rw[o];rfl
  clear o u x n p;go_enter bu,bw;go_wp2_with fail
  go_quiet (fail)
  generalize h:bx w _=j;have l:=L (show aU j g s d i r a/\T g w j from m.o j (by rw[<-h];exact(ah _ w).O2 _));clear h;go_wp2_with fail;refine(q.o j l.o.1).mono ?_;rintro e w2 f;obtain⟨b,rfl⟩:=f.D9;have t:=L (f.weak l.o.2);clear f;go_wp2_with fail;go_ret;exact t.o
theorem aAS(w:H)(g:Nat)(s:ByteArray)(d i f:Nat)(r:Rr)(o:aU w g s d i r f)(h:ROk r d)(en:Bool)(hi:i<s.size)(t:s.size<=16777216)(c:UInt8)(j:s[i]=c)(a:c=45\/isD c=G):
 ag Q 75 #[ac (V ⟨g,0,I⟩),Z en] w λe w'=>lB w g s d i (r.M9 en d (s.data.toList.drop i)) e w':=by
 have l:∀W,Keeps (λ_=>False) w W->aU W g s d i r f/\T g w W:=λW m=>⟨o.C9 m,m.B3 (by obtain⟨P,u,y,z,B,C,a1,F,K,a2,N,R,v,-⟩:=o;exact bg (ak v)) λ_=>ct⟩
 obtain⟨S,c2,-⟩:=o.F6;have X:(i:Int)<(s.size:Int):=by omega
 have i0:(0:Int)<=(i:Int):=by omega
 have k:=L l;have p:=L (λ(W:H)(m:aU W g s d i r f)=>aKe W g s d i f r m h.bnd en hi t);obtain⟨x,q⟩:∃x:Int,((s[i].toNat:Nat):Int)=x:=⟨_,rfl⟩
 have n:x=45\/((48:Int)<=x/\x<=57):=by
  rw[j]at q;rcases a with rfl|a
  .exact bc (by rw[<-q];rfl)
  .unfold isD at a;simp[ej]at a;omega
 clear j l o h a;rcases n with rfl|⟨x1,x2⟩
 .skip;go_enter bu,bw;go_wp2_with fail
  go_quiet (fail)
  generalize h:bx w _=j;have l:=L (show aU j g s d i r f/\T g w j from k.o j (by rw[<-h];exact(ah _ w).O2 _));clear h;go_wp2_with fail;refine(p.o j l.o.1).mono ?_;rintro e w2 a;obtain⟨b,rfl⟩:=a.D9;have o:=L (a.weak l.o.2);clear a;go_wp2_with fail;go_ret;exact o.o
 .have y1:(x==123)=U:=by simp;omega
  have y2:(x==125)=U:=by simp;omega
  have y3:(x==91)=U:=by simp;omega
  have y4:(x==93)=U:=by simp;omega
  have y5:(x==58)=U:=by simp;omega
  have y6:(x==44)=U:=by simp;omega
  have y7:(x==34)=U:=by simp;omega
  have y8:(x==110)=U:=by simp;omega
  have y9:(x==116)=U:=by simp;omega
  have ya:(x==102)=U:=by simp;omega
  have yb:(x==45)=U:=by simp;omega
  go_enter bu,bw;go_wp2_with fail
  go_quiet (fail)
  generalize h:bx w _=j;have l:=L (show aU j g s d i r f/\T g w j from k.o j (by rw[<-h];exact(ah _ w).O2 _));clear h;go_wp2_with fail;refine(p.o j l.o.1).mono ?_;rintro e w2 a;obtain⟨b,rfl⟩:=a.D9;have o:=L (a.weak l.o.2);clear a;go_wp2_with fail;go_ret;exact o.o
theorem aCA(w:H)(b:Nat)(s:ByteArray)(d i f:Nat)(r:Rr)(v:aU w b s d i r f)(N:ROk r d)(en:Bool)(hi:i<s.size)(hs:s.size<=16777216)(c:UInt8)(m:s[i]=c)(n:bJ c=U)(y:c≠34)(g:aN c= [])(o:¬(c=45\/isD c=G)):
 ag Q 75 #[ac (V ⟨b,0,I⟩),Z en] w λe w'=>lB w b s d i (cj 120 0) e w':=by
 have z:∀W,Keeps (λ_=>False) w W->aU W b s d i r f/\T b w W:=λW j=>⟨v.C9 j,j.B3 (by obtain⟨P,p,R,S,X,tx,a1,n1,m1,a2,n2,m2,q,-⟩:=v;exact bg (ak q)) λ_=>ct⟩
 obtain⟨c0,c2,cf⟩:=v.F6;have i1:(i:Int)<(s.size:Int):=by omega
 have i0:(0:Int)<=(i:Int):=by omega
 have t:=L z;have HT:=L (λ(W:H)(j:aU W b s d i r f)=>eI W b s d i f r j (by omega) 120 i i);have h:b<w.heap.size:=by obtain⟨P,p,R,S,X,tx,a1,n1,m1,a2,n2,m2,q,-⟩:=v;exact ak q
 have u:=L h;obtain⟨x,B⟩:∃x:Int,((s[i].toNat:Nat):Int)=x:=⟨_,rfl⟩
 have a:∀k:UInt8,c≠k->(x==((k.toNat:Nat):Int))=U:=λk l=>by
  rw[m]at B;have:c.toNat≠k.toNat:=λe=>l (fa e)
  simp;omega
 unfold bJ at n;simp at n;obtain⟨⟨⟨⟨⟨a1,a2⟩,a3⟩,a4⟩,C⟩,F⟩:=n;have b1:c≠110:=λe=>by rw[e]at g;cases g
 have b2:c≠116:=λe=>by rw[e]at g;cases g
 have b3:c≠102:=λe=>by rw[e]at g;cases g
 have y1:(x==123)=U:=a 123 a1;have y2:(x==125)=U:=a 125 a2;have y3:(x==91)=U:=a 91 a3;have y4:(x==93)=U:=a 93 a4;have y5:(x==58)=U:=a 58 C;have y6:(x==44)=U:=a 44 F;have y7:(x==34)=U:=a 34 y;have y8:(x==110)=U:=a 110 b1;have y9:(x==116)=U:=a 116 b2;have ya:(x==102)=U:=a 102 b3;have yb:(x==45)=U:=a 45 (λe=>o (bc e))
 have yc:¬(48:Int)<=x\/((48:Int)<=x/\¬x<=57):=by
  rw[m]at B;have K:¬isD c=G:=λe=>o (ba e)
  unfold isD at K;simp[ej]at K;omega
 clear m z v N y g o a a1 a2 a3 a4 C F b1 b2 b3 h;rcases yc with o|⟨o,v⟩
 all_goals
  go_enter bu,bw;go_wp2_with fail
  go_quiet (fail)
  generalize a:bx w _=g;have h:=L (show aU g b s d i r f/\T b w g from t.o g (by rw[<-a];exact(ah _ w).O2 _));clear a;go_wp2_with fail;have y:=h.o.1.F6.2.1
  go_still_tail 9,(by kernel_rfl)
  go_wp2_with fail;refine(HT.o _ (h.o.1.C9 (ah _ g).A9)).mono ?_;rintro e w2 ⟨rfl,l,a⟩;have m:=L (And.intro l a);clear l a;go_wp2_with fail;go_ret;exact⟨h.o.2.trans (((ah (λk=>k=b) g).A9.B8 m.o.1).B3 (ao (bg u.o) h.o.2.size) λk e=>by omega),rfl,by simpa using m.o.2.weak⟩
theorem aEm(w:H)(b:Nat)(s:ByteArray)(d i a:Nat)(r:Rr)(h:aU w b s d i r a)(c:ROk r d)(en:Bool)(hi:i<s.size)(f:s.size<=16777216):
 ag Q 75 #[ac (V ⟨b,0,I⟩),Z en] w λe w'=>lB w b s d i (r.stepE en d s[i] (s.data.toList.drop (i+1))) e w':=by
 have m:s.data.toList.drop i=s[i]::s.data.toList.drop (i+1):=aZ hi;unfold Rr.stepE;rw[<-m]
 by_cases k:bJ s[i]=G
 .rw[if_pos k];exact aEj w b s d i a r h c en hi f _ rfl k
 .rw[if_neg k]
  by_cases g:s[i]=34
  .rw[if_pos g];exact aEk w b s d i a r h c en hi f g
  .rw[if_neg g]
   by_cases l:aN s[i]≠ []
   .rw[if_pos l];exact aEl w b s d i a r h c en hi f _ rfl l
   .rw[if_neg l]
    by_cases j:s[i]=45\/isD s[i]=G
    .rw[if_pos j];exact aAS w b s d i a r h c en hi f _ rfl j
    .rw[if_neg j];exact aCA w b s d i a r h c en hi f _ rfl (by simpa using k) g (by simpa using l) j
theorem aDa{f:RFr}:∀{l:List RFr},f∈l->f.items.length<=(l.flatMap λf=>f.items).length
 | g::l,h=>by
  rw[List.flatMap_cons,ek];rcases List.mem_cons.1 h with rfl|h
  .omega
  .have:=aDa h;omega
theorem aAo{p:Ps}{r:Rr}{d i:Nat}(h:Alike p r d i)(z:d<=512):ROk r d:=by
 have k:=h.ps;have g:=h.al;have v:p.pile.length=r.pile.length:=g.O8;have n:=k.room;have y:p.depth=d:=g.depth
 have l:∀f∈r.pile,f.items.length<=65536:=λf s=>by
  have o:=k.M1;rw[g.items,ek]at o;have t:f.items.length<=(r.pile.flatMap λf=>f.items).length:=aDa s;omega
 have c:∀b f,r.pile=b++ [f]->r.pile.getLast?=V f:=λb f e=>by rw[e];simp
 refine⟨⟨z,by omega,by rw[<-g.nodes];exact k.nodes,by rw[<-g.bytes];exact k.bytes,l⟩,λu=>?_,λb f j x w=>?_⟩
 .have w:p.want=2\/p.want=3\/p.want=4:=by
   rw[g.want];unfold Rr.E6 at u;simp at u;omega
  have a:=(k.stand.N1).1 w;rcases cw r.pile with B|⟨b,f,j⟩
  .exfalso;rw[g.pile,B]at a;cases a
  .rw[cz]at j;refine⟨b,f,j,?_⟩
   have q:f.object=G:=by
    rw[g.pile,j]at a;unfold iU jB at a;simp at a;cases s:f.object with
    | true=>rfl
    | false=>simp[s]at a
   have:=g.top f (c b f j) q;have:=l f (by rw[j];simp);split at* <;>omega
 .have m:Fr.object f.keys∈p.pile:=by
   rw[g.pile,j];simp[jB,x]
  obtain⟨o,t,_⟩:=k.R9 m;have:=g.top f (c b f j) x;rw[if_neg (by omega)]at this;exact⟨by omega,o,t⟩
theorem tW{p:Ps}{r:Rr}{d i:Nat}{c:UInt8}(h:Alike p r d i)(b:aX c=G)(hi:i<16777216):∃p',Alike p' r d (i+1):=by
 have a:=xJ po p h.st h.isIn (by rw[h.place];omega) c b;exact⟨{p with lex:={p.lex with place:=p.lex.place+1},place:=p.place+1},⟨h.al.depth,h.al.want,h.al.nodes,h.al.bytes,h.al.pile,h.al.items,h.al.low,h.al.top⟩,by show p.lex.place+1=_;rw[h.place],h.st,h.isIn,h.ok.B0 a⟩
theorem aDb{en:Bool}{r f:Rr}{d n:Nat}{c:UInt8}{t:List UInt8}(h:r.stepE en d c t=.on n f):r.B4 d c t=.on n f:=by
 unfold Rr.stepE at h;unfold dm;split at h
 .rename_i b;rw[if_pos b];exact h
 .rename_i b;rw[if_neg b];split at h
  .rename_i a;rw[if_pos a];exact h
  .rename_i a;rw[if_neg a];split at h
   .rename_i e;rw[if_pos e];exact h
   .rename_i e;rw[if_neg e];split at h
    .rename_i i;rw[if_pos i];unfold dp ar at h;unfold dq ar;split at h
     .cases h
     .split at h
      .cases h
      .split at h
       .cases h
       .rename_i j g;simp only[not_or]at g;dsimp only;rw[if_neg j,if_neg g.1];exact h
    .cases h
theorem aBi{r:Rr}{d:Nat}{l:List UInt8}:r.M9 G d l=r.N9 d l:=by
 unfold dp dq ar;cases r.D5 d with
 | error no=>rfl
 | ok c=>
  dsimp only
  by_cases b:(fJ l).2=U/\(fJ l).1<l.length
  .rw[if_pos b,if_pos b]
  .rw[if_neg b,if_neg b]
   by_cases a:(fJ l).2=U
   .rw[if_pos (bc a),if_pos a]
   .rw[if_neg (by simp[a]),if_neg a];rfl
theorem qC{r:Rr}{d:Nat}{c:UInt8}{t:List UInt8}:r.stepE G d c t=r.B4 d c t:=by
 unfold Rr.stepE dm;rw[aBi]
theorem aBj{r:Rr}{d no:Nat}(h:r.D5 d=bz no):no≠0:=by
 unfold Rr.D5 at h
 repeat' (first|(injection h with a;rw[<-a];decide)|(cases h;done)|split at h)
theorem xL{r:Rr}{no a:Nat}{l:List UInt8}(h:jH r (eK [] 1 l)=cj no a):no≠0:=by
 cases b:eK [] 1 l with
 | cut=>rw[b]at h;cases h
 | bad d a2=>
  rw[b]at h;injection h with c h2
  rw[<-c];exact rM _ (aw _) b
 | ok x=>
  rw[b]at h;obtain⟨s,n⟩:=x;unfold jH at h;simp only at h
  repeat' (first|(injection h with c h2;rw[<-c];decide)|(cases h;done)|split at h)
theorem aJt{en:Bool}{r:Rr}{d no a:Nat}{c:UInt8}{t:List UInt8}(h:r.stepE en d c t=cj no a):no≠0:=by
 unfold Rr.stepE at h;split at h
 .unfold cr ar at h
  repeat' (first|(injection h with b h2;rw[<-b];first|decide|exact aBj (by assumption))|(cases h;done)|split at h)
 .split at h
  .unfold em ar at h;split at h
   .exact xL h
   .split at h
    .rename_i e;injection h with b h2;rw[<-b];exact aBj e
    .exact xL h
  .split at h
   .unfold eo ar at h
    repeat' (first|(injection h with b h2;rw[<-b];first|decide|exact aBj (by assumption))|(cases h;done)|split at h)
   .split at h
    .unfold dp ar at h
     repeat' (first|(injection h with b h2;rw[<-b];first|decide|exact aBj (by assumption))|(cases h;done)|split at h)
    .injection h with b h2;rw[<-b];decide
theorem xM{en:Bool}{p:Ps}{r a:Rr}{d i n:Nat}{c:UInt8}{t:List UInt8}(h:Alike p r d i)(e:aX c=U)(g:i+1+t.length<=16777216)(k:r.stepE en d c t=.on n a):1<=n/\n<=t.length+1/\∃p',Alike p' a d (i+n):=by
 have:=aAn h c t e g;rw[aDb k]at this;obtain⟨f,b,p',j,_⟩:=this;exact⟨f,by simpa using b,p',j⟩
def LG(s:ByteArray)(d:Nat)(en:Bool)(X:Except (Nat×Nat) Tr)(i:Nat)(r:Rr):Prop:=i<=s.size/\(∃p,Alike p r d i)/\(en=G->X=bs d r i (s.data.toList.drop i))
def aFd(w1:H)(c:Nat)(s:ByteArray)(d:Nat)(en:Bool)(X:Except (Nat×Nat) Tr)(v:af)(wr:H):Prop:=T c w1 wr/\
 ((v = Z G /\ ∃ i r b, aU wr c s d i r b /\ LG s d en X i r) \/ (v = Z U /\ (∃ i r b, aU wr c s d i r b) /\ (en = G -> X = bz (95, s.size))) \/
   (v=Z G/\∃no a:Nat,no≠0/\wX wr c no a/\(en=G->X=bz (no,a))))
def placeOf(a:Nat)(wr:H):Nat:=match wr.cell? ⟨a,2,I⟩with
 | some (J _ i)=>i.toNat
 | _=>0
def xN(a:Nat)(v:af)(wr:H):Bool:=match v,wr.cell? ⟨a,13,I⟩with
 | .bool G,V (J _ n)=>n==0
 | _,_=>U
def mOf(s:ByteArray)(a:Nat)(v:af)(wr:H):Nat:=if xN a v wr=G then s.size+2-placeOf a wr else 0
def kG(no a f:Int)(b:Int)(d:Bool)(e:Int)(g:Bool)(c:Nat)(h:ByteArray)(i K:af):af:=bk #[J O no,J O a,J O f,J O b,Z d,J O e,Z g,J A c,D h,i,K]
def aKY(w:H)(en:Bool)(X:Except (Nat×Nat) Tr)(e:ck)(w':H):Prop:=∃(no a f q:Int)(p:Bool)(c:Int)(i:Bool)(g:Nat)(o:ByteArray)(h:Option cg)(j m:Nat)(b:Option cg)(d l:Nat),e=aj (kG no a f q p c i g o (Y h j m) (Y b d l))/\T w.heap.size w w'/\
 (en=G->match X with
  | .error (n,_)=>no=(n:Int)/\n≠0
  | .ok t=>no=0/\ValAt (λk=>w.heap.size<=k) w' (eV c i g o (Y h j m) (Y b d l)) t)
theorem dW{w:H}{b:Nat}{i f d c j k e m a l g:af}{n:dh}(h:w.heap[b]?=V (E #[i,f,d,c,j,k,e,m,a,l,g] n (0,0))):
 w.cell? ⟨b,0,I⟩=V i/\w.cell? ⟨b,1,I⟩=V f/\w.cell? ⟨b,2,I⟩=V d/\w.cell? ⟨b,3,I⟩=V c/\w.cell? ⟨b,4,I⟩=V j/\w.cell? ⟨b,5,I⟩=V k/\w.cell? ⟨b,6,I⟩=V e/\w.cell? ⟨b,7,I⟩=V m/\w.cell? ⟨b,8,I⟩=V a/\w.cell? ⟨b,9,I⟩=V l/\w.cell? ⟨b,10,I⟩=V g/\∀o,w.frozen? ⟨b,o,I⟩=U:=
 ⟨aA h,aA h,aA h,aA h,aA h,aA h,aA h,aA h,aA h,aA h,aA h,free_at h⟩
theorem kH{w:H}{b:Nat}{C B y x v s r p n l j:af}{t:dh}(a c d e f g h i m q u:af)(a0:w.heap[b]?=V (E #[C,B,y,x,v,s,r,p,n,l,j] t (0,0))):
 (((((((((((w.setCell ⟨b,0,I⟩ a).setCell ⟨b,1,I⟩ c).setCell ⟨b,2,I⟩ d).setCell ⟨b,3,I⟩ e).setCell ⟨b,4,I⟩ f).setCell ⟨b,5,I⟩ g).setCell ⟨b,6,I⟩ h).setCell ⟨b,7,I⟩ i).setCell ⟨b,8,I⟩ m).setCell ⟨b,9,I⟩ q).setCell ⟨b,10,I⟩ u).heap[b]?=V (E #[a,c,d,e,f,g,h,i,m,q,u] t (0,0))/\
 Keeps (λk=>k=b) w (((((((((((w.setCell ⟨b,0,I⟩ a).setCell ⟨b,1,I⟩ c).setCell ⟨b,2,I⟩ d).setCell ⟨b,3,I⟩ e).setCell ⟨b,4,I⟩ f).setCell ⟨b,5,I⟩ g).setCell ⟨b,6,I⟩ h).setCell ⟨b,7,I⟩ i).setCell ⟨b,8,I⟩ m).setCell ⟨b,9,I⟩ q).setCell ⟨b,10,I⟩ u):=by
 have F:(w.setCell ⟨b,0,I⟩ a).heap[b]?=V (E #[a,B,y,x,v,s,r,p,n,l,j] t (0,0)):=aB (o:=0) a0 a;have K:((w.setCell ⟨b,0,I⟩ a).setCell ⟨b,1,I⟩ c).heap[b]?=V (E #[a,c,y,x,v,s,r,p,n,l,j] t (0,0)):=aB (o:=1) F c;have N:(((w.setCell ⟨b,0,I⟩ a).setCell ⟨b,1,I⟩ c).setCell ⟨b,2,I⟩ d).heap[b]?=V (E #[a,c,d,x,v,s,r,p,n,l,j] t (0,0)):=aB (o:=2) K d;have P:((((w.setCell ⟨b,0,I⟩ a).setCell ⟨b,1,I⟩ c).setCell ⟨b,2,I⟩ d).setCell ⟨b,3,I⟩ e).heap[b]?=V (E #[a,c,d,e,v,s,r,p,n,l,j] t (0,0)):=aB (o:=3) N e;have R:(((((w.setCell ⟨b,0,I⟩ a).setCell ⟨b,1,I⟩ c).setCell ⟨b,2,I⟩ d).setCell ⟨b,3,I⟩ e).setCell ⟨b,4,I⟩ f).heap[b]?=V (E #[a,c,d,e,f,s,r,p,n,l,j] t (0,0)):=aB (o:=4) P f;have S:((((((w.setCell ⟨b,0,I⟩ a).setCell ⟨b,1,I⟩ c).setCell ⟨b,2,I⟩ d).setCell ⟨b,3,I⟩ e).setCell ⟨b,4,I⟩ f).setCell ⟨b,5,I⟩ g).heap[b]?=V (E #[a,c,d,e,f,g,r,p,n,l,j] t (0,0)):=aB (o:=5) R g;have W:(((((((w.setCell ⟨b,0,I⟩ a).setCell ⟨b,1,I⟩ c).setCell ⟨b,2,I⟩ d).setCell ⟨b,3,I⟩ e).setCell ⟨b,4,I⟩ f).setCell ⟨b,5,I⟩ g).setCell ⟨b,6,I⟩ h).heap[b]?=V (E #[a,c,d,e,f,g,h,p,n,l,j] t (0,0)):=aB (o:=6) S h;have X:((((((((w.setCell ⟨b,0,I⟩ a).setCell ⟨b,1,I⟩ c).setCell ⟨b,2,I⟩ d).setCell ⟨b,3,I⟩ e).setCell ⟨b,4,I⟩ f).setCell ⟨b,5,I⟩ g).setCell ⟨b,6,I⟩ h).setCell ⟨b,7,I⟩ i).heap[b]?=V (E #[a,c,d,e,f,g,h,i,n,l,j] t (0,0)):=aB (o:=7) W i;have h8:(((((((((w.setCell ⟨b,0,I⟩ a).setCell ⟨b,1,I⟩ c).setCell ⟨b,2,I⟩ d).setCell ⟨b,3,I⟩ e).setCell ⟨b,4,I⟩ f).setCell ⟨b,5,I⟩ g).setCell ⟨b,6,I⟩ h).setCell ⟨b,7,I⟩ i).setCell ⟨b,8,I⟩ m).heap[b]?=V (E #[a,c,d,e,f,g,h,i,m,l,j] t (0,0)):=aB (o:=8) X m;have h9:((((((((((w.setCell ⟨b,0,I⟩ a).setCell ⟨b,1,I⟩ c).setCell ⟨b,2,I⟩ d).setCell ⟨b,3,I⟩ e).setCell ⟨b,4,I⟩ f).setCell ⟨b,5,I⟩ g).setCell ⟨b,6,I⟩ h).setCell ⟨b,7,I⟩ i).setCell ⟨b,8,I⟩ m).setCell ⟨b,9,I⟩ q).heap[b]?=V (E #[a,c,d,e,f,g,h,i,m,q,j] t (0,0)):=aB (o:=9) h8 q;have z:(((((((((((w.setCell ⟨b,0,I⟩ a).setCell ⟨b,1,I⟩ c).setCell ⟨b,2,I⟩ d).setCell ⟨b,3,I⟩ e).setCell ⟨b,4,I⟩ f).setCell ⟨b,5,I⟩ g).setCell ⟨b,6,I⟩ h).setCell ⟨b,7,I⟩ i).setCell ⟨b,8,I⟩ m).setCell ⟨b,9,I⟩ q).setCell ⟨b,10,I⟩ u).heap[b]?=V (E #[a,c,d,e,f,g,h,i,m,q,u] t (0,0)):=aB (o:=10) h9 u;exact⟨z,(((((((((((ah (λk=>k=b) w).E9 _ _).E9 _ _).E9 _ _).E9 _ _).E9 _ _).E9 _ _).E9 _ _).E9 _ _).E9 _ _).E9 _ _).E9 _ _⟩
def aKJ(w1:H)(b:Nat)(s:ByteArray)(d:Nat)(en:Bool)(X:Except (Nat×Nat) Tr)(c:Nat)(r:Rr)(wr:H):Prop:=T b w1 wr/\∃i a,c<=i/\aU wr b s d i r a/\LG s d en X i r
theorem LG.blank{s:ByteArray}{d i:Nat}{en:Bool}{X:Except (Nat×Nat) Tr}{r:Rr}(h:LG s d en X i r)(f:s.size<=16777216)(hi:i<s.size)(a:aX s[i]=G):LG s d en X (i+1) r:=by
 obtain⟨_,⟨p,b⟩,c⟩:=h;refine⟨hi,tW b a (by omega),λe=>?_⟩;rw[c e,aZ hi,bs,if_pos a]
theorem aKK{w:H}{b d i a:Nat}{s:ByteArray}{r:Rr}(h:aU w b s d i r a):mOf s b (Z G) w=s.size+2-i:=by
 obtain⟨P,e,k,m,l,p,a1,o,n,a2,q,j,c,-⟩:=h;obtain⟨⟨_,_,g,_⟩,⟨_,_,_,_,_,f,_⟩,_⟩:=cZ c;unfold mOf xN placeOf;rw[f,g];simp
theorem aKl{w:H}{a:Nat}{s:ByteArray}:mOf s a (Z U) w=0:=by
 unfold mOf xN;simp
theorem aKm{w:H}{b no:Nat}{a:Int}{s:ByteArray}(h:wX w b no a)(c:no≠0):mOf s b (Z G) w=0:=by
 obtain⟨f,l,q,t,P,nodes,bytes,i,m,k,r,a1,p,n,a2,j,g,o,d⟩:=h;obtain⟨_,⟨_,_,_,_,_,e,_⟩,_⟩:=cZ d;unfold mOf xN;rw[e];have:(((no:Nat):Int)==0)=U:=by simp;omega
 simp[this]
theorem lB.D9{w w':H}{c d i:Nat}{s:ByteArray}{R:Ra}{e:ck}(h:lB w c s d i R e w'):∃b,e=aj (Z b):=by
 obtain⟨_,h⟩:=h;cases R with
 | on n r=>exact⟨_,h.1⟩
 | cut=>exact⟨_,h.1⟩
 | bad no a=>exact⟨_,h.1⟩
theorem aHs{w1 wr u:H}{q d i b:Nat}{s:ByteArray}{en v:Bool}{X:Except (Nat×Nat) Tr}{r:Rr}(k:T q w1 wr)(w:LG s d en X b r)(hi:b<s.size)(P:s.size<=16777216)(y:aX s[b]=U)(z:q<=wr.heap.size)(c:lB wr q s d b (r.stepE en d s[b] (s.data.toList.drop (b+1))) (aj (Z v)) u)(B:i<=b):
 aFd w1 q s d en X (Z v) u/\mOf s q (Z v) u<s.size+2-i:=by
 obtain⟨_,⟨p,C⟩,F⟩:=w;have l:(s.data.toList.drop (b+1)).length=s.size-(b+1):=by simp
 have g:en=G->X=match r.B4 d s[b] (s.data.toList.drop (b+1))with
  | .cut=>bz (95,b+((s.data.toList.drop (b+1)).length+1))
  | .bad no a=>bz (no,b+a)
  | .on n f=>bs d f (b+n) ((s.data.toList.drop (b+1)).drop (n-1)):=λe=>by
  rw[F e,aZ hi,bs,if_neg (by rw[y];simp)];cases r.B4 d s[b] (s.data.toList.drop (b+1))<;>rfl
 obtain⟨m,c⟩:=c;cases h:r.stepE en d s[b] (s.data.toList.drop (b+1))with
 | on n t=>
  rw[h]at c;obtain⟨f,o,j⟩:=c;obtain⟨R,K,N,x⟩:=xM C y (by rw[l];omega) h;rw[l]at K;injection f with f
  injection f with f
  subst f;refine⟨⟨k.trans m,bc ⟨rfl,b+n,t,o,j,by omega,⟨N,x⟩,λe=>?_⟩⟩,by rw[aKK j];omega⟩;rw[g e,aDb h]
  show bs d t (b+n) ((s.data.toList.drop (b+1)).drop (n-1))=_
  rw[List.drop_drop,show b+1+(n-1)=b+n by omega]
 | cut=>
  rw[h]at c;obtain⟨f,t,o,j⟩:=c;injection f with f
  injection f with f
  subst f;refine⟨⟨k.trans m,ba (bc ⟨rfl,⟨b,t,o,j⟩,λe=>?_⟩)⟩,by rw[aKl];omega⟩;subst e;rw[qC]at h;rw[g rfl,h,l,show b+(s.size-(b+1)+1)=s.size by omega]
 | bad no a=>
  rw[h]at c;obtain⟨f,j⟩:=c;have o:=aJt h;injection f with f
  injection f with f
  subst f;refine⟨⟨k.trans m,ba (ba ⟨rfl,no,b+a,o,j,λe=>?_⟩)⟩,by rw[aKm j o];omega⟩;subst e;rw[qC]at h;rw[g rfl,h]
theorem aAp(w:H)(s:ByteArray)(d:Nat)(en:Bool)(hd:d<=512)(hs:s.size<=16777216):ag Q 48 #[D s,J O d,Z en] w λe w'=>aKY w en (lH s.data.toList d) e w':=by
 obtain⟨X,m⟩:∃X,lH s.data.toList d=X:=⟨_,rfl⟩;obtain⟨h,g⟩:∃h,w.heap.size+1=h:=⟨_,rfl⟩;obtain⟨w1,c⟩:∃w1,(w.alloc (E #[J O 0,J O 0,J O 0,J O 0,Z U,J O 0,Z U,J A 0,D ⟨#[]⟩,Y I 0 0,Y I 0 0] 36)).alloc (E (rdC s d 0 0 (Y I 0 0) 0 0 0 U 0 ⟨#[]⟩ (Y I 0 0) (Y I 0 0) 0 0 0) 172)=w1:=⟨_,rfl⟩
 have f:w1.heap[h]?=V (E (rdC s d 0 0 (Y I 0 0) 0 0 0 U 0 ⟨#[]⟩ (Y I 0 0) (Y I 0 0) 0 0 0) 172 (0,0)):=by
  rw[<-c,<-g];have:=bm (w.alloc (E #[J O 0,J O 0,J O 0,J O 0,Z U,J O 0,Z U,J A 0,D ⟨#[]⟩,Y I 0 0,Y I 0 0] 36)) (E (rdC s d 0 0 (Y I 0 0) 0 0 0 U 0 ⟨#[]⟩ (Y I 0 0) (Y I 0 0) 0 0 0) 172);rw[World.size_alloc]at this;exact this
 have j:aU w1 h s d 0 ⟨0,[],0,0,.null⟩ h:=⟨Y I 0 0,[],0,U,0,⟨#[]⟩,I,0,0,I,0,0,f,bg (ak f),.E0 _ _ _,λk e=>(by cases e),.nil _ _ (aw _),λe=>(by cases e)⟩;have HI0:=L (show aFd w1 h s d en X (Z G) w1 from⟨bp _ _,bc ⟨rfl,0,_,_,j,ep _,⟨_,tB hd⟩,λ_=>by rw[<-m];rfl⟩⟩)
 have l:w1.heap[w.heap.size]?=V (E #[J O 0,J O 0,J O 0,J O 0,Z U,J O 0,Z U,J A 0,D ⟨#[]⟩,Y I 0 0,Y I 0 0] 36 (0,0)):=by
  rw[<-c];exact(et _ _ _ (by simp)).trans (bm w _)
 have b:=L (show w1.heap[w.heap.size]?=V (E #[J O 0,J O 0,J O 0,J O 0,Z U,J O 0,Z U,J A 0,D ⟨#[]⟩,Y I 0 0,Y I 0 0] 36 (0,0))/\T w.heap.size w w1/\w.heap.size+1=h from⟨l,by rw[<-c];exact((bp w.heap.size w).alloc (aw _) _).alloc (by simp) _,g⟩);rw[m];have HRB1:=L (ak f);clear f j l m;go_enter func48,ntmps48;go_wp2_with fail;have f:(w.alloc (E #[J O 0,J O 0,J O 0,J O 0,Z U,J O 0,Z U,J A 0,D ⟨#[]⟩,Y I 0 0,Y I 0 0] 36)).alloc (E #[D s,J O d,J O 0,J O 0,Y I 0 0,J O 0,J O 0,J O 0,Z U,J A 0,D ⟨#[]⟩,Y I 0 0,Y I 0 0,J O 0,J O 0,J O 0] 172)=w1:=c;rw[f];clear c f g
 go_loopw [8] (λv wr=>M (aFd w1 h s d en X v wr)) (λv wr=>mOf s h v wr)
 case atStart=>exact HI0
 case round=>
  obtain⟨f,o⟩:=hrel.o;rcases o with⟨rfl,i,r,top,q,g⟩|⟨rfl,⟨i,r,top,q⟩,hx⟩|⟨rfl,no,a,hno,q,hx⟩
  .have HLG:=L g;have c:=q;obtain⟨P,pcs,so,fl,bi,tx,a1,n1,m1,a2,n2,m2,n,-⟩:=q;obtain⟨⟨-,-,q2,-,-,-,-,-⟩,⟨-,-,-,-,-,qd,-,-⟩,-⟩:=cZ n;have HM0:=L (show mOf s h (Z G) wr=s.size+2-i from by unfold mOf xN placeOf;rw[qd,q2];simp);have HIN:=L (show aKJ w1 h s d en X i r wr from⟨f,i,top,aw _,c,g⟩);clear n c g f;go_wp2_with fail
   go_loopw [18] (λ_ wi=>M (aKJ w1 h s d en X i r wi)) (λ_ wi=>s.size-placeOf h wi)
   case atStart=>exact HIN
   case round=>
    obtain⟨f,j,top2,y,c,g⟩:=hrel.o;have HAT2:=L (And.intro c (And.intro g y));have l:=L f
    by_cases hsz:j<s.size
    .have e1:(j:Int)<(s.size:Int):=by omega
     have N:(0:Int)<=(j:Int):=by omega
     have t:=L (λW=>aDI W s[j]);obtain⟨R,c2,S⟩:=c.F6;have u:h<wr.heap.size:=by obtain⟨P,pcs,so,fl,bi,tx,a1,n1,m1,a2,n2,m2,n,-⟩:=c;exact ak n
     have z:=L u;have x:placeOf h wr=j:=by unfold placeOf;rw[c2];simp
     have B:=L x;cases m:aX s[j]with
     | true=>
      rw[m]at t;have j1:O.wrap ((j:Int)+1)=((j+1:Nat):Int):=by rw[dl];omega
      have C:=L (show aKJ w1 h s d en X i r (wr.setCell ⟨h,2,I⟩ (J O ((j:Int)+1)))from⟨f.trans (((ah (λk=>k=h) wr).E9 2 _).B3 (ao (bg HRB1.o) f.size) λk e=>by omega),j+1,top2,by omega,c.B4 (j+1) _ (by simp),g.blank hs hsz m⟩)
      have F:=L (show placeOf h (wr.setCell ⟨h,2,I⟩ (J O ((j:Int)+1)))=j+1 from by
       have K:=(c.B4 (j+1) ((j:Int)+1) (by simp)).F6.2.1;unfold placeOf;rw[K];simp)
      clear c g f x m u;go_wp2_with fail;refine(t.o _).mono ?_;rintro e w2 ⟨rfl,rfl⟩;go_wp2_with fail;exact⟨L C.o,by rw[F.o,B.o];omega⟩
     | false=>
      rw[m]at t;have C:=L (aEm wr h s d j top2 r c (by obtain⟨_,⟨p,K⟩,_⟩:=g;exact aAo K hd) en hsz hs);have F:=L m;clear f x u c g m;go_wp2_with fail;refine(t.o _).mono ?_;rintro e w2 ⟨rfl,rfl⟩;go_wp2_with fail;refine C.o.mono ?_;rintro e x o;obtain⟨bv,rfl⟩:=lB.D9 o;have u:=L o;clear o;go_wp2_with fail;have m:=aHs l.o HAT2.o.2.1 hsz hs F.o (bg z.o) u.o HAT2.o.2.2;exact⟨L m.1,by rw[HM0.o];exact m.2⟩
    .have e1:¬(j:Int)<(s.size:Int):=by omega
     have e2:(s.size:Int)<=(j:Int):=by omega
     have m:j=s.size:=by have:=g.1;omega
     have HXR:=L (show en=G->X=if r.want=6 then .ok r.done else bz (95,s.size)from λa0=>by
      rw[g.2.2 a0,m,List.drop_of_length_le (by simp),bs])
     obtain⟨P,pcs,so,fl,bi,tx,a1,n1,m1,a2,n2,m2,n,t⟩:=c;obtain⟨pa,pc,rfl⟩:=t.win.A8;obtain⟨u,x⟩:∃u,r.pile.length=u:=⟨_,rfl⟩;rw[x]at n;obtain⟨⟨-,-,q2,q3,q4,-,-,q7⟩,⟨q8,q9,qa,qb,qc,qd,-,-⟩,-⟩:=cZ n;have HRB:=L n;have HDN:=L t.done;clear n t x g f m y;cases en with
     | true=>
      by_cases o:r.want=6
      .have k6:((r.want:Int)!=6)=U:=by simp;omega
       have HD6:=L (And.intro (HDN.o o) (show X=.ok r.done by rw[HXR.o rfl,if_pos o]));have g:=(l.o.block w.heap.size (by have:=b.o.2.2;omega)).trans b.o.1;have m:=L (kH (J O 0) (J O 0) (J O 0) (J O 0) (Z G) (J O so) (Z fl) (J A bi) (D tx) (Y a1 n1 m1) (Y a2 n2 m2) g);obtain⟨p0,p1,p2,p3,p4,p5,p6,p7,p8,p9,pa',pf⟩:=dW g;have n5:¬h=w.heap.size:=by have:=b.o.2.2;omega
       clear g o;go_wp2_with fail;obtain⟨y,z,B,C,F,K,N,R,S,r9,ra,_⟩:=dW m.o.1;refine bh (v:=kG 0 0 0 0 G so fl bi tx (Y a1 n1 m1) (Y a2 n2 m2)) (by simp[bj,co,go_sem,kG,y,z,B,C,F,K,N,R,S,r9,ra]) rfl ⟨0,0,0,0,G,so,fl,bi,tx,a1,n1,m1,a2,n2,m2,rfl,?_,λa0=>?_⟩
       .exact(b.o.2.1.trans (l.o.mono (by have:=b.o.2.2;omega))).trans (m.o.2.B3 (ao b.o.2.1.size l.o.size) λk e=>by omega)
       .rw[HD6.o.2];refine⟨rfl,(HD6.o.1.A0 m.o.2 λk e _ e2=>by have:=b.o.2.2;omega).A6 λk e _=>by have:=b.o.2.2;omega⟩
      .have k6:((r.want:Int)!=6)=G:=by simp;omega
       have HXX:=L (show G=G->X=bz (95,s.size)from λa0=>by rw[HXR.o a0,if_neg o]);clear o;go_wp2_with fail;refine(qY wr h 95 s.size s.size s d _ r.want _ _ _ _ _ _ _ _ _ HRB.o).mono ?_;rintro e w5 ⟨rfl,o,hb5⟩;obtain⟨⟨-,-,-,-,-,-,-,-⟩,⟨-,-,-,-,-,zd,ze,zf⟩,_⟩:=cZ hb5;have g:=o.C4 ((l.o.block w.heap.size (by have:=b.o.2.2;omega)).trans b.o.1) (by have:=b.o.2.2;omega);have m:=L (kH (J O 95) (J O s.size) (J O s.size) (J O 0) (Z U) (J O 0) (Z U) (J A 0) (D ⟨#[]⟩) (Y I 0 0) (Y I 0 0) g);obtain⟨p0,p1,p2,p3,p4,p5,p6,p7,p8,p9,pa,pf⟩:=dW g;have HK5:=L o;clear o hb5 g;go_wp2_with fail;obtain⟨y,z,B,C,F,K,N,R,S,r9,ra,_⟩:=dW m.o.1;refine bh (v:=kG 95 s.size s.size 0 U 0 U 0 ⟨#[]⟩ (Y I 0 0) (Y I 0 0)) (by simp[bj,co,go_sem,kG,y,z,B,C,F,K,N,R,S,r9,ra]) rfl ⟨95,s.size,s.size,0,U,0,U,0,⟨#[]⟩,I,0,0,I,0,0,rfl,?_,λa0=>?_⟩
       .exact((b.o.2.1.trans (l.o.mono (by have:=b.o.2.2;omega))).trans (HK5.o.B3 (ao b.o.2.1.size l.o.size) λk e=>by have:=b.o.2.2;omega)).trans (m.o.2.B3 (ao (ao b.o.2.1.size l.o.size) HK5.o.size) λk e=>by omega)
       .rw[HXX.o (by first|exact a0|trivial)];exact⟨rfl,by decide⟩
     | false=>
      have g:=(l.o.block w.heap.size (by have:=b.o.2.2;omega)).trans b.o.1;have m:=L (kH (J O 0) (J O 0) (J O 0) (J O u) (Z U) (J O 0) (Z U) (J A 0) (D ⟨#[]⟩) (Y I 0 0) (Y I 0 0) g);obtain⟨p0,p1,p2,p3,p4,p5,p6,p7,p8,p9,pa',pf⟩:=dW g;clear g;go_wp2_with fail;obtain⟨y,z,B,C,F,K,N,R,S,r9,ra,_⟩:=dW m.o.1;refine bh (v:=kG 0 0 0 u U 0 U 0 ⟨#[]⟩ (Y I 0 0) (Y I 0 0)) (by simp[bj,co,go_sem,kG,y,z,B,C,F,K,N,R,S,r9,ra]) rfl ⟨0,0,0,u,U,0,U,0,⟨#[]⟩,I,0,0,I,0,0,rfl,?_,λa0=>by cases a0⟩;exact(b.o.2.1.trans (l.o.mono (by have:=b.o.2.2;omega))).trans (m.o.2.B3 (ao b.o.2.1.size l.o.size) λk e=>by omega)
  .have l:=L f;have HXX:=L hx;obtain⟨P,pcs,so,fl,bi,tx,a1,n1,m1,a2,n2,m2,n,t⟩:=q;obtain⟨pa,pc,rfl⟩:=t.win.A8;obtain⟨u,x⟩:∃u,r.pile.length=u:=⟨_,rfl⟩;rw[x]at n;obtain⟨⟨-,-,-,-,q4,-,-,-⟩,⟨-,-,-,-,-,qd,-,-⟩,-⟩:=cZ n;have HRB:=L n;clear n t hx x f;cases en with
   | true=>
    go_wp2_with fail;refine(qY wr h 95 s.size s.size s d i r.want _ _ _ _ _ _ _ _ _ HRB.o).mono ?_;rintro e w5 ⟨rfl,o,hb5⟩;obtain⟨⟨-,-,-,-,-,-,-,-⟩,⟨-,-,-,-,-,zd,ze,zf⟩,_⟩:=cZ hb5;have g:=o.C4 ((l.o.block w.heap.size (by have:=b.o.2.2;omega)).trans b.o.1) (by have:=b.o.2.2;omega);have m:=L (kH (J O 95) (J O s.size) (J O s.size) (J O 0) (Z U) (J O 0) (Z U) (J A 0) (D ⟨#[]⟩) (Y I 0 0) (Y I 0 0) g);obtain⟨p0,p1,p2,p3,p4,p5,p6,p7,p8,p9,pa,pf⟩:=dW g;have HK5:=L o;clear o hb5 g;go_wp2_with fail;obtain⟨y,z,B,C,F,K,N,R,S,r9,ra,_⟩:=dW m.o.1;refine bh (v:=kG 95 s.size s.size 0 U 0 U 0 ⟨#[]⟩ (Y I 0 0) (Y I 0 0)) (by simp[bj,co,go_sem,kG,y,z,B,C,F,K,N,R,S,r9,ra]) rfl ⟨95,s.size,s.size,0,U,0,U,0,⟨#[]⟩,I,0,0,I,0,0,rfl,?_,λa0=>?_⟩
    .exact((b.o.2.1.trans (l.o.mono (by have:=b.o.2.2;omega))).trans (HK5.o.B3 (ao b.o.2.1.size l.o.size) λk e=>by have:=b.o.2.2;omega)).trans (m.o.2.B3 (ao (ao b.o.2.1.size l.o.size) HK5.o.size) λk e=>by omega)
    .rw[HXX.o (by first|exact a0|trivial)];exact⟨rfl,by decide⟩
   | false=>
    have g:=(l.o.block w.heap.size (by have:=b.o.2.2;omega)).trans b.o.1;have m:=L (kH (J O 0) (J O 0) (J O 0) (J O u) (Z U) (J O 0) (Z U) (J A 0) (D ⟨#[]⟩) (Y I 0 0) (Y I 0 0) g);obtain⟨p0,p1,p2,p3,p4,p5,p6,p7,p8,p9,pa',pf⟩:=dW g;clear g;go_wp2_with fail;obtain⟨y,z,B,C,F,K,N,R,S,r9,ra,_⟩:=dW m.o.1;refine bh (v:=kG 0 0 0 u U 0 U 0 ⟨#[]⟩ (Y I 0 0) (Y I 0 0)) (by simp[bj,co,go_sem,kG,y,z,B,C,F,K,N,R,S,r9,ra]) rfl ⟨0,0,0,u,U,0,U,0,⟨#[]⟩,I,0,0,I,0,0,rfl,?_,λa0=>by cases a0⟩;exact(b.o.2.1.trans (l.o.mono (by have:=b.o.2.2;omega))).trans (m.o.2.B3 (ao b.o.2.1.size l.o.size) λk e=>by omega)
  .obtain⟨l,o,t,u,P,nodes,bytes,so,fl,bi,tx,a1,n1,m1,a2,n2,m2,j,n⟩:=q;obtain⟨⟨-,-,-,-,-,-,-,-⟩,⟨-,-,-,-,-,qd,x,qf⟩,_⟩:=cZ n;have e1:(((no:Nat):Int)==0)=U:=by simp;omega
   have e2:(((no:Nat):Int)!=0)=G:=by simp;omega
   have g:=(f.block w.heap.size (by have:=b.o.2.2;omega)).trans b.o.1;have m:=L (kH (J O no) (J O a) (J O j) (J O 0) (Z U) (J O 0) (Z U) (J A 0) (D ⟨#[]⟩) (Y I 0 0) (Y I 0 0) g);obtain⟨p0,p1,p2,p3,p4,p5,p6,p7,p8,p9,pa,pf⟩:=dW g;have c:=L (And.intro hx (And.intro hno f));clear n hx hno g;go_wp2_with fail;obtain⟨y,z,B,C,F,K,N,R,S,r9,ra,_⟩:=dW m.o.1;refine bh (v:=kG no a j 0 U 0 U 0 ⟨#[]⟩ (Y I 0 0) (Y I 0 0)) (by simp[bj,co,go_sem,kG,y,z,B,C,F,K,N,R,S,r9,ra]) rfl ⟨no,a,j,0,U,0,U,0,⟨#[]⟩,I,0,0,I,0,0,rfl,?_,λa0=>?_⟩
   .exact(b.o.2.1.trans (c.o.2.2.mono (by have:=b.o.2.2;omega))).trans (m.o.2.B3 (ao b.o.2.1.size c.o.2.2.size) λk e=>by omega)
   .rw[c.o.1 a0];exact⟨rfl,c.o.2.1⟩
theorem aBP{keys:List (List UInt8)}{a:List af}{i:Nat}{k:List UInt8}{v:af}(b:keys[i]?=V k)(d:a.length=i):jZ (keys.take (i+1)) (a++ [v])=jZ (keys.take i) a++ [encS k,v]:=by
 have c:(keys.take i).length=a.length:=by
  have:=(List.getElem?_eq_some_iff.1 b).1;simp;omega
 unfold jZ;rw[vN b,List.zip_append c,List.map_append,List.flatten_append];simp[aFl]
theorem aJQ(w:H)(a b:af)(d:dh):∀(j:Nat)(u:af),[a,b][j]?=V u->(w.alloc (E #[a,b] d)).cell? ((⟨w.heap.size,0,I⟩:cg).add j)=V u:=λj u c=>by
 rw[Addr.add_lit,Nat.zero_add];exact(aA (bm w _)).trans (by simpa using c)
theorem aBQ(F:Nat->Prop)(w:H)(b:Nat)(z r:af)(j:List af)(keys:List (List UInt8))(l:List Tr)(z0 z1 z2:Int)
 (d:w.heap[b]?=V (E #[J O z0,J O z1,J O z2,z,r] 189 (0,0)))(P:Win 9 encS w z keys)(hw:Win 97 id w r j)(q:j.length=l.length)(f:keys.length=l.length)
 (ht:∀(i:Nat)(v:af)(t:Tr),j[i]?=V v->l[i]?=V t->dP F w v t)(hl:l.length<=65536)(ih:∀t∈l,aAD t):
 ag Q 50 #[bk #[ae 187 (ac (V ⟨b,0,I⟩))]] w λe w'=>lS w (.object keys l) e w':=by
 obtain⟨a,c,rfl⟩:=hw.A8;obtain⟨ka,kc,rfl⟩:=P.A8;rw[q]at d hw;rw[f]at d P
 have HT:=L (λ(i:Nat)(hi:i<l.length)=>show ∃a0 x t g off,l[i]?=V t/\a=V ⟨g,off,I⟩/\∀W,T w.heap.size w W->W.cell? ⟨g,off+i,I⟩=V (ae a0 x)/\ag Q 50 #[bk #[ae a0 x]] W λe w'=>lS W t e w' from by
  rcases hw with⟨_,e⟩|⟨g,off,cap,cur,e1,hg,-,-,-,hi2⟩
  .rw[e]at q;simp at q;omega
  .injection e1 with x1 x2 x3
   subst x1;have B:l[i]?=V l[i]:=di hi;have y:j[i]?=V (j[i]'(by omega)):=di (by omega);have s:=ht i _ _ y B;obtain⟨a0,x,hv⟩:=s.L5;rw[hv]at s;exact⟨a0,x,_,g,off,B,rfl,λW hb=>⟨by rw[aA (keep hg hb),<-hv];exact hi2 i _ y,ih _ (List.getElem_mem hi) F W _ (s.A0 (cu (λ_=>False) hb) λ_ _=>id)⟩⟩)
 have HKS:=L (λ(W:H)(hb:T w.heap.size w W)(i:Nat)(hi:i<l.length)=>show ∃(k:List UInt8)(S:ByteArray)(g off:Nat),encS k=D S/\keys[i]?=V k/\g<w.heap.size/\ka=V ⟨g,off,I⟩/\W.cell? ⟨g,off+i,I⟩=V (D S)from by
  rcases P with⟨_,e⟩|⟨g,off,cap,cur,e1,hg,-,-,-,hi2⟩
  .rw[e]at f;simp at f;omega
  .injection e1 with x1 x2 x3
   subst x1;have y:keys[i]?=V (keys[i]'(by omega)):=di (by omega);exact⟨_,_,g,off,rfl,y,ak hg,rfl,by rw[aA (keep hg hb)];exact hi2 i _ y⟩)
 obtain⟨n,hn⟩:∃n,l.length=n:=⟨_,rfl⟩;rw[hn]at d HT HKS hl f;have HN:=L (And.intro hn f);have ta1:∀w:H,(az (ae 187 (ac (V ⟨b,0,I⟩))) 97 177 G).run Q w=au (av #[bk #[],Z U]) w:=λ_=>by kernel_rfl
 have ta2:∀w:H,(az (ae 187 (ac (V ⟨b,0,I⟩))) 97 178 G).run Q w=au (av #[Z U,Z U]) w:=λ_=>by kernel_rfl
 have ta3:∀w:H,(az (ae 187 (ac (V ⟨b,0,I⟩))) 97 179 G).run Q w=au (av #[.float .f64 0,Z U]) w:=λ_=>by kernel_rfl
 have ta4:∀w:H,(az (ae 187 (ac (V ⟨b,0,I⟩))) 97 180 G).run Q w=au (av #[D ⟨#[]⟩,Z U]) w:=λ_=>by kernel_rfl
 have ta5:∀w:H,(az (ae 187 (ac (V ⟨b,0,I⟩))) 97 181 G).run Q w=au (av #[ac I,Z U]) w:=λ_=>by kernel_rfl
 have ta:∀w:H,(az (ae 187 (ac (V ⟨b,0,I⟩))) 97 187 G).run Q w=au (av #[ac (V ⟨b,0,I⟩),Z G]) w:=λ_=>by kernel_rfl
 have hb:=(bp w.heap.size w).alloc (aw _) (E #[ae 187 (ac (V ⟨b,0,I⟩))] 99);have hc:(w.alloc (E #[ae 187 (ac (V ⟨b,0,I⟩))] 99)).cell? ⟨w.heap.size,0,I⟩=V (ae 187 (ac (V ⟨b,0,I⟩))):=cv (bm w _);have hc3:(w.alloc (E #[ae 187 (ac (V ⟨b,0,I⟩))] 99)).cell? ⟨b,4,I⟩=V (Y a n c):=(aA ((et _ _ _ (ak d)).trans d)).trans rfl;have HB:=L hb;have HBK:=L d;clear hb d hw P ht ih q hn f;go_enter func50,ntmps50
 go_wp2_with (at_make;refine yZ aFm rfl _ _ rfl _ _ _ _ n rfl rfl rfl rfl ?_ ?_ ?_)
 .omega
 .unfold dt;omega
 intro w2 m hbm hsz;have hb2:=HB.o.trans (hbm.mono (by simp));have hc2:w2.cell? ⟨b,4,I⟩=V (Y a n c):=(aA (keep HBK.o hb2)).trans rfl;have HL0:=L (show kW 2 130 w _ (jZ (keys.take 0) []) [] l 0 w2 from⟨m,λk e=>by cases e;exact Nat.le_succ _,kR.E0 _ _,hb2⟩);clear m hbm hsz hb2 hc3 hc;go_wp2_with fail
 go_loopw [78,12] (λv o wr=>∃(i:Nat)(vs:List af),v=J O i/\i<=n/\M (kW 2 130 w o (jZ (keys.take i) vs) vs l i wr)) (λv _ _=>n-(intOf v).toNat)
 case atStart=>exact⟨0,[],rfl,ep _,HL0⟩
 case round=>
  obtain⟨i,vs,rfl,hi,HL⟩:=hrel;obtain⟨B,y,s,h4⟩:=HL.o;obtain⟨oa,oc,rfl⟩:=B.A8
  by_cases hin:i<n
  .have e1:(i:Int)<(n:Int):=by omega
   have R:vs.length=i:=by have:=s.1;have:=HN.o.1;rw[List.length_take]at*;omega
   obtain⟨T0,x0,t,g,off,hlt,rfl,p⟩:=HT.o i hin;have hcell:=(p wr h4).1;obtain⟨k,S,kg,ko,X,hk,hkg,rfl,hkc⟩:=HKS.o wr h4 i hin;have hb3c:wr.cell? ⟨b,3,I⟩=V (Y (V ⟨kg,ko,I⟩) n kc):=(aA (keep HBK.o h4)).trans rfl;have HC:=L λW hW=>(p W hW).2
   have HLT:=L hlt;have HX:=L (And.intro X (And.intro hk (And.intro R (And.intro hkg (And.intro (ak HBK.o) y)))));have HBR:=L h4;have i1:(0:Int)<=(i:Int):=by omega
   have HBM:=L (show(i+1)*32<=140737488355328/\i+1<=dt from⟨by omega,by unfold dt;omega⟩);clear B y s h4 p hlt X hk R hkg;go_wp2_with fail
   go_region_held3 (λw'=>w'.cell? ⟨b,3,I⟩=V (Y (V ⟨kg,ko,I⟩) n kc)/\w'.cell? ⟨kg,ko+i,I⟩=V (D S)) (first|exact hS2|exact hS|go_keep) (first
    | (go_at_call 50;(refine(HC.o _ HBR.o.drew).mono ?_);rintro e K ⟨v',rfl,hap,N⟩;obtain⟨a0,x,rfl⟩:=hap.L5;have hS:K.cell? ⟨b,3,I⟩=V (Y (V ⟨kg,ko,I⟩) n kc)/\K.cell? ⟨kg,ko+i,I⟩=V (D S):=⟨bB N hb3c,bB N hkc⟩;have HAP:=L (And.intro hap (mG N));have HS:=L hS;clear hap N;have HW:=L ((HL.o.1.A0 (cu (λ_=>False) HAP.o.2) λ_ _=>id).A0 ((ah (λ_=>False) K).A4 (E #[D S,ae a0 x] 130)) λ_ _=>id);have HNC:=L (aJQ K (D S) (ae a0 x) 130))
    | (refine bO aFm rfl _ _ rfl rfl HW.o ⟨K.heap.size,0,I⟩ 1 1 [D S,ae a0 x] (by rfl) (by rfl) HNC.o (by intro u hu;simp at hu;rcases hu with rfl|rfl<;>rfl) (by decide) HBM.o.1 HBM.o.2 ?_;intro g' off' cap' w' m hgb C;have hS2:w'.cell? ⟨b,3,I⟩=V (Y (V ⟨kg,ko,I⟩) n kc)/\w'.cell? ⟨kg,ko+i,I⟩=V (D S):=⟨C.B5 (((ah (λ_=>False) K).A4 _).B5 HS.o.1 id) (λe=>by have:=HX.o.2.2.2.2.2 _ e;have:=HX.o.2.2.2.2.1;simp at*;omega),C.B5 (((ah (λ_=>False) K).A4 _).B5 HS.o.2 id) (λe=>by have:=HX.o.2.2.2.2.2 _ e;have:=HX.o.2.2.2.1;simp at*;omega)⟩))
   all_goals
    have HF:=L (And.intro m (And.intro hgb C));clear m hgb C;go_wp2_with fail;refine⟨⟨i+1,vs++ [ae a0 x],by go_num,by omega,L ?_⟩,by simp[intOf];omega⟩;obtain⟨X,hk,R,_⟩:=HX.o;rw[aBP hk R,X];exact HL.o.I8 HAP.o.1 HAP.o.2 HLT.o _ HF.o.1 (HF.o.2.1.imp id λh=>ao (show K.heap.size<=(K.alloc (E #[D S,ae a0 x] 130)).heap.size by simp) h.1) HF.o.2.2
  .have e1:¬(i:Int)<(n:Int):=by omega
   clear B y s h4;go_wp2_with fail;go_ret;have hie:i=n:=by omega
   obtain⟨B,y,s,h4⟩:=HL.o;obtain⟨hn,f⟩:=HN.o;subst hie;rw[<-hn,eu]at s;rw[<-f,eu,f]at B;rw[<-hn]at B;exact⟨_,rfl,.object _ keys vs l (by rw[hn];rw[hn]at B;exact B) y s.1 λi v t hv ht=>(s.2 i v t hv ht).A6 λk e _=>e.1,h4⟩
theorem aBR{t:Tr}(h:Small t):aAD t:=by
 induction h with
 | null=>intro F w v a;cases a;exact aF2 w
 | flag b=>intro F w v a;cases a;exact aF3 w b
 | num x=>intro F w v a;cases a;exact aHW w x
 | text s=>intro F w v a;cases a;exact aF4 w s
 | list l i h j=>
  intro F w v a;cases a with
  | list b o c l k e g d a=>exact aGh F w b o c l _ _ _ e g.1 d a i j
 | object keys l m i h j=>
  intro F w v a;cases a with
  | object b n o c keys l k e f g d a=>exact aBQ F w b n o c keys l _ _ _ e f.1 g.1 d m a i j
theorem aIc(w:H)(b:Nat)(g:dh)(x:af)(a:w.heap[b]?=V (E #[ae g x] 176 (0,0))):ag Q 49 #[ac (V ⟨b,0,I⟩)] w λe w'=>e=aj (bk #[ae g x])/\T w.heap.size w w':=by
 have f:w.cell? ⟨b,0,I⟩=V (ae g x):=cv a;have d:=ak a;clear a;go_enter func49,ntmps49;go_wp2_with fail;have c:(w.alloc (E #[ae g x] 99)).cell? ⟨w.heap.size,0,I⟩=V (ae g x):=cv (bm w _);exact bh (v:=bk #[ae g x]) (by simp[bj,results49,go_sem,c]) rfl ⟨rfl,(bp w.heap.size w).alloc (aw _) _⟩
theorem aId(w:H):ag Q 49 #[ac I] w λe w'=>e=aj (bk #[ai])/\T w.heap.size w w':=by
 go_enter func49,ntmps49;go_wp2_with fail;have a:(w.alloc (E #[ai] 99)).cell? ⟨w.heap.size,0,I⟩=V (ai):=cv (bm w _);exact bh (v:=bk #[ai]) (by simp[bj,results49,go_sem,a]) rfl ⟨rfl,(bp w.heap.size w).alloc (aw _) _⟩
theorem aGi(w:H):ag Q 50 #[bk #[ai]] w λe w'=>e=aj ai/\T w.heap.size w w':=by
 have g:∀w:H,(az ai 97 177 G).run Q w=au (av #[bk #[],Z U]) w:=λ_=>by kernel_rfl
 have f:∀w:H,(az ai 97 178 G).run Q w=au (av #[Z U,Z U]) w:=λ_=>by kernel_rfl
 have b:∀w:H,(az ai 97 179 G).run Q w=au (av #[.float .f64 0,Z U]) w:=λ_=>by kernel_rfl
 have d:∀w:H,(az ai 97 180 G).run Q w=au (av #[D ⟨#[]⟩,Z U]) w:=λ_=>by kernel_rfl
 have h:∀w:H,(az ai 97 181 G).run Q w=au (av #[ac I,Z U]) w:=λ_=>by kernel_rfl
 have i:∀w:H,(az ai 97 187 G).run Q w=au (av #[ac I,Z U]) w:=λ_=>by kernel_rfl
 have a:=(bp w.heap.size w).alloc (aw _) (E #[ai] 99);have j:(w.alloc (E #[ai] 99)).cell? ⟨w.heap.size,0,I⟩=V ai:=cv (bm w _);have c:=L a;clear a;go_enter func50,ntmps50;go_wp2_with fail;go_ret;exact⟨rfl,c.o⟩
theorem xY{t:Tr}(h:Small t)(F:Nat->Prop)(w:H)(b:Nat)(v:af)(g:w.heap[b]?=V (E #[v] 176 (0,0)))(f:dP F w v t):ag Q 14 #[ac (V ⟨b,0,I⟩)] w λe w'=>lS w t e w':=by
 obtain⟨o,x,rfl⟩:=f.L5;have m:=L (aIc w b o x g);have n:=L (λW(l:T w.heap.size w W)=>aBR h F W _ (f.A0 (cu (λ_=>False) l) λ_ _=>id));clear g f h;go_enter func14,ntmps14;go_wp2_with fail;refine m.o.mono ?_;rintro e w1 ⟨rfl,d⟩;have a:=L d;clear d;go_wp2_with fail;refine(n.o w1 a.o).mono ?_;rintro e w2 ⟨v,rfl,j,c⟩;have i:=L (And.intro j c);clear j c;go_wp2_with fail;go_ret;exact⟨v,rfl,i.o.1.A6 λk e _=>ao a.o.size e,chain a.o i.o.2⟩
theorem xZ(w:H):ag Q 14 #[ac I] w λe w'=>e=aj ai/\T w.heap.size w w':=by
 have f:=L (aId w);have g:=L (λW=>aGi W);go_enter func14,ntmps14;go_wp2_with fail;refine f.o.mono ?_;rintro e w1 ⟨rfl,b⟩;have c:=L b;clear b;go_wp2_with fail;refine(g.o w1).mono ?_;rintro e w2 ⟨rfl,a⟩;have d:=L a;clear a;go_wp2_with fail;go_ret;exact⟨rfl,chain c.o d.o⟩
def iW(r:Rr):Prop:=(∀f∈r.pile,∀t∈f.items,Small t)/\Small r.done
theorem iW.C7{r:Rr}{t:Tr}(h:iW r)(j:Small t):iW (r.C7 t):=by
 rcases cw r.pile with c|⟨i,f,c⟩
 .unfold Rr.C7;rw[c];exact⟨λf d=>(by simp at d),j⟩
 .rw[cz]at c;have d:=h.1;rw[c]at d;have e:r.C7 t={r with pile:=i++ [{f with items:=f.items++ [t]}],want:=5}:=by unfold Rr.C7;rw[c];simp
  rw[e];refine⟨λg b u a=>?_,h.2⟩;rcases dj.1 b with b|b
  .exact d g (du _ b) u a
  .simp at b;subst b;rcases dj.1 a with a|a
   .exact d f (by simp) u a
   .simp at a;subst a;exact j
theorem iW.D5{r b:Rr}{d:Nat}(h:iW r)(a:r.D5 d=.ok b):iW b:=by
 unfold Rr.D5 at a
 repeat' (first|(injection a with a;subst a;exact h)|(cases a;done)|split at a)
theorem iW.L7{r:Rr}{d:Nat}{a:List RFr}{f:RFr}(h:iW r)(m:ROk r d)(c:r.pile=a++ [f])(p:f.object=G->r.want=5\/r.want=2):iW r.L7:=by
 rw[aIv c];have j:=h.1;rw[c]at j;refine iW.C7 (r:={r with pile:=a}) ⟨λg e=>j g (du _ e),h.2⟩ ?_;have i:=m.bnd.items f (by rw[c];simp);have b:=j f (by simp);unfold madeOf;cases n:f.object with
 | false=>exact .list _ i b
 | true=>
  obtain⟨q,-,-⟩:=m.obj a f c n (p n);have o:(cV f.keys).length=f.keys.length:=(fI f.keys).length_eq;refine .object _ _ (by unfold besides;simp) (by unfold besides;simp;omega) λt l=>?_
  unfold besides at l;obtain⟨k,_,rfl⟩:=List.mem_map.1 l;rw[List.getD_eq_getElem?_getD];cases e:f.items[f.keys.idxOf k]? with
  | none=>exact .null
  | some u=>exact b u (List.mem_of_getElem? e)
theorem iW.textAns{r j:Rr}{n:Nat}{p:Pc (List UInt8×Nat)}(h:iW r)(b:jH r p=.on n j):iW j:=by
 cases p with
 | cut=>cases b
 | bad no a=>cases b
 | ok x=>
  obtain⟨s,m⟩:=x;unfold jH at b;simp only at b;split at b
  .cases b
  .split at b
   .cases b
   .split at b
    .injection b with _ b
     subst b;rcases cw r.pile with d|⟨k,f,d⟩
     .unfold Rr.L9;rw[d];exact⟨λf e=>(by simp at e),h.2⟩
     .rw[cz]at d;have e:=h.1;rw[d]at e;rw[aIN d];refine⟨λg c u i=>?_,h.2⟩;rcases dj.1 c with c|c
      .exact e g (du _ c) u i
      .simp at c;subst c;exact e f (by simp) u i
    .injection b with _ b
     subst b;exact iW.C7 (r:={r with bytes:=r.bytes+s.length}) h (.text s)
theorem iW.B4{r p:Rr}{d n:Nat}{c:UInt8}{t:List UInt8}(h:iW r)(s:ROk r d)(a:r.B4 d c t=.on n p):iW p:=by
 unfold dm at a;split at a
 .unfold cr at a;split at a
  .unfold ar at a;split at a
   .cases a
   .rename_i k b;injection a with _ a
    subst a;have o:=h.D5 b;refine⟨λg e u m=>?_,o.2⟩;rcases dj.1 e with e|e
    .exact o.1 g e u m
    .simp at e;subst e;simp at m
  .split at a
   .injection a with _ a;subst a;exact h
   .split at a
    .injection a with _ a;subst a;exact h
    .split at a
     .injection a with _ a;subst a;exact h
     .split at a
      .rename_i j;injection a with _ a
       subst a;rcases cw r.pile with i|⟨q,f,i⟩
       .unfold ev Rr.E5 at j;rw[i]at j;simp at j
       .rw[cz]at i;refine h.L7 s i λw=>?_
        rcases j with⟨_,l,_⟩|⟨_,_,v⟩
        .unfold ev at l;rw[i]at l;simp[w]at l
        .exact v
      .cases a
 .split at a
  .unfold em at a;split at a
   .exact h.textAns a
   .unfold ar at a;split at a
    .cases a
    .rename_i k b;exact(h.D5 b).textAns a
  .split at a
   .unfold eo ar at a;split at a
    .cases a
    .rename_i k b
     repeat' (first|(injection a with _ a;subst a;refine(h.D5 b).C7 ?_;unfold jY;(repeat' split)<;>constructor;done)|(cases a;done)|split at a)
   .split at a
    .unfold dq ar at a;split at a
     .cases a
     .rename_i k b
      repeat' (first|(injection a with _ a;subst a;exact(h.D5 b).C7 (.num _))|(cases a;done)|split at a)
    .cases a
theorem qD{d:Nat}(j:d<=512):∀(N:Nat){l:List UInt8}{p:Ps}{r:Rr}{i:Nat}{t:Tr},l.length<=N->Alike p r d i->i+l.length<=16777216->iW r->bs d r i l=.ok t->Small t
 | _,[],p,r,i,t,_,_,_,h,b=>by
  rw[bs]at b;split at b
  .injection b with b;rw[<-b];exact h.2
  .cases b
 | 0,_::_,_,_,_,_,m,_,_,_,_=>by simp at m
 | N+1,c::l,p,r,i,t,m,k,o,h,b=>by
  rw[bs]at b;simp only[List.length_cons]at m o
  by_cases g:aX c=G
  .rw[if_pos g]at b;obtain⟨p',e⟩:=tW k g (by omega);exact qD j N (by omega) e (by omega) h b
  .rw[if_neg g]at b;cases f:r.B4 d c l with
   | cut=>rw[f]at b;cases b
   | bad no a=>rw[f]at b;cases b
   | on n u=>
    rw[f]at b;obtain⟨s,q,p',e⟩:=xM (en:=G) (t:=l) (c:=c) k (by simpa using g) (by omega) (by rw[qC];exact f);exact qD j N (by rw[ew];omega) e (by rw[ew];omega) (h.B4 (aAo k j) f) b
theorem yQ{l:List UInt8}{d:Nat}{t:Tr}(a:d<=512)(c:l.length<=16777216)(h:lH l d=.ok t):Small t:=
 qD a l.length (aw _) (tB a) (by omega) ⟨λf b=>by simp at b,.null⟩ h
def aKL(w:H)(s:ByteArray)(d:Nat)(e:ck)(w':H):Prop:=∃(no a f r:Int)(q:Bool)(c:Int)(j:Bool)(h:Nat)(p:ByteArray)(i:Option cg)(l o:Nat)(b:Option cg)(g m:Nat),e=aj (kG no a f r q c j h p (Y i l o) (Y b g m))/\T w.heap.size w w'/\
 (s.size<=16777216->match lH s.data.toList d with
  | .error (n,_)=>no=(n:Int)/\n≠0
  | .ok t=>no=0/\ValAt (λk=>w.heap.size<=k) w' (eV c j h p (Y i l o) (Y b g m)) t)/\(16777216<s.size->no≠0)
theorem aHt(w:H)(s:ByteArray)(d:Nat)(hd:d<=512):ag Q 13 #[D s,J O d,Z G] w λe w'=>aKL w s d e w':=by
 have b:(w.alloc (E #[J O 0,J O 0,J O 0,J O 0,Z U,J O 0,Z U,J A 0,D ⟨#[]⟩,Y I 0 0,Y I 0 0] 36)).heap[w.heap.size]?=V (E #[J O 0,J O 0,J O 0,J O 0,Z U,J O 0,Z U,J A 0,D ⟨#[]⟩,Y I 0 0,Y I 0 0] 36 (0,0)):=bm w _;have HB:=L (And.intro b ((bp w.heap.size w).alloc (aw _) (E #[J O 0,J O 0,J O 0,J O 0,Z U,J O 0,Z U,J A 0,D ⟨#[]⟩,Y I 0 0,Y I 0 0] 36)));clear b
 by_cases hs:s.size<=16777216
 .have e1:¬(16777216:Int)<(s.size:Int):=by omega
  have HR:=L (λW=>aAp W s d G hd hs);go_enter func13,ntmps13;go_wp2_with fail;refine(HR.o _).mono ?_;rintro e w2 ⟨no,a,f,g,h,i,j,l,m,n,o,p,q,r,u,rfl,b,B⟩;have c:=keep HB.o.1 b;obtain⟨p0,p1,p2,p3,p4,p5,p6,p7,p8,p9,pa,pf⟩:=dW c;have y:=L (kH (J O no) (J O a) (J O f) (J O g) (Z h) (J O i) (Z j) (J A l) (D m) (Y n o p) (Y q r u) c);have z:=L (And.intro B (chain HB.o.2 b));clear B b c;unfold kG;go_wp2_with fail;obtain⟨B,C,F,K,N,P,R,S,X,r9,ra,_⟩:=dW y.o.1;refine bh (v:=kG no a f g h i j l m (Y n o p) (Y q r u)) (by simp[bj,dv,go_sem,kG,B,C,F,K,N,P,R,S,X,r9,ra]) rfl ⟨no,a,f,g,h,i,j,l,m,n,o,p,q,r,u,rfl,z.o.2.trans (y.o.2.B3 z.o.2.size λk e=>by omega),λ_=>?_,λa0=>by omega⟩;have h3:=z.o.1 (by trivial);cases hr:lH s.data.toList d with
  | error x=>rw[hr]at h3;exact h3
  | ok t=>
   rw[hr]at h3;exact⟨h3.1,(h3.2.A0 y.o.2 λk e _ e2=>by simp at e;omega).A6 λk e _=>by simp at e;omega⟩
 .have e1:(16777216:Int)<(s.size:Int):=by omega
  have e2:(16777216:Int)<=(s.size:Int):=by omega
  have hsz:(s.extract 0 16777216).size<=16777216:=by simp;omega
  have HR:=L (λW=>aAp W (s.extract 0 16777216) d U hd hsz);clear hsz;go_enter func13,ntmps13;go_wp2_with fail;refine(HR.o _).mono ?_;rintro e w2 ⟨no,a,f,g,h,i,j,l,m,n,o,p,q,r,u,rfl,b,-⟩;have c:=keep HB.o.1 b;have z:=L (chain HB.o.2 b);have hlt:=ak c;have HO:=L c;clear b c;unfold kG
  obtain⟨p0,p1,p2,p3,p4,p5,p6,p7,p8,p9,pa,pf⟩:=dW HO.o
  by_cases b:no=0
  .subst b;have y:=L (kH (J O 3) (J O 16777216) (J O 16777216) (J O 0) (Z U) (J O 0) (Z U) (J A 0) (D ⟨#[]⟩) (Y I 0 0) (Y I 0 0) HO.o);go_wp2_with fail;have c:=(z.o.trans (y.o.2.B3 z.o.size λk e=>by omega)).alloc (ao z.o.size y.o.2.size) (E #[J O 0,J O a,J O f,J O g,Z h,J O i,Z j,J A l,D m,Y n o p,Y q r u] 36);obtain⟨B,C,F,K,N,P,R,S,X,r9,ra,_⟩:=dW (((ah (λ_=>False) _).A4 (E #[J O 0,J O a,J O f,J O g,Z h,J O i,Z j,J A l,D m,Y n o p,Y q r u] 36)).C4 y.o.1 id);exact bh (v:=kG 3 16777216 16777216 0 U 0 U 0 ⟨#[]⟩ (Y I 0 0) (Y I 0 0)) (by simp[bj,dv,go_sem,kG,B,C,F,K,N,P,R,S,X,r9,ra]) rfl ⟨3,16777216,16777216,0,U,0,U,0,⟨#[]⟩,I,0,0,I,0,0,rfl,c,λa0=>absurd a0 hs,λ_=>by decide⟩
  .have e3:(no==0)=U:=by simp;omega
   have y:=L (kH (J O no) (J O a) (J O f) (J O g) (Z h) (J O i) (Z j) (J A l) (D m) (Y n o p) (Y q r u) HO.o);have HNO:=L b;clear b;go_wp2_with fail;have c:=(z.o.trans (y.o.2.B3 z.o.size λk e=>by omega)).alloc (ao z.o.size y.o.2.size) (E #[J O no,J O a,J O f,J O g,Z h,J O i,Z j,J A l,D m,Y n o p,Y q r u] 36);obtain⟨B,C,F,K,N,P,R,S,X,r9,ra,_⟩:=dW (((ah (λ_=>False) _).A4 (E #[J O no,J O a,J O f,J O g,Z h,J O i,Z j,J A l,D m,Y n o p,Y q r u] 36)).C4 y.o.1 id);exact bh (v:=kG no a f g h i j l m (Y n o p) (Y q r u)) (by simp[bj,dv,go_sem,kG,B,C,F,K,N,P,R,S,X,r9,ra]) rfl ⟨no,a,f,g,h,i,j,l,m,n,o,p,q,r,u,rfl,c,λa0=>absurd a0 hs,λ_=>HNO.o⟩
theorem qE(w:H)(n:Int):ag Q 10 #[J O n] w λe w'=>e=aj (Z (decide (2147483647<n)))/\w'=w:=by
 go_enter func10,ntmps10;go_wp2_with fail;go_ret;exact⟨rfl,rfl⟩
theorem aDd(w:H)(d:Int):ag Q 11 #[J O d] w λe w'=>e=aj (Z (decide (1<=d)&&decide (d<=512)))/\w'=w:=by
 by_cases a:1<=d
 .by_cases b:d<=512
  .rw[decide_eq_true a,decide_eq_true b];go_enter dw,dx;go_wp2_with fail;go_ret;exact⟨rfl,rfl⟩
  .rw[decide_eq_true a,decide_eq_false b];go_enter dw,dx;go_wp2_with fail;go_ret;exact⟨rfl,rfl⟩
 .rw[decide_eq_false a,Bool.false_and];go_enter dw,dx;go_wp2_with fail;go_ret;exact⟨rfl,rfl⟩
theorem aBl{F:Nat->Prop}{w W:H}{v:af}{l:List UInt8}(h:BytesIn F w v l)(d:T w.heap.size w W):(convert 22 9 v).run Q W=au (D ⟨l.toArray⟩) W:=by
 obtain⟨a,cap,rfl,i,-,f⟩:=h;rcases f with rfl|⟨g,off,rfl,_,hi⟩
 .cases a with
  | none=>exact run_convert_bytes_nil (P:=Q) W 22 5 dy ee 0 cap 9 eh
  | some e=>exact ez W 22 9 5 e cap [] dy ee eh λj c=>by simp at c
 .refine ez W 22 9 5 ⟨g,off,I⟩ cap l dy ee eh λj c=>?_
  have b:(⟨g,off,I⟩:cg).add j=⟨g,off+j,I⟩:=by unfold Addr.add;split<;>simp_all
  rw[b];exact bB d (hi j l[j] (di c))
theorem aBm(w:H):(binOp .eql 39 ai ai).run Q w=au (Z G) w:=by kernel_rfl
theorem aDe{w a:H}(b:T w.heap.size w a){l i f c e d:cg}{m h j g k n:af}(p:w.cell? l=V m)(r:w.cell? i=V h)(o:w.cell? f=V j)(t:w.cell? c=V g)(q:w.cell? e=V k)(s:w.cell? d=V n):
 a.cell? l=V m/\a.cell? i=V h/\a.cell? f=V j/\a.cell? c=V g/\a.cell? e=V k/\a.cell? d=V n:=
 ⟨bB b p,bB b r,bB b o,bB b t,bB b q,bB b s⟩
theorem yT(w:H)(v:af)(l:List UInt8)(dz:Int)(hv:BytesIn (λk=>w.heap.size<=k) w v l):
 ag Q 3 #[v,J O dz] w λe w'=>e=aj (Z G)/\T w.heap.size w w':=by
 have HST:=L (λ(W:H)(hW:T w.heap.size w W)=>aBl hv hW);have hv0:=hv;obtain⟨a,cap,rfl,-,_,_⟩:=hv0;obtain⟨n,hn⟩:∃n,l.length=n:=⟨_,rfl⟩;rw[hn]at hv HST⊢
 by_cases hb:(2147483647:Int)<(n:Int)
 .have f:=L (λW=>qE W (n:Int));rw[decide_eq_true hb]at f;clear hv hb hn;go_enter func3,ei;go_wp2_with fail;refine(f.o _).mono ?_;rintro e w1 ⟨rfl,rfl⟩;go_wp2_with fail;go_ret;exact⟨rfl,bp _ _⟩
 .by_cases hd:(1:Int)<=dz/\dz<=512
  .obtain⟨d,rfl⟩:∃d:Nat,dz=d:=⟨dz.toNat,by omega⟩;have c:1<=d:=by omega
   have b:d<=512:=by omega
   have f:=L (λW=>qE W (n:Int));have j:=L (λW=>aDd W (d:Int));rw[decide_eq_false hb]at f;rw[decide_eq_true hd.1,decide_eq_true hd.2]at j;have HPR:=L (aC6 w l d (Y a n cap) c b hv (by omega));have HRR:=L (λW=>aHt W ⟨l.toArray⟩ d b);have g:(⟨l.toArray⟩:ByteArray).size=n:=by rw[<-hn];show l.toArray.size=_;simp
   have K:=L (show n<=16777216->jW l d=lH l d from λa0=>aJs b (by omega));have HSM:=L (λt(a0:lH l d=.ok t)(h2:n<=16777216)=>yQ b (by omega) a0);have HBIG:=L (show 16777216<n->∃e,jW l d=bz e from λa0=>aDc b (by omega));have HSZ:=L g;obtain⟨R,h⟩:∃R,jW l d=R:=⟨_,rfl⟩;rw[h]at HPR K HBIG;clear hv hb hn hd c b g h;go_enter func3,ei;go_wp2_with fail;refine(f.o _).mono ?_;rintro e w1 ⟨rfl,rfl⟩;go_wp2_with fail;refine(j.o _).mono ?_;rintro e w1 ⟨rfl,rfl⟩;go_wp2_with fail;refine HPR.o.mono ?_;rintro e w2 ⟨c,hm⟩;have b:=c.B3 (aw _) (λ_ a0=>a0.elim);have hcv:=HST.o w2 b;have N:=L b;clear c b;cases R with
   | error er=>
    obtain⟨no,g⟩:=er;have he:e=aj (av #[ac I,cM no g]):=hm;unfold cM at he;subst he;clear hm;go_wp2_with fail;refine(HRR.o w2).mono ?_;rintro e i ⟨no,P,S,X,wh,m,o,p,q,r,s,u,y,z,B,rfl,b,hx,C⟩;unfold kG;have F:=bm i (E #[J O no,J O P,J O S,J O X,Z wh,J O m,Z o,J A p,D q,Y r s u,Y y z B] 36);have HB4:=L ((chain N.o b).alloc (chain N.o b).size (E #[J O no,J O P,J O S,J O X,Z wh,J O m,Z o,J A p,D q,Y r s u,Y y z B] 36));have h:=L (b.alloc b.size (E #[J O no,J O P,J O S,J O X,Z wh,J O m,Z o,J A p,D q,Y r s u,Y y z B] 36))
    have c:no≠0:=by
     rw[HSZ.o]at hx C
     by_cases a0:n<=16777216
     .have h1:=hx a0;have h2:=K.o a0;rw[show(⟨l.toArray⟩:ByteArray).data.toList=l from by simp,<-h2]at h1;have h1:no=_/\_:=h1;omega
     .exact C (by omega)
    have e1:(no !=0)=G:=by simp;omega
    obtain⟨p0,-,-,-,-,-,-,-,-,-,-,_⟩:=dW F;have HTN:=L (λW=>xZ W);have hq:=λw=>aBm w
    clear b hx C F c;go_wp2_with fail;refine(HTN.o _).mono ?_;rintro e w5 ⟨rfl,c⟩;have HB5:=L (chain HB4.o c);clear c;go_wp2_with fail;go_ret;exact⟨rfl,HB5.o⟩
   | ok t=>
    obtain⟨a1,x,rfl,hbT,htr,-⟩:=hm
    have g:n<=16777216:=by
     by_cases a0:n<=16777216
     .exact a0
     .obtain⟨e,he⟩:=HBIG.o (by omega);cases he
    have hsm:=HSM.o t (K.o g).symm g;have HTR:=L (And.intro hbT (And.intro htr hsm));have HRK:=L (K.o g);clear hbT htr hsm;go_wp2_with fail;refine(HRR.o w2).mono ?_;rintro e i ⟨no,P,S,X,wh,m,o,p,q,r,s,u,y,z,B,rfl,b,hx,C⟩;unfold kG;have F:=bm i (E #[J O no,J O P,J O S,J O X,Z wh,J O m,Z o,J A p,D q,Y r s u,Y y z B] 36);have HB4:=L ((chain N.o b).alloc (chain N.o b).size (E #[J O no,J O P,J O S,J O X,Z wh,J O m,Z o,J A p,D q,Y r s u,Y y z B] 36));have h:=L (b.alloc b.size (E #[J O no,J O P,J O S,J O X,Z wh,J O m,Z o,J A p,D q,Y r s u,Y y z B] 36));have hx:=hx (by rw[HSZ.o];exact g);rw[show(⟨l.toArray⟩:ByteArray).data.toList=l from by simp,<-HRK.o]at hx;obtain⟨rfl,hval⟩:no=0/\ValAt _ _ _ _:=hx;obtain⟨p0,p1,p2,p3,p4,p5,p6,p7,p8,p9,pa,_⟩:=dW F;have HV:=L hval;clear b C F hval g;obtain⟨W4,C⟩:∃W4,i.alloc (E #[J O 0,J O P,J O S,J O X,Z wh,J O m,Z o,J A p,D q,Y r s u,Y y z B] 36)=W4:=⟨_,rfl⟩;have b:=L ((bp i.heap.size i).alloc (aw _) (E #[J O 0,J O P,J O S,J O X,Z wh,J O m,Z o,J A p,D q,Y r s u,Y y z B] 36));rw[C]at p0 p1 p2 p3 p4 p5 p6 p7 p8 p9 pa HB4 h b;have HT14:=L (xY HTR.o.2.2 _ W4.drew a1 x (keep HTR.o.1 (mH h.o)) (HTR.o.2.1.A0 (cu (λ_=>False) (mH h.o)) λ_ _=>id));have HT15:=L (λ(W:H)(v:af)(g:eJ (λk=>W4.drew.heap.size<=k) W v t)(hW:T W4.heap.size W4 W)=>aIb HTR.o.2.2 _ _ W v m o p q r s u y z B g (HV.o.A0 (cu (λ_=>False) (Below.trans b.o (hW.mono b.o.size))) λ_ _ _ a0=>a0.elim));go_wp2_with fail;clear C hcv p0 p1 p2 p3 p4
    go_region_held3 (λw'=>w'.cell? ⟨i.heap.size,5,I⟩=V (J O m)/\w'.cell? ⟨i.heap.size,6,I⟩=V (Z o)/\w'.cell? ⟨i.heap.size,7,I⟩=V (J A p)/\w'.cell? ⟨i.heap.size,8,I⟩=V (D q)/\w'.cell? ⟨i.heap.size,9,I⟩=V (Y r s u)/\w'.cell? ⟨i.heap.size,10,I⟩=V (Y y z B)) (first|with_reducible exact C|go_keep) (first
     | (go_at_call 14;(with_reducible refine HT14.o.mono ?_);rintro e w5 ⟨F,rfl,g,c⟩;have c:=dN c;have C:=aDe c p5 p6 p7 p8 p9 pa)
     | (go_at_call 15;(refine(HT15.o _ _ g c).mono ?_);rintro e w6 ⟨rfl,F⟩;have C:=aDe F C.1 C.2.1 C.2.2.1 C.2.2.2.1 C.2.2.2.2.1 C.2.2.2.2.2))
    all_goals
     have HF:=L (chain (chain HB4.o c) F);clear C c F g;go_wp2_with fail;go_ret;exact⟨rfl,HF.o⟩
  .have f:=L (λW=>qE W (n:Int));have j:=L (λW=>aDd W dz);rw[decide_eq_false hb]at f;rw[show(decide ((1:Int)<=dz)&&decide (dz<=512))=U by simp;omega]at j;clear hv hb hn hd;go_enter func3,ei;go_wp2_with fail;refine(f.o _).mono ?_;rintro e w1 ⟨rfl,rfl⟩;go_wp2_with fail;refine(j.o _).mono ?_;rintro e w1 ⟨rfl,rfl⟩;go_wp2_with fail;go_ret;exact⟨rfl,bp _ _⟩
end Go.Proofs.YtakkmiomhackiaaGreatDoor
