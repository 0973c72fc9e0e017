/-
  The program, one part of its walk. Conditions: none.
-/
import Derived.Test.YtakkmiomhackiaaGreatDoorAj25
import Derived.Test.YtakkmiomhackiaaGreatDoorAj28
set_option linter.all false
set_option maxRecDepth 100000
set_option maxHeartbeats 16000000
open Go.Proofs.Tryz
open Bool renaming false->O,true->E
open Classical renaming not_not->ew
open Except renaming error->ao
open False renaming elim->bx
open Go renaming Addr->ag,Calls->ah,Ending->bk,Value->C,World->Z,lt_of_block->aj,results->au,run_convert_bytes_back->et
open Go.Proofs.Tryz renaming func67->co,func75->bz,ntmps67->cr,ntmps75->cg,prog->B,results13->dm,results48->bw,results67->ct
open List renaming drop_of_length_le->dl,reverse_reverse->ei
open Option renaming none->J,some->H
open Or renaming inl->ak,inr->aw
open UInt8 renaming le_iff_toNat_le->dv
namespace Go.Proofs.YtakkmiomhackiaaGreatDoor
open Go.RowKit
open Ending renaming returned->av
open IntKind renaming i64->N,u64->Q
open Obj renaming cells->D
open Proofs renaming intOf->dh
open Keeps renaming A4->ac
open Ra renaming bad->bp
open Rd renaming whole->eu
open Rr renaming B5->dx,C7->cw,E6->bg,F5->bs,I1->dj,L4->dy
open RowKit renaming Below->L
open Value renaming bool->Y,int->I,pointer->bh,slice->U,string->ai
open World renaming drewN->cj
variable {a b d i n no:Nat}{s:ByteArray}{e:bk}{p:Ps}{en:Bool}{l t:Oo}{wr:Z}
def Rr.J7(en:Bool)(r:Rr)(a:Nat)(c:UInt8)(t:List UInt8):Ra:=
 if aY c then r.C7 a c
 else if c=34 then r.E7 a t
 else if aH c≠ []then r.M8 a (aH c) (c::t)
 else if c=45\/isD c=E then r.I1 en a (c::t)
 else bp 120 0
def aKN{r:Rr}{c:UInt8}{a:Rr}(h:r.C7 d c=.on n a):n=1:=by
 unfold cw bg at h
 repeat' (first|(injection h with b h2;exact b.symm)|(cases h;done)|split at h)
def aEk{r:Rr}{c:UInt8}(h:r.C7 d c=.cut):False:=by
 unfold cw bg at h
 repeat' (first|(cases h;done)|split at h)
def zR(w:Z)(h:Nat)(no b:Int):Prop:=
 ∃s d i o P a bytes e j g n a1 m k a2 f c l,w.heap[h]?=H (D (rdC s d i o P a bytes e j g n (U a1 m k) (U a2 f c) no b l) 172 (0,0))
def lJ(w:Z)(c:Nat)(s:ByteArray)(d i:Nat)(R:Ra)(e:bk)(w':Z):Prop:=L c w w'/\match R with
 | .on n r=>e=av (Y E)/\∃b,aU w' c s d (i+n) r b
 | .cut=>e=av (Y O)/\∃r b,aU w' c s d i r b
 | .bad no a=>e=av (Y E)/\zR w' c no ((i+a:Nat):Int)
def qB.P6{w:Z}{c:Nat}{no a:Int}(h:qB w c no a):zR w c no a:=by
 obtain⟨s,d,i,q,P,b,bytes,f,l,k,p,a1,o,m,a2,j,e,n,-,g⟩:=h;exact⟨s,d,i,q,P,b,bytes,f,l,k,p,a1,o,m,a2,j,e,n,g⟩
def qC.P6{w c w':Z}{R:Ra}(h:qC c b s d i R e w')(f:L b w c):lJ w b s d i R e w':=by
 refine⟨f.trans h.1,?_⟩;cases R with
 | on n r=>exact h.2
 | cut=>exact h.2
 | bad no a=>exact⟨h.2.1,h.2.2.P6⟩
def aKO{r:Rr}{c:UInt8}(h:r.C7 d c=bp no a):a=0:=by
 unfold cw bg at h
 repeat' (first|(injection h with h1 b;exact b.symm)|(cases h;done)|split at h)
def qC.D6{w w':Z}{c:Nat}{R:Ra}(h:qC w c s d i R e w'):∃b,e=av (Y b):=by
 obtain⟨_,h⟩:=h;cases R with
 | on n r=>exact⟨_,h.1⟩
 | cut=>exact⟨_,h.1⟩
 | bad no a=>exact⟨_,h.1⟩
def qB.B5{w:Z}{c:Nat}{no a:Int}(h:qB w c no a):∃i:Nat,i<=1073741824/\w.cell? ⟨c,2,J⟩=H (I N i)/\(∀o,w.frozen? ⟨c,o,J⟩=O)/\c<w.heap.size/\∀z:Int,z=((i+1:Nat):Int)->zR (w.setCell ⟨c,2,J⟩ (I N z)) c no a:=by
 obtain⟨s,d,i,t,P,b,bytes,g,m,l,r,a1,q,n,a2,j,f,p,hi,e⟩:=h;refine⟨i,hi,aA e,free_at e,aj e,λz k=>?_⟩;subst k;exact⟨s,d,i+1,t,P,b,bytes,g,m,l,r,a1,q,n,a2,j,f,p,aB (o:=2) e _⟩
structure ROk(r:Rr)(d:Nat):Prop where
 a:Bnd r d
 b:r.D9=E->∃ini f,r.e=ini++ [f]/\f.a.length<=65537
 e:∀ini f,r.e=ini++ [f]->f.object=E->(r.b=5\/r.b=2)->f.c.length=f.a.length/\bK f.a/\f.a.Nodup
def aGp(w:Z)(b:Nat)(s:ByteArray)(d i a:Nat)(r:Rr)(h:aU w b s d i r a)(j:Bnd r d)(hi:i<=1073741824)(c:UInt8)(k:aY c=E)(g:∀l f,r.e=l++ [f]->f.object=E->(r.b=5\/r.b=2)->f.c.length=f.a.length/\bK f.a/\f.a.Nodup):
 ah B 105 #[bh b,I .u8 c.toNat] w λe w'=>rI w b s d i (r.C7 d c) e w':=by
 unfold aY at k;simp at k;rcases k with((((rfl|rfl)|rfl)|rfl)|rfl)|rfl
 .exact zQ w b s d i a r h j hi 123 (aw rfl)
 .exact zP w b s d i a r h j hi g
 .exact zQ w b s d i a r h j hi 91 (ak rfl)
 .exact aEh w b s d i a r h j hi g
 .exact aEf w b s d i a r h j hi
 .exact aEg w b s d i a r h j hi
def aGq(w:Z)(b:Nat)(s:ByteArray)(d i f:Nat)(r:Rr)(g:aU w b s d i r f)(q:ROk r d)(en:Bool)(hi:i<s.size)(hs:s.size<=16777216)(c:UInt8)(t:s[i]=c)(h:aY c=E):
 ah B 75 #[bh b,en] w λe w'=>lJ w b s d i (r.C7 d c) e w':=by
 have u:∀W,Keeps (λ_=>False) w W->aU W b s d i r f/\L b w W:=λW v=>⟨g.C8 v,v.A6 (by obtain⟨P,z,so,fl,bi,tx,a1,n1,m1,a2,n2,m2,F,-⟩:=g;exact iF (aj F)) λ_=>bx⟩;obtain⟨c0,c2,-⟩:=g.cells;have i1:(i:Int)<(s.size:Int):=by omega
 have i0:(0:Int)<=(i:Int):=by omega
 have G:=A u;have j:=A (λ(W:Z)(v:aU W b s d i r f)=>show ah B 105 #[bh b,I .u8 c.toNat] W λe w'=>rI W b s d i (r.C7 d c) e w' from aGp W b s d i f r v q.a (by omega) c h q.e);obtain⟨x,l⟩:∃x:Int,(c.toNat:Int)=x:=⟨_,rfl⟩;have g4:((s[i].toNat:Nat):Int)=x:=by rw[t];exact l
 rw[l]at j
 have K:x=123\/x=125\/x=91\/x=93\/x=58\/x=44:=by
  unfold aY at h;simp at h;rcases h with((((g|g)|g)|g)|g)|g<;>subst g<;>simp at l<;>omega
 have m:=A (λn S(g:r.C7 d c=.on n S)=>aKN g);have o:=A (λno a(g:r.C7 d c=bp no a)=>aKO g);have p:=A (λ(g:r.C7 d c=.cut)=>aEk g);obtain⟨R,y⟩:∃R,r.C7 d c=R:=⟨_,rfl⟩;rw[y]at j m p o⊢;clear y h l t u g q;rcases K with rfl|rfl|rfl|rfl|rfl|rfl
 all_goals
  go_enter bz,cg;go_wp2;go_quiet (fail);generalize g:cj w _=y;have X:=A (show aU y b s d i r f/\L b w y from G.o y (by rw[<-g];exact(ac _ w).L5 _));clear g;go_wp2_with fail;refine(j.o y X.o.1).mono ?_;rintro e w2 ⟨rfl,g,q⟩;have t:=A (X.o.2.trans g);clear g;cases R with
  | cut=>exact absurd rfl p.o
  | on n S=>
   obtain⟨u,h⟩:=q;obtain⟨-,k2,kf⟩:=h.cells;have l:b<w2.heap.size:=(by obtain⟨P,z,so,fl,bi,tx,a1,n1,m1,a2,n2,m2,F,-⟩:=h;exact aj F);have g:=A (And.intro h l);have j1:N.wrap ((i:Int)+1)=((i+1:Nat):Int):=(by rw[b9];omega);clear h;go_wp2;go_ret;obtain rfl:=m.o n S rfl;exact⟨t.o.trans (((ac (λk=>k=b) w2).own 2 _).A6 (iF g.o.2) λk e=>by omega),rfl,u,g.o.1.B5 (i+1) _ (by simp)⟩
  | bad no a=>
   obtain⟨i2,g5,k2,kf,l,h⟩:=qB.B5 q;have g:=A (And.intro h l);obtain⟨T,u⟩:∃T,i2+1=T:=⟨_,rfl⟩;have j1:N.wrap ((i2:Int)+1)=(T:Int):=(by rw[b9];omega);have V:=A u;clear h u;go_wp2;go_ret;refine⟨t.o.trans (((ac (λk=>k=b) w2).own 2 _).A6 (iF g.o.2) λk e=>by omega),rfl,?_⟩;rw[show((i+a:Nat):Int)=(i:Int)from by rw[o.o no a rfl];simp];exact g.o.1 _ (by rw[V.o])
def aGr(w:Z)(c:Nat)(s:ByteArray)(d i a:Nat)(r:Rr)(p:aU w c s d i r a)(g:ROk r d)(en:Bool)(hi:i<s.size)(m:s.size<=16777216)(n:s[i]=34):
 ah B 75 #[bh c,en] w λe w'=>lJ w c s d i (r.E7 d (s.data.toList.drop (i+1))) e w':=by
 have o:∀W,Keeps (λ_=>False) w W->aU W c s d i r a/\L c w W:=λW h=>⟨p.C8 h,h.A6 (by obtain⟨P,q,y,z,F,G,a1,K,R,a2,S,T,t,-⟩:=p;exact iF (aj t)) λ_=>bx⟩;obtain⟨V,c2,-⟩:=p.cells;have X:(i:Int)<(s.size:Int):=by omega
 have i0:(0:Int)<=(i:Int):=by omega
 have k:=A o
 have u:=A (λ(W:Z)(h:aU W c s d i r a)=>show ah B 106 #[bh c] W λe w'=>qC W c s d i (r.E7 d (s.data.toList.drop (i+1))) e w' from by
  cases j:r.D9 with
  | false=>exact aHG W c s d i a r h g.a j hi m
  | true=>
   obtain⟨l,f,v,x⟩:=g.b j;exact aIK W c s d i a r l f h g.a j v x hi m)
 have v:((s[i].toNat:Nat):Int)=34:=by rw[n];rfl
 clear n o p g;go_enter bz,cg;go_wp2;go_quiet (fail);generalize g:cj w _=j;have l:=A (show aU j c s d i r a/\L c w j from k.o j (by rw[<-g];exact(ac _ w).L5 _));clear g;go_wp2_with fail;refine(u.o j l.o.1).mono ?_;rintro e w2 g;obtain⟨b,rfl⟩:=g.D6;have n:=A (g.P6 l.o.2);clear g;go_wp2;go_ret;exact n.o
def aGs(w:Z)(f:Nat)(s:ByteArray)(d i a:Nat)(r:Rr)(t:aU w f s d i r a)(h:ROk r d)(en:Bool)(hi:i<s.size)(k:s.size<=16777216)(c:UInt8)(j:s[i]=c)(l:aH c≠ []):
 ah B 75 #[bh f,en] w λe w'=>lJ w f s d i (r.M8 d (aH c) (s.data.toList.drop i)) e w':=by
 have o:∀W,Keeps (λ_=>False) w W->aU W f s d i r a/\L f w W:=λW g=>⟨t.C8 g,g.A6 (by obtain⟨P,u,y,z,F,G,a1,K,R,a2,S,T,v,-⟩:=t;exact iF (aj v)) λ_=>bx⟩;obtain⟨V,c2,-⟩:=t.cells;have X:(i:Int)<(s.size:Int):=by omega
 have i0:(0:Int)<=(i:Int):=by omega
 have m:=A o
 have x:c=110\/c=116\/c=102:=by
  unfold aH at l;by_cases n:c=110
  .exact ak n
  .by_cases p:c=116
   .exact aw (ak p)
   .by_cases q:c=102
    .exact aw (aw q)
    .simp[n,p,q]at l
 rcases x with rfl|rfl|rfl
 focus
  have n:=A (λ(W:Z)(g:aU W f s d i r a)=>tX W f s d i a r g h.a ⟨#[110,117,108,108]⟩ (ak rfl) (by omega) k);have p:((s[i].toNat:Nat):Int)=110:=by rw[j];rfl
 rotate_left
 focus
  have n:=A (λ(W:Z)(g:aU W f s d i r a)=>tX W f s d i a r g h.a ⟨#[116,114,117,101]⟩ (aw (ak rfl)) (by omega) k);have p:((s[i].toNat:Nat):Int)=116:=by rw[j];rfl
 rotate_left
 focus
  have n:=A (λ(W:Z)(g:aU W f s d i r a)=>tX W f s d i a r g h.a ⟨#[102,97,108,115,101]⟩ (aw (aw rfl)) (by omega) k);have p:((s[i].toNat:Nat):Int)=102:=by rw[j];rfl
 all_goals
  clear j o t h l;go_enter bz,cg;go_wp2;go_quiet (fail);generalize h:cj w _=j;have l:=A (show aU j f s d i r a/\L f w j from m.o j (by rw[<-h];exact(ac _ w).L5 _));clear h;go_wp2_with fail;refine(n.o j l.o.1).mono ?_;rintro e w2 h;obtain⟨b,rfl⟩:=h.D6;have n:=A (h.P6 l.o.2);clear h;go_wp2;go_ret;exact n.o
def aCo(w:Z)(f:Nat)(s:ByteArray)(d i a:Nat)(r:Rr)(p:aU w f s d i r a)(j:ROk r d)(en:Bool)(hi:i<s.size)(q:s.size<=16777216)(c:UInt8)(m:s[i]=c)(g:c=45\/isD c=E):
 ah B 75 #[bh f,en] w λe w'=>lJ w f s d i (r.I1 en d (s.data.toList.drop i)) e w':=by
 have n:∀W,Keeps (λ_=>False) w W->aU W f s d i r a/\L f w W:=λW h=>⟨p.C8 h,h.A6 (by obtain⟨P,t,y,z,F,G,a1,K,R,a2,S,T,u,-⟩:=p;exact iF (aj u)) λ_=>bx⟩;obtain⟨V,c2,-⟩:=p.cells;have X:(i:Int)<(s.size:Int):=by omega
 have i0:(0:Int)<=(i:Int):=by omega
 have k:=A n;have v:=A (λ(W:Z)(h:aU W f s d i r a)=>aLz W f s d i a r h j.a en hi q);obtain⟨x,o⟩:∃x:Int,((s[i].toNat:Nat):Int)=x:=⟨_,rfl⟩
 have l:x=45\/((48:Int)<=x/\x<=57):=by
  rw[m]at o;rcases g with rfl|g
  .exact ak (by rw[<-o];rfl)
  .unfold isD at g;simp[dv]at g;omega
 clear m n p j g;rcases l with rfl|⟨p,x2⟩
 focus
  skip
 rotate_left
 focus
  have g:(x==123)=O:=by simp;omega
  have j:(x==125)=O:=by simp;omega
  have m:(x==91)=O:=by simp;omega
  have n:(x==93)=O:=by simp;omega
  have y5:(x==58)=O:=by simp;omega
  have y6:(x==44)=O:=by simp;omega
  have y7:(x==34)=O:=by simp;omega
  have y8:(x==110)=O:=by simp;omega
  have y9:(x==116)=O:=by simp;omega
  have ya:(x==102)=O:=by simp;omega
  have yb:(x==45)=O:=by simp;omega
 all_goals
  go_enter bz,cg;go_wp2;go_quiet (fail);generalize g:cj w _=j;have m:=A (show aU j f s d i r a/\L f w j from k.o j (by rw[<-g];exact(ac _ w).L5 _));clear g;go_wp2_with fail;refine(v.o j m.o.1).mono ?_;rintro e w2 g;obtain⟨b,rfl⟩:=g.D6;have n:=A (g.P6 m.o.2);clear g;go_wp2;go_ret;exact n.o
def aEl(w:Z)(b:Nat)(s:ByteArray)(d i f:Nat)(r:Rr)(v:aU w b s d i r f)(S:ROk r d)(en:Bool)(hi:i<s.size)(hs:s.size<=16777216)(c:UInt8)(m:s[i]=c)(n:aY c=O)(y:c≠34)(g:aH c= [])(o:¬(c=45\/isD c=E)):
 ah B 75 #[bh b,en] w λe w'=>lJ w b s d i (bp 120 0) e w':=by
 have z:∀W,Keeps (λ_=>False) w W->aU W b s d i r f/\L b w W:=λW j=>⟨v.C8 j,j.A6 (by obtain⟨P,p,T,V,X,tx,a1,n1,m1,a2,n2,m2,q,-⟩:=v;exact iF (aj q)) λ_=>bx⟩;obtain⟨c0,c2,cf⟩:=v.cells;have i1:(i:Int)<(s.size:Int):=by omega
 have i0:(0:Int)<=(i:Int):=by omega
 have t:=A z;have HT:=A (λ(W:Z)(j:aU W b s d i r f)=>eP W b s d i f r j (by omega) 120 i i);have h:b<w.heap.size:=by obtain⟨P,p,T,V,X,tx,a1,n1,m1,a2,n2,m2,q,-⟩:=v;exact aj q
 have u:=A h;obtain⟨x,F⟩:∃x:Int,((s[i].toNat:Nat):Int)=x:=⟨_,rfl⟩
 have a:∀k:UInt8,c≠k->(x==((k.toNat:Nat):Int))=O:=λk l=>by
  rw[m]at F;have:c.toNat≠k.toNat:=λe=>l (kb e);simp;omega
 unfold aY at n;simp at n;obtain⟨⟨⟨⟨⟨a1,a2⟩,a3⟩,a4⟩,G⟩,K⟩:=n;have b1:c≠110:=λe=>by rw[e]at g;cases g
 have b2:c≠116:=λe=>by rw[e]at g;cases g
 have b3:c≠102:=λe=>by rw[e]at g;cases g
 have y1:(x==123)=O:=a 123 a1;have y2:(x==125)=O:=a 125 a2;have y3:(x==91)=O:=a 91 a3;have y4:(x==93)=O:=a 93 a4;have y5:(x==58)=O:=a 58 G;have y6:(x==44)=O:=a 44 K;have y7:(x==34)=O:=a 34 y;have y8:(x==110)=O:=a 110 b1;have y9:(x==116)=O:=a 116 b2;have ya:(x==102)=O:=a 102 b3;have yb:(x==45)=O:=a 45 (λe=>o (ak e))
 have yc:¬(48:Int)<=x\/((48:Int)<=x/\¬x<=57):=by
  rw[m]at F;have R:¬isD c=E:=λe=>o (aw e);unfold isD at R;simp[dv]at R;omega
 clear m z v S y g o a a1 a2 a3 a4 G K b1 b2 b3 h;rcases yc with o|⟨o,v⟩
 all_goals
  go_enter bz,cg;go_wp2;go_quiet (fail);generalize a:cj w _=g;have h:=A (show aU g b s d i r f/\L b w g from t.o g (by rw[<-a];exact(ac _ w).L5 _));clear a;go_wp2_with fail;have y:=h.o.1.cells.2.1
  go_still_tail 9,(by kernel_rfl)
  go_wp2_with fail;refine(HT.o _ (h.o.1.C8 (ac _ g).B0)).mono ?_;rintro e w2 ⟨rfl,l,a⟩;have m:=A (And.intro l a);clear l a;go_wp2;go_ret;exact⟨h.o.2.trans (((ac (λk=>k=b) g).B0.same m.o.1).A6 (bo (iF u.o) h.o.2.size) λk e=>by omega),rfl,by simpa using m.o.2.P6⟩
def aGt(w:Z)(b:Nat)(s:ByteArray)(d i a:Nat)(r:Rr)(h:aU w b s d i r a)(c:ROk r d)(en:Bool)(hi:i<s.size)(f:s.size<=16777216):
 ah B 75 #[bh b,en] w λe w'=>lJ w b s d i (r.J7 en d s[i] (s.data.toList.drop (i+1))) e w':=by
 have m:s.data.toList.drop i=s[i]::s.data.toList.drop (i+1):=bA hi;unfold Rr.J7;rw[<-m];by_cases k:aY s[i]=E
 .rw[pz k];exact aGq w b s d i a r h c en hi f _ rfl k
 .rw[py k];by_cases g:s[i]=34
  .rw[pz g];exact aGr w b s d i a r h c en hi f g
  .rw[py g];by_cases l:aH s[i]≠ []
   .rw[pz l];exact aGs w b s d i a r h c en hi f _ rfl l
   .rw[py l];by_cases j:s[i]=45\/isD s[i]=E
    .rw[pz j];exact aCo w b s d i a r h c en hi f _ rfl j
    .rw[py j];exact aEl w b s d i a r h c en hi f _ rfl (by simpa using k) g (by simpa using l) j
def aEq{f:RFr}:∀{l:List RFr},f∈l->f.c.length<=(l.flatMap λf=>f.c).length
 | g::l,h=>by
  rw[List.flatMap_cons,cn];rcases List.mem_cons.1 h with rfl|h
  .omega
  .have:=aEq h;omega
def aBn{r:Rr}(h:Alike p r d i)(z:d<=512):ROk r d:=by
 have k:=h.ps;have g:=h.b;have v:p.e.length=r.e.length:=g.O9;have n:=k.c;have y:p.h=d:=g.h
 have l:∀f∈r.e,f.c.length<=65536:=λf s=>by
  have o:=k.M9;rw[g.c,cn]at o;have t:f.c.length<=(r.e.flatMap λf=>f.c).length:=aEq s;omega
 have c:∀b f,r.e=b++ [f]->r.e.getLast?=H f:=λb f e=>by rw[e];simp
 refine⟨⟨z,by omega,by rw[<-g.g];exact k.g,by rw[<-g.bytes];exact k.bytes,l⟩,λu=>?_,λb f j x w=>?_⟩
 .have w:p.b=2\/p.b=3\/p.b=4:=by
   rw[g.b];unfold Rr.D9 at u;simp at u;omega
  have a:=(k.b.O2).1 w;rcases List.eq_nil_or_concat r.e with F|⟨b,f,j⟩
  .exfalso;rw[g.e,F]at a;cases a
  .rw[List.concat_eq_append]at j;refine⟨b,f,j,?_⟩
   have q:f.object=E:=by
    rw[g.e,j]at a;unfold jB jM at a;simp at a;cases s:f.object with
    | true=>rfl
    | false=>simp[s]at a
   have:=g.a f (c b f j) q;have:=l f (by rw[j];simp);split at* <;>omega
 .have m:Fr.object f.a∈p.e:=by
   rw[g.e,j];simp[jM,x]
  obtain⟨o,t,_⟩:=k.R9 m;have:=g.a f (c b f j) x;rw[py]at this;exact⟨by omega,o,t⟩
def vU{r:Rr}{c:UInt8}(h:Alike p r d i)(b:aI c=E)(hi:i<16777216):∃p',Alike p' r d (i+1):=by
 have a:=zS po p h.h h.e (by rw[h.a];omega) c b;exact⟨{p with d:={p.d with a:=p.d.a+1},a:=p.a+1},⟨h.b.h,h.b.b,h.b.g,h.b.bytes,h.b.e,h.b.c,h.b.low,h.b.a⟩,by show p.d.a+1=_;rw[h.a],h.h,h.e,h.ok.B3 a⟩
def aEr{r f:Rr}{c:UInt8}(h:r.J7 en d c t=.on n f):r.B5 d c t=.on n f:=by
 unfold Rr.J7 at h;unfold dx;split at h
 .rename_i b;rw[pz b];exact h
 .rename_i b;rw[py b];split at h
  .rename_i a;rw[pz a];exact h
  .rename_i a;rw[py a];split at h
   .rename_i e;rw[pz e];exact h
   .rename_i e;rw[py e];split at h
    .rename_i i;rw[pz i];unfold dj bg at h;unfold dy bg;split at h
     .cases h
     .split at h
      .cases h
      .split at h
       .cases h
       .rename_i j g;simp only[not_or]at g;dsimp only;rw[py j,py g.1];exact h
    .cases h
def aCs{r:Rr}:r.I1 E d l=r.L4 d l:=by
 unfold dj dy bg;cases r.D4 d with
 | error no=>rfl
 | ok c=>
  dsimp only;by_cases b:(dB l).2=O/\(dB l).1<l.length
  .rw[pz b,pz b]
  .rw[py b,py b];by_cases a:(dB l).2=O
   .rw[pz (ak a),pz a]
   .rw[py (by simp[a]),py a];rfl
def rK{r:Rr}{c:UInt8}:r.J7 E d c t=r.B5 d c t:=by
 unfold Rr.J7 dx;rw[aCs]
def aCt{r:Rr}(h:r.D4 d=ao no):no≠0:=by
 unfold Rr.D4 at h
 repeat' (first|(injection h with a;rw[<-a];decide)|(cases h;done)|split at h)
def zU{r:Rr}(h:jS r (cM [] 1 l)=bp no a):no≠0:=by
 cases b:cM [] 1 l with
 | cut=>rw[b]at h;cases h
 | bad d a2=>
  rw[b]at h;injection h with c h2;rw[<-c];exact oN _ (hU _) b
 | ok x=>
  rw[b]at h;obtain⟨s,n⟩:=x;unfold jS at h;simp only at h
  repeat' (first|(injection h with c h2;rw[<-c];decide)|(cases h;done)|split at h)
def aKP{r:Rr}{c:UInt8}(h:r.J7 en d c t=bp no a):no≠0:=by
 unfold Rr.J7 at h;split at h
 .unfold cw bg at h
  repeat' (first|(injection h with b h2;rw[<-b];first|decide|exact aCt (by assumption))|(cases h;done)|split at h)
 .split at h
  .unfold Rr.E7 bg at h;split at h
   .exact zU h
   .split at h
    .rename_i e;injection h with b h2;rw[<-b];exact aCt e
    .exact zU h
  .split at h
   .unfold Rr.M8 bg at h
    repeat' (first|(injection h with b h2;rw[<-b];first|decide|exact aCt (by assumption))|(cases h;done)|split at h)
   .split at h
    .unfold dj bg at h
     repeat' (first|(injection h with b h2;rw[<-b];first|decide|exact aCt (by assumption))|(cases h;done)|split at h)
    .injection h with b h2;rw[<-b];decide
def zV{r a:Rr}{c:UInt8}(h:Alike p r d i)(e:aI c=O)(g:i+1+t.length<=16777216)(k:r.J7 en d c t=.on n a):1<=n/\n<=t.length+1/\∃p',Alike p' a d (i+n):=by
 have:=aBm h c t e g;rw[aEr k]at this;obtain⟨f,b,p',j,_⟩:=this;exact⟨f,by simpa using b,p',j⟩
def LG(s:ByteArray)(d:Nat)(en:Bool)(X:Except (Nat×Nat) Tr)(i:Nat)(r:Rr):Prop:=i<=s.size/\(∃p,Alike p r d i)/\(en=E->X=bs d r i (s.data.toList.drop i))
def aGx(w1:Z)(c:Nat)(s:ByteArray)(d:Nat)(en:Bool)(X:Except (Nat×Nat) Tr)(v:C)(wr:Z):Prop:=L c w1 wr/\
 ((v = Y E /\ ∃ i r b, aU wr c s d i r b /\ LG s d en X i r) \/ (v = Y O /\ (∃ i r b, aU wr c s d i r b) /\ (en = E -> X = ao (95, s.size))) \/
   (v=Y E/\∃no a:Nat,no≠0/\zR wr c no a/\(en=E->X=ao (no,a))))
def placeOf(a:Nat)(wr:Z):Nat:=match wr.cell? ⟨a,2,J⟩with
 | some (I _ i)=>i.toNat
 | _=>0
def zW(a:Nat)(v:C)(wr:Z):Bool:=match v,wr.cell? ⟨a,13,J⟩with
 | .bool E,H (I _ n)=>n==0
 | _,_=>O
def mOf(s:ByteArray)(a:Nat)(v:C)(wr:Z):Nat:=if zW a v wr=E then s.size+2-placeOf a wr else 0
def lK(no a f:Int)(b:Int)(d:Bool)(e:Int)(g:Bool)(c:Nat)(h:ByteArray)(V K:C):C:=.agg #[no,a,f,b,d,e,g,I Q c,h,V,K]
def aMv(w:Z)(en:Bool)(X:Except (Nat×Nat) Tr)(e:bk)(w':Z):Prop:=∃(no a f r:Int)(q:Bool)(c:Int)(i:Bool)(g:Nat)(o:ByteArray)(h:Option ag)(j m:Nat)(b:Option ag)(d l:Nat),e=av (lK no a f r q c i g o (U h j m) (U b d l))/\L w w w'/\
 (en=E->match X with
  | .error (n,p)=>no=(n:Int)/\n≠0/\a=(p:Int)
  | .ok t=>no=0/\ValAt (λk=>w.heap.size<=k) w' (eQ c i g o (U h j m) (U b d l)) t)
def eB{w:Z}{i f d c j k e m a l g:C}{T:TypeId}(h:w.heap[b]?=H (D #[i,f,d,c,j,k,e,m,a,l,g] T (0,0))):
 w.cell? b=H i/\w.cell? ⟨b,1,J⟩=H f/\w.cell? ⟨b,2,J⟩=H d/\w.cell? ⟨b,3,J⟩=H c/\w.cell? ⟨b,4,J⟩=H j/\w.cell? ⟨b,5,J⟩=H k/\w.cell? ⟨b,6,J⟩=H e/\w.cell? ⟨b,7,J⟩=H m/\w.cell? ⟨b,8,J⟩=H a/\w.cell? ⟨b,9,J⟩=H l/\w.cell? ⟨b,10,J⟩=H g/\∀o,w.frozen? ⟨b,o,J⟩=O:=
 ⟨aA h,aA h,aA h,aA h,aA h,aA h,aA h,aA h,aA h,aA h,aA h,free_at h⟩
def kQ{w:Z}{F z x v u s r p n l j:C}{T:TypeId}(a c d e f g h i m q t:C)(a0:w.heap[b]?=H (D #[F,z,x,v,u,s,r,p,n,l,j] T (0,0))):
 (((((((((((w.setCell b a).setCell ⟨b,1,J⟩ c).setCell ⟨b,2,J⟩ d).setCell ⟨b,3,J⟩ e).setCell ⟨b,4,J⟩ f).setCell ⟨b,5,J⟩ g).setCell ⟨b,6,J⟩ h).setCell ⟨b,7,J⟩ i).setCell ⟨b,8,J⟩ m).setCell ⟨b,9,J⟩ q).setCell ⟨b,10,J⟩ t).heap[b]?=H (D #[a,c,d,e,f,g,h,i,m,q,t] T (0,0))/\
 Keeps (λk=>k=b) w (((((((((((w.setCell b a).setCell ⟨b,1,J⟩ c).setCell ⟨b,2,J⟩ d).setCell ⟨b,3,J⟩ e).setCell ⟨b,4,J⟩ f).setCell ⟨b,5,J⟩ g).setCell ⟨b,6,J⟩ h).setCell ⟨b,7,J⟩ i).setCell ⟨b,8,J⟩ m).setCell ⟨b,9,J⟩ q).setCell ⟨b,10,J⟩ t):=by
 have G:(w.setCell b a).heap[b]?=H (D #[a,z,x,v,u,s,r,p,n,l,j] T (0,0)):=aB (o:=0) a0 a;have K:((w.setCell b a).setCell ⟨b,1,J⟩ c).heap[b]?=H (D #[a,c,x,v,u,s,r,p,n,l,j] T (0,0)):=aB (o:=1) G c;have P:(((w.setCell b a).setCell ⟨b,1,J⟩ c).setCell ⟨b,2,J⟩ d).heap[b]?=H (D #[a,c,d,v,u,s,r,p,n,l,j] T (0,0)):=aB (o:=2) K d;have R:((((w.setCell b a).setCell ⟨b,1,J⟩ c).setCell ⟨b,2,J⟩ d).setCell ⟨b,3,J⟩ e).heap[b]?=H (D #[a,c,d,e,u,s,r,p,n,l,j] T (0,0)):=aB (o:=3) P e;have S:(((((w.setCell b a).setCell ⟨b,1,J⟩ c).setCell ⟨b,2,J⟩ d).setCell ⟨b,3,J⟩ e).setCell ⟨b,4,J⟩ f).heap[b]?=H (D #[a,c,d,e,f,s,r,p,n,l,j] T (0,0)):=aB (o:=4) R f;have V:((((((w.setCell b a).setCell ⟨b,1,J⟩ c).setCell ⟨b,2,J⟩ d).setCell ⟨b,3,J⟩ e).setCell ⟨b,4,J⟩ f).setCell ⟨b,5,J⟩ g).heap[b]?=H (D #[a,c,d,e,f,g,r,p,n,l,j] T (0,0)):=aB (o:=5) S g;have W:(((((((w.setCell b a).setCell ⟨b,1,J⟩ c).setCell ⟨b,2,J⟩ d).setCell ⟨b,3,J⟩ e).setCell ⟨b,4,J⟩ f).setCell ⟨b,5,J⟩ g).setCell ⟨b,6,J⟩ h).heap[b]?=H (D #[a,c,d,e,f,g,h,p,n,l,j] T (0,0)):=aB (o:=6) V h;have X:((((((((w.setCell b a).setCell ⟨b,1,J⟩ c).setCell ⟨b,2,J⟩ d).setCell ⟨b,3,J⟩ e).setCell ⟨b,4,J⟩ f).setCell ⟨b,5,J⟩ g).setCell ⟨b,6,J⟩ h).setCell ⟨b,7,J⟩ i).heap[b]?=H (D #[a,c,d,e,f,g,h,i,n,l,j] T (0,0)):=aB (o:=7) W i;have h8:(((((((((w.setCell b a).setCell ⟨b,1,J⟩ c).setCell ⟨b,2,J⟩ d).setCell ⟨b,3,J⟩ e).setCell ⟨b,4,J⟩ f).setCell ⟨b,5,J⟩ g).setCell ⟨b,6,J⟩ h).setCell ⟨b,7,J⟩ i).setCell ⟨b,8,J⟩ m).heap[b]?=H (D #[a,c,d,e,f,g,h,i,m,l,j] T (0,0)):=aB (o:=8) X m;have h9:((((((((((w.setCell b a).setCell ⟨b,1,J⟩ c).setCell ⟨b,2,J⟩ d).setCell ⟨b,3,J⟩ e).setCell ⟨b,4,J⟩ f).setCell ⟨b,5,J⟩ g).setCell ⟨b,6,J⟩ h).setCell ⟨b,7,J⟩ i).setCell ⟨b,8,J⟩ m).setCell ⟨b,9,J⟩ q).heap[b]?=H (D #[a,c,d,e,f,g,h,i,m,q,j] T (0,0)):=aB (o:=9) h8 q;have y:(((((((((((w.setCell b a).setCell ⟨b,1,J⟩ c).setCell ⟨b,2,J⟩ d).setCell ⟨b,3,J⟩ e).setCell ⟨b,4,J⟩ f).setCell ⟨b,5,J⟩ g).setCell ⟨b,6,J⟩ h).setCell ⟨b,7,J⟩ i).setCell ⟨b,8,J⟩ m).setCell ⟨b,9,J⟩ q).setCell ⟨b,10,J⟩ t).heap[b]?=H (D #[a,c,d,e,f,g,h,i,m,q,t] T (0,0)):=aB (o:=10) h9 t;exact⟨y,(((((((((((ac (λk=>k=b) w).own _ _).own _ _).own _ _).own _ _).own _ _).own _ _).own _ _).own _ _).own _ _).own _ _).own _ _⟩
def aMe(w1:Z)(b:Nat)(s:ByteArray)(d:Nat)(en:Bool)(X:Except (Nat×Nat) Tr)(c:Nat)(r:Rr)(wr:Z):Prop:=L b w1 wr/\∃i a,c<=i/\aU wr b s d i r a/\LG s d en X i r
def LG.X5{X:Except (Nat×Nat) Tr}{r:Rr}(h:LG s d en X i r)(f:s.size<=16777216)(hi:i<s.size)(a:aI s[i]=E):LG s d en X (i+1) r:=by
 obtain⟨_,⟨p,b⟩,c⟩:=h;refine⟨hi,vU b a (by omega),λe=>?_⟩;rw[c e,bA hi,bs,pz a]
def aMf{w:Z}{r:Rr}(h:aU w b s d i r a):mOf s b (Y E) w=s.size+2-i:=by
 obtain⟨P,e,k,m,l,p,a1,o,n,a2,q,j,c,-⟩:=h;obtain⟨⟨_,_,g,_⟩,⟨_,_,_,_,_,f,_⟩,_⟩:=dF c;unfold mOf zW placeOf;rw[f,g];simp
def aLM{w:Z}:mOf s a (Y O) w=0:=by
 unfold mOf zW;simp
def aLN{w:Z}{c:Nat}{a:Int}(h:zR w c no a)(d:no≠0):mOf s c (Y E) w=0:=by
 obtain⟨g,m,r,u,P,b,bytes,j,n,l,t,a1,q,o,a2,k,i,p,e⟩:=h;obtain⟨_,⟨_,_,_,_,_,f,_⟩,_⟩:=dF e;unfold mOf zW;rw[f];have:(((no:Nat):Int)==0)=O:=by simp;omega
 simp[this]
def lJ.D6{w w':Z}{c:Nat}{R:Ra}(h:lJ w c s d i R e w'):∃b,e=av (Y b):=by
 obtain⟨_,h⟩:=h;cases R with
 | on n r=>exact⟨_,h.1⟩
 | cut=>exact⟨_,h.1⟩
 | bad no a=>exact⟨_,h.1⟩
def aIM{w1 u:Z}{q:Nat}{v:Bool}{X:Except (Nat×Nat) Tr}{r:Rr}(k:L q w1 wr)(w:LG s d en X b r)(hi:b<s.size)(S:s.size<=16777216)(y:aI s[b]=O)(z:q<=wr.heap.size)(c:lJ wr q s d b (r.J7 en d s[b] (s.data.toList.drop (b+1))) (av (Y v)) u)(F:i<=b):
 aGx w1 q s d en X (Y v) u/\mOf s q (Y v) u<s.size+2-i:=by
 obtain⟨_,⟨p,G⟩,K⟩:=w;have l:(s.data.toList.drop (b+1)).length=s.size-(b+1):=by simp
 have g:en=E->X=match r.B5 d s[b] (s.data.toList.drop (b+1))with
  | .cut=>ao (95,b+((s.data.toList.drop (b+1)).length+1))
  | .bad no a=>ao (no,b+a)
  | .on n f=>bs d f (b+n) ((s.data.toList.drop (b+1)).drop (n-1)):=λe=>by
  rw[K e,bA hi,bs,py (by rw[y];simp)];cases r.B5 d s[b] (s.data.toList.drop (b+1))<;>rfl
 obtain⟨m,c⟩:=c;cases h:r.J7 en d s[b] (s.data.toList.drop (b+1))with
 | on n t=>
  rw[h]at c;obtain⟨f,o,j⟩:=c;obtain⟨T,P,R,x⟩:=zV G y (by rw[l];omega) h;rw[l]at P;injection f with f;injection f with f;subst f;refine⟨⟨k.trans m,ak ⟨rfl,b+n,t,o,j,by omega,⟨R,x⟩,λe=>?_⟩⟩,by rw[aMf j];omega⟩;rw[g e,aEr h];show bs d t (b+n) ((s.data.toList.drop (b+1)).drop (n-1))=_;rw[List.drop_drop,show b+1+(n-1)=b+n by omega]
 | cut=>
  rw[h]at c;obtain⟨f,t,o,j⟩:=c;injection f with f;injection f with f;subst f;refine⟨⟨k.trans m,aw (ak ⟨rfl,⟨b,t,o,j⟩,λe=>?_⟩)⟩,by rw[aLM];omega⟩;subst e;rw[rK]at h;rw[g rfl,h,l,show b+(s.size-(b+1)+1)=s.size by omega]
 | bad no a=>
  rw[h]at c;obtain⟨f,j⟩:=c;have o:=aKP h;injection f with f;injection f with f;subst f;refine⟨⟨k.trans m,aw (aw ⟨rfl,no,b+a,o,j,λe=>?_⟩)⟩,by rw[aLN j o];omega⟩;subst e;rw[rK]at h;rw[g rfl,h]
def aBo(w:Z)(s:ByteArray)(d:Nat)(en:Bool)(hd:d<=512)(hs:s.size<=16777216):ah B 48 #[s,d,en] w λe w'=>aMv w en (jR s.data.toList d) e w':=by
 obtain⟨X,m⟩:∃X,jR s.data.toList d=X:=⟨_,rfl⟩;obtain⟨h,g⟩:∃h,w.heap.size+1=h:=⟨_,rfl⟩;obtain⟨w1,c⟩:∃w1,(w.alloc (D #[I N 0,I N 0,I N 0,I N 0,Y O,I N 0,Y O,I Q 0,"",(),()] 36)).alloc (D (rdC s d 0 0 (U J 0 0) 0 0 0 O 0 ⟨#[]⟩ (U J 0 0) (U J 0 0) 0 0 0) 172)=w1:=⟨_,rfl⟩
 have f:w1.heap[h]?=H (D (rdC s d 0 0 (U J 0 0) 0 0 0 O 0 ⟨#[]⟩ (U J 0 0) (U J 0 0) 0 0 0) 172 (0,0)):=by
  rw[<-c,<-g];have:=aL (w.alloc (D #[I N 0,I N 0,I N 0,I N 0,Y O,I N 0,Y O,I Q 0,"",(),()] 36)) (D (rdC s d 0 0 (U J 0 0) 0 0 0 O 0 ⟨#[]⟩ (U J 0 0) (U J 0 0) 0 0 0) 172);rw[World.size_alloc]at this;exact this
 have j:aU w1 h s d 0 ⟨0,[],0,0,.null⟩ h:=⟨U J 0 0,[],0,O,0,⟨#[]⟩,J,0,0,J,0,0,f,iF (aj f),.nil _ _ _,λk e=>(by cases e),.nil _ _ (hU _),λe=>(by cases e)⟩;have i3:=A (show aGx w1 h s d en X (Y E) w1 from⟨dk _ _,ak ⟨rfl,0,_,_,j,dr _,⟨_,uW hd⟩,λ_=>by rw[<-m];rfl⟩⟩)
 have l:w1.heap[w.heap.size]?=H (D #[I N 0,I N 0,I N 0,I N 0,Y O,I N 0,Y O,I Q 0,"",(),()] 36 (0,0)):=by
  rw[<-c];exact(Below.heap_alloc _ _ _ (by simp)).trans (aL w _)
 have b:=A (show w1.heap[w.heap.size]?=H (D #[I N 0,I N 0,I N 0,I N 0,Y O,I N 0,Y O,I Q 0,"",(),()] 36 (0,0))/\L w w w1/\w.heap.size+1=h from⟨l,by rw[<-c];exact((dk w w).alloc (hU _) _).alloc (by simp) _,g⟩);rw[m];have h7:=A (aj f);clear f j l m;go_enter func48,ntmps48;go_wp2_with fail;have f:(w.alloc (D #[I N 0,I N 0,I N 0,I N 0,Y O,I N 0,Y O,I Q 0,"",(),()] 36)).alloc (D #[s,d,I N 0,I N 0,(),I N 0,I N 0,I N 0,Y O,I Q 0,"",(),(),I N 0,I N 0,I N 0] 172)=w1:=c;rw[f];clear c f g;go_loopw [8] (λv wr=>M (aGx w1 h s d en X v wr)) (λv wr=>mOf s h v wr)
 case atStart=>exact i3
 case round=>
  obtain⟨f,u⟩:=hrel.o;rcases u with⟨rfl,i,r,h8,q,g⟩|⟨rfl,⟨i,r,h8,q⟩,hx⟩|⟨rfl,no,a,h9,q,hx⟩
  .have i7:=A g;have c:=q;obtain⟨P,h1,so,fl,bi,tx,a1,n1,m1,a2,n2,m2,n,-⟩:=q;obtain⟨⟨-,-,q2,-,-,-,-,-⟩,⟨-,-,-,-,-,qd,-,-⟩,-⟩:=dF n;have i4:=A (show mOf s h (Y E) wr=s.size+2-i from by unfold mOf zW placeOf;rw[qd,q2];simp);have i5:=A (show aMe w1 h s d en X i r wr from⟨f,i,h8,hU _,c,g⟩);clear n c g f;go_wp2;go_loopw [18] (λ_ wi=>M (aMe w1 h s d en X i r wi)) (λ_ wi=>s.size-placeOf h wi)
   case atStart=>exact i5
   case round=>
    obtain⟨f,j,g9,z,c,g⟩:=hrel.o;have h0:=A (And.intro c (And.intro g z));have l:=A f;by_cases h3:j<s.size
    .have e1:(j:Int)<(s.size:Int):=(by omega);have S:(0:Int)<=(j:Int):=(by omega);have o:=A (λW=>xQ W s[j]);obtain⟨T,c2,V⟩:=c.cells;have t:h<wr.heap.size:=(by obtain⟨P,h1,so,fl,bi,tx,a1,n1,m1,a2,n2,m2,n,-⟩:=c;exact aj n);have y:=A t;have x:placeOf h wr=j:=(by unfold placeOf;rw[c2];simp);have F:=A x;cases m:aI s[j]with
     | true=>
      rw[m]at o;have j1:N.wrap ((j:Int)+1)=((j+1:Nat):Int):=(by rw[b9];omega);have G:=A (show aMe w1 h s d en X i r (wr.setCell ⟨h,2,J⟩ (I N ((j:Int)+1)))from⟨f.trans (((ac (λk=>k=h) wr).own 2 _).A6 (bo (iF h7.o) f.size) λk e=>by omega),j+1,g9,by omega,c.B5 (j+1) _ (by simp),g.X5 hs h3 m⟩)
      have K:=A (show placeOf h (wr.setCell ⟨h,2,J⟩ (I N ((j:Int)+1)))=j+1 from by
       have R:=(c.B5 (j+1) ((j:Int)+1) (by simp)).cells.2.1;unfold placeOf;rw[R];simp)
      clear c g f x m t;go_wp2_with fail;refine(o.o _).mono ?_;rintro e w2 ⟨rfl,rfl⟩;go_wp2_with fail;exact⟨A G.o,by rw[K.o,F.o];omega⟩
     | false=>
      rw[m]at o;have G:=A (aGt wr h s d j g9 r c (by obtain⟨_,⟨p,R⟩,_⟩:=g;exact aBn R hd) en h3 hs);have K:=A m;clear f x t c g m;go_wp2_with fail;refine(o.o _).mono ?_;rintro e w2 ⟨rfl,rfl⟩;go_wp2_with fail;refine G.o.mono ?_;rintro e x u;obtain⟨bv,rfl⟩:=lJ.D6 u;have t:=A u;clear u;go_wp2_with fail;have m:=aIM l.o h0.o.2.1 h3 hs K.o (iF y.o) t.o h0.o.2.2;exact⟨A m.1,by rw[i4.o];exact m.2⟩
    .have e1:¬(j:Int)<(s.size:Int):=(by omega);have e2:(s.size:Int)<=(j:Int):=(by omega);have m:j=s.size:=by have:=g.1;omega
     have i0:=A (show en=E->X=if r.b=6 then .ok r.done else ao (95,s.size)from λa0=>by
      rw[g.2.2 a0,m,dl (by simp),bs])
     obtain⟨P,h1,so,fl,bi,tx,a1,n1,m1,a2,n2,m2,n,t⟩:=c;obtain⟨pa,pc,rfl⟩:=t.a.A8;obtain⟨x,y⟩:∃x,r.e.length=x:=⟨_,rfl⟩;rw[y]at n;obtain⟨⟨-,-,q2,q3,q4,-,-,q7⟩,⟨q8,q9,qa,qb,qc,qd,-,-⟩,-⟩:=dF n;have h4:=A n;have i6:=A t.done;clear n t y g f m z;cases en with
     | true=>
      by_cases o:r.b=6
      .have k6:((r.b:Int)!=6)=O:=(by simp;omega);have g7:=A (And.intro (i6.o o) (show X=.ok r.done by rw[i0.o rfl,pz o]));have g:=(l.o.block w.heap.size (by have:=b.o.2.2;omega)).trans b.o.1;have m:=A (kQ (I N 0) (I N 0) (I N 0) (I N 0) (Y E) (I N so) (Y fl) (I Q bi) (ai tx) (U a1 n1 m1) (U a2 n2 m2) g);obtain⟨p0,p1,p2,p3,p4,p5,p6,p7,p8,p9,i1,pf⟩:=eB g;have n5:¬h=w.heap.size:=(by have:=b.o.2.2;omega);clear g o;go_wp2_with fail;obtain⟨z,F,G,K,R,S,T,V,r8,r9,ra,_⟩:=eB m.o.1;refine bb (v:=lK 0 0 0 0 E so fl bi tx (U a1 n1 m1) (U a2 n2 m2)) (by simp[au,bw,go_sem,lK,z,F,G,K,R,S,T,V,r8,r9,ra]) rfl ⟨0,0,0,0,E,so,fl,bi,tx,a1,n1,m1,a2,n2,m2,rfl,?_,λa0=>?_⟩
       .exact(b.o.2.1.trans (l.o.mono (by have:=b.o.2.2;omega))).trans (m.o.2.A6 (bo b.o.2.1.size l.o.size) λk e=>by omega)
       .rw[g7.o.2];refine⟨rfl,(g7.o.1.A0 m.o.2 λk e _ e2=>by have:=b.o.2.2;omega).mono λk e _=>by have:=b.o.2.2;omega⟩
      .have k6:((r.b:Int)!=6)=E:=(by simp;omega);have h5:=A (show E=E->X=ao (95,s.size)from λa0=>by rw[i0.o a0,py o]);clear o;go_wp2_with fail;refine(sG wr h 95 s.size s.size s d _ r.b _ _ _ _ _ _ _ _ _ h4.o).mono ?_;rintro e w5 ⟨rfl,o,g7⟩;obtain⟨⟨-,-,-,-,-,-,-,-⟩,⟨-,-,-,-,-,zd,ze,zf⟩,_⟩:=dF g7;have g:=o.B4 ((l.o.block w.heap.size (by have:=b.o.2.2;omega)).trans b.o.1) (by have:=b.o.2.2;omega);have m:=A (kQ (I N 95) (I N s.size) (I N s.size) (I N 0) (Y O) (I N 0) (Y O) (I Q 0) (ai ⟨#[]⟩) (U J 0 0) (U J 0 0) g);obtain⟨p0,p1,p2,p3,p4,p5,p6,p7,p8,p9,pa,pf⟩:=eB g;have g8:=A o;clear o g7 g;go_wp2_with fail;obtain⟨z,F,G,K,R,S,T,V,r8,r9,ra,_⟩:=eB m.o.1;refine bb (v:=lK 95 s.size s.size 0 O 0 O 0 ⟨#[]⟩ (U J 0 0) (U J 0 0)) (by simp[au,bw,go_sem,lK,z,F,G,K,R,S,T,V,r8,r9,ra]) rfl ⟨95,s.size,s.size,0,O,0,O,0,⟨#[]⟩,J,0,0,J,0,0,rfl,?_,λa0=>?_⟩
       .exact((b.o.2.1.trans (l.o.mono (by have:=b.o.2.2;omega))).trans (g8.o.A6 (bo b.o.2.1.size l.o.size) λk e=>by have:=b.o.2.2;omega)).trans (m.o.2.A6 (bo (bo b.o.2.1.size l.o.size) g8.o.size) λk e=>by omega)
       .rw[h5.o (by first|exact a0|trivial)];exact⟨rfl,by decide,rfl⟩
     | false=>
      have g:=(l.o.block w.heap.size (by have:=b.o.2.2;omega)).trans b.o.1;have m:=A (kQ (I N 0) (I N 0) (I N 0) (I N x) (Y O) (I N 0) (Y O) (I Q 0) (ai ⟨#[]⟩) (U J 0 0) (U J 0 0) g);obtain⟨p0,p1,p2,p3,p4,p5,p6,p7,p8,p9,i1,pf⟩:=eB g;clear g;go_wp2_with fail;obtain⟨z,F,G,K,R,S,T,V,r8,r9,ra,_⟩:=eB m.o.1;refine bb (v:=lK 0 0 0 x O 0 O 0 ⟨#[]⟩ (U J 0 0) (U J 0 0)) (by simp[au,bw,go_sem,lK,z,F,G,K,R,S,T,V,r8,r9,ra]) rfl ⟨0,0,0,x,O,0,O,0,⟨#[]⟩,J,0,0,J,0,0,rfl,?_,λa0=>by cases a0⟩;exact(b.o.2.1.trans (l.o.mono (by have:=b.o.2.2;omega))).trans (m.o.2.A6 (bo b.o.2.1.size l.o.size) λk e=>by omega)
  .have l:=A f;have h5:=A hx;obtain⟨P,h1,so,fl,bi,tx,a1,n1,m1,a2,n2,m2,n,t⟩:=q;obtain⟨pa,pc,rfl⟩:=t.a.A8;obtain⟨x,y⟩:∃x,r.e.length=x:=⟨_,rfl⟩;rw[y]at n;obtain⟨⟨-,-,-,-,q4,-,-,-⟩,⟨-,-,-,-,-,qd,-,-⟩,-⟩:=dF n;have h4:=A n;clear n t hx y f;cases en with
   | true=>
    go_wp2_with fail;refine(sG wr h 95 s.size s.size s d i r.b _ _ _ _ _ _ _ _ _ h4.o).mono ?_;rintro e w5 ⟨rfl,o,g7⟩;obtain⟨⟨-,-,-,-,-,-,-,-⟩,⟨-,-,-,-,-,zd,ze,zf⟩,_⟩:=dF g7;have g:=o.B4 ((l.o.block w.heap.size (by have:=b.o.2.2;omega)).trans b.o.1) (by have:=b.o.2.2;omega);have m:=A (kQ (I N 95) (I N s.size) (I N s.size) (I N 0) (Y O) (I N 0) (Y O) (I Q 0) (ai ⟨#[]⟩) (U J 0 0) (U J 0 0) g);obtain⟨p0,p1,p2,p3,p4,p5,p6,p7,p8,p9,pa,pf⟩:=eB g;have g8:=A o;clear o g7 g;go_wp2_with fail;obtain⟨z,F,G,K,R,S,T,V,r8,r9,ra,_⟩:=eB m.o.1;refine bb (v:=lK 95 s.size s.size 0 O 0 O 0 ⟨#[]⟩ (U J 0 0) (U J 0 0)) (by simp[au,bw,go_sem,lK,z,F,G,K,R,S,T,V,r8,r9,ra]) rfl ⟨95,s.size,s.size,0,O,0,O,0,⟨#[]⟩,J,0,0,J,0,0,rfl,?_,λa0=>?_⟩
    .exact((b.o.2.1.trans (l.o.mono (by have:=b.o.2.2;omega))).trans (g8.o.A6 (bo b.o.2.1.size l.o.size) λk e=>by have:=b.o.2.2;omega)).trans (m.o.2.A6 (bo (bo b.o.2.1.size l.o.size) g8.o.size) λk e=>by omega)
    .rw[h5.o (by first|exact a0|trivial)];exact⟨rfl,by decide,rfl⟩
   | false=>
    have g:=(l.o.block w.heap.size (by have:=b.o.2.2;omega)).trans b.o.1;have m:=A (kQ (I N 0) (I N 0) (I N 0) (I N x) (Y O) (I N 0) (Y O) (I Q 0) (ai ⟨#[]⟩) (U J 0 0) (U J 0 0) g);obtain⟨p0,p1,p2,p3,p4,p5,p6,p7,p8,p9,i1,pf⟩:=eB g;clear g;go_wp2_with fail;obtain⟨z,F,G,K,R,S,T,V,r8,r9,ra,_⟩:=eB m.o.1;refine bb (v:=lK 0 0 0 x O 0 O 0 ⟨#[]⟩ (U J 0 0) (U J 0 0)) (by simp[au,bw,go_sem,lK,z,F,G,K,R,S,T,V,r8,r9,ra]) rfl ⟨0,0,0,x,O,0,O,0,⟨#[]⟩,J,0,0,J,0,0,rfl,?_,λa0=>by cases a0⟩;exact(b.o.2.1.trans (l.o.mono (by have:=b.o.2.2;omega))).trans (m.o.2.A6 (bo b.o.2.1.size l.o.size) λk e=>by omega)
  .obtain⟨o,t,x,y,P,j,bytes,so,fl,bi,tx,a1,n1,m1,a2,n2,m2,l,n⟩:=q;obtain⟨⟨-,-,-,-,-,-,-,-⟩,⟨-,-,-,-,-,qd,qe,qf⟩,_⟩:=dF n;have e1:(((no:Nat):Int)==0)=O:=(by simp;omega);have e2:(((no:Nat):Int)!=0)=E:=(by simp;omega);have g:=(f.block w.heap.size (by have:=b.o.2.2;omega)).trans b.o.1;have m:=A (kQ (I N no) (I N a) (I N l) (I N 0) (Y O) (I N 0) (Y O) (I Q 0) (ai ⟨#[]⟩) (U J 0 0) (U J 0 0) g);obtain⟨p0,p1,p2,p3,p4,p5,p6,p7,p8,p9,pa,pf⟩:=eB g;have c:=A (And.intro hx (And.intro h9 f));clear n hx h9 g;go_wp2_with fail;obtain⟨z,F,G,K,R,S,T,V,r8,r9,ra,_⟩:=eB m.o.1;refine bb (v:=lK no a l 0 O 0 O 0 ⟨#[]⟩ (U J 0 0) (U J 0 0)) (by simp[au,bw,go_sem,lK,z,F,G,K,R,S,T,V,r8,r9,ra]) rfl ⟨no,a,l,0,O,0,O,0,⟨#[]⟩,J,0,0,J,0,0,rfl,?_,λa0=>?_⟩
   .exact(b.o.2.1.trans (c.o.2.2.mono (by have:=b.o.2.2;omega))).trans (m.o.2.A6 (bo b.o.2.1.size c.o.2.2.size) λk e=>by omega)
   .rw[c.o.1 a0];exact⟨rfl,c.o.2.1,rfl⟩
def aMg(w:Z)(s:ByteArray)(d:Nat)(e:bk)(w':Z):Prop:=∃(no a f u:Int)(r:Bool)(c:Int)(j:Bool)(h:Nat)(q:ByteArray)(i:Option ag)(l o:Nat)(b:Option ag)(g m:Nat),e=av (lK no a f u r c j h q (U i l o) (U b g m))/\L w w w'/\
 (s.size<=16777216->match jR s.data.toList d with
  | .error (n,p)=>no=(n:Int)/\n≠0/\a=(p:Int)
  | .ok t=>no=0/\ValAt (λk=>w.heap.size<=k) w' (eQ c j h q (U i l o) (U b g m)) t)/\(16777216<s.size->no≠0)
def aIN(w:Z)(s:ByteArray)(d:Nat)(hd:d<=512):ah B 13 #[s,d,Y E] w λe w'=>aMg w s d e w':=by
 have b:(w.alloc (D #[I N 0,I N 0,I N 0,I N 0,Y O,I N 0,Y O,I Q 0,"",(),()] 36)).heap[w.heap.size]?=H (D #[I N 0,I N 0,I N 0,I N 0,Y O,I N 0,Y O,I Q 0,"",(),()] 36 (0,0)):=aL w _;have HB:=A (And.intro b ((dk w w).alloc (hU _) (D #[I N 0,I N 0,I N 0,I N 0,Y O,I N 0,Y O,I Q 0,"",(),()] 36)));clear b;by_cases hs:s.size<=16777216
 .have e1:¬(16777216:Int)<(s.size:Int):=by omega
  have HR:=A (λW=>aBo W s d E hd hs);go_enter func13,ntmps13;go_wp2_with fail;refine(HR.o _).mono ?_;rintro e w2 ⟨no,a,f,g,h,i,j,l,m,n,o,p,q,r,u,rfl,b,F⟩;have c:=keep HB.o.1 b;obtain⟨p0,p1,p2,p3,p4,p5,p6,p7,p8,p9,pa,pf⟩:=eB c;have y:=A (kQ (I N no) (I N a) (I N f) (I N g) (Y h) (I N i) (Y j) (I Q l) (ai m) (U n o p) (U q r u) c);have z:=A (And.intro F (chain HB.o.2 b));clear F b c;unfold lK;go_wp2_with fail;obtain⟨F,G,K,P,R,S,T,V,X,r9,ra,_⟩:=eB y.o.1;refine bb (v:=lK no a f g h i j l m (U n o p) (U q r u)) (by simp[au,dm,go_sem,lK,F,G,K,P,R,S,T,V,X,r9,ra]) rfl ⟨no,a,f,g,h,i,j,l,m,n,o,p,q,r,u,rfl,z.o.2.trans (y.o.2.A6 z.o.2.size λk e=>by omega),λ_=>?_,λa0=>by omega⟩;have h3:=z.o.1 (by trivial);cases hr:jR s.data.toList d with
  | error x=>rw[hr]at h3;exact h3
  | ok t=>
   rw[hr]at h3;exact⟨h3.1,(h3.2.A0 y.o.2 λk e _ e2=>by simp at e;omega).mono λk e _=>by simp at e;omega⟩
 .have e1:(16777216:Int)<(s.size:Int):=by omega
  have e2:(16777216:Int)<=(s.size:Int):=by omega
  have g3:(s.extract 0 16777216).size<=16777216:=by simp;omega
  have HR:=A (λW=>aBo W (s.extract 0 16777216) d O hd g3);clear g3;go_enter func13,ntmps13;go_wp2_with fail;refine(HR.o _).mono ?_;rintro e w2 ⟨no,a,f,g,h,i,j,l,m,n,o,p,q,r,u,rfl,b,-⟩;have c:=keep HB.o.1 b;have z:=A (chain HB.o.2 b);have g4:=aj c;have HO:=A c;clear b c;unfold lK;obtain⟨p0,p1,p2,p3,p4,p5,p6,p7,p8,p9,pa,pf⟩:=eB HO.o;by_cases b:no=0
  .subst b;have y:=A (kQ (I N 3) (I N 16777216) (I N 16777216) (I N 0) (Y O) (I N 0) (Y O) (I Q 0) (ai ⟨#[]⟩) (U J 0 0) (U J 0 0) HO.o);go_wp2_with fail;have c:=(z.o.trans (y.o.2.A6 z.o.size λk e=>by omega)).alloc (bo z.o.size y.o.2.size) (D #[I N 0,a,f,g,h,i,j,I Q l,m,U n o p,U q r u] 36);obtain⟨F,G,K,P,R,S,T,V,X,r9,ra,_⟩:=eB (((ac (λ_=>False) _).A5 (D #[I N 0,a,f,g,h,i,j,I Q l,m,U n o p,U q r u] 36)).B4 y.o.1 id);exact bb (v:=lK 3 16777216 16777216 0 O 0 O 0 ⟨#[]⟩ (U J 0 0) (U J 0 0)) (by simp[au,dm,go_sem,lK,F,G,K,P,R,S,T,V,X,r9,ra]) rfl ⟨3,16777216,16777216,0,O,0,O,0,⟨#[]⟩,J,0,0,J,0,0,rfl,c,λa0=>absurd a0 hs,λ_=>by decide⟩
  .have e3:(no==0)=O:=(by simp;omega);have y:=A (kQ (I N no) (I N a) (I N f) (I N g) (Y h) (I N i) (Y j) (I Q l) (ai m) (U n o p) (U q r u) HO.o);have g3:=A b;clear b;go_wp2_with fail;have c:=(z.o.trans (y.o.2.A6 z.o.size λk e=>by omega)).alloc (bo z.o.size y.o.2.size) (D #[no,a,f,g,h,i,j,I Q l,m,U n o p,U q r u] 36);obtain⟨F,G,K,P,R,S,T,V,X,r9,ra,_⟩:=eB (((ac (λ_=>False) _).A5 (D #[no,a,f,g,h,i,j,I Q l,m,U n o p,U q r u] 36)).B4 y.o.1 id);exact bb (v:=lK no a f g h i j l m (U n o p) (U q r u)) (by simp[au,dm,go_sem,lK,F,G,K,P,R,S,T,V,X,r9,ra]) rfl ⟨no,a,f,g,h,i,j,l,m,n,o,p,q,r,u,rfl,c,λa0=>absurd a0 hs,λ_=>g3.o⟩
def aN9(l:List UInt8)(a d:Nat)(b:Bool):Except (Nat×Nat) Tr:=
 if b=O then ao (260,0)else if 16777216<l.length then ao (3,a+16777216)else if l.getLast?≠H 10 then ao (261,a+l.length)else
  match jR l d with
  | .error (n,p)=>ao (n,a+p)
  | .ok t=>.ok t
def aOa(w:Z)(X:Except (Nat×Nat) Tr)(e:bk)(w':Z):Prop:=∃(c:Int)(h:Bool)(f:Nat)(m:ByteArray)(g:Option ag)(i l:Nat)(b:Option ag)(d j:Nat)(no a:Int),e=av (aMy c h f m (U g i l) (U b d j) no a)/\L w w w'/\
 match X with
  | .error (n,p)=>no=(n:Int)/\a=(p:Int)/\n≠0
  | .ok t=>no=0/\a=0/\ValAt (λk=>w.heap.size<=k) w' (eQ c h f m (U g i l) (U b d j)) t
def aOB(w:Z)(s:ByteArray)(b d:Nat)(sg:Bool)(hd:d<=512)(hs:0<s.size)(hb:b+s.size<=1099511627776)(hp:∀n p,jR s.data.toList d=ao (n,p)->p<=1099511627776):
 ah B 67 #[s,b,d,sg] w λe w'=>aOa w (aN9 s.data.toList b d sg) e w':=by
 unfold aN9;cases sg with
 | false=>
  rw[pz rfl];go_enter co,cr;go_wp2_with fail;exact bb (v:=aMy 0 O 0 ⟨#[]⟩ (U J 0 0) (U J 0 0) 260 0) (by simp[au,ct,go_sem,aMy]) rfl ⟨0,O,0,⟨#[]⟩,J,0,0,J,0,0,260,0,rfl,(dk _ _).alloc (hU _) _,rfl,rfl,by decide⟩
 | true=>
  rw[py (by decide)];by_cases R:16777216<s.size
  .rw[pz (by simpa using R)];have e1:(16777216:Int)<(s.size:Int):=(by omega);have e2:N.wrap ((b:Int)+16777216)=((b+16777216:Nat):Int):=(by rw[b9];omega);go_enter co,cr;go_wp2_with fail;exact bb (v:=aMy 0 O 0 ⟨#[]⟩ (U J 0 0) (U J 0 0) 3 ((b+16777216:Nat):Int)) (by simp[au,ct,go_sem,aMy]) rfl ⟨0,O,0,⟨#[]⟩,J,0,0,J,0,0,3,_,rfl,(dk _ _).alloc (hU _) _,rfl,rfl,by decide⟩
  .rw[py (by simpa using R)];have e1:¬(16777216:Int)<(s.size:Int):=(by omega);obtain⟨q,hq⟩:∃q,s.size=q+1:=⟨s.size-1,by omega⟩;have g4:q<s.size:=(by omega);have q1:N.wrap ((s.size:Int)-1)=(q:Int):=(by rw[b9];omega);have q2:(q:Int)<(s.size:Int):=by omega
   have K:s.data.toList.getLast?=H s[q]:=by
    rw[List.getLast?_eq_getElem?];have:s.data.toList.length-1=q:=(by simp;omega);rw[this,bf (by simpa using g4)];rfl
   have HS:=A (show s.size<=16777216 by omega);have q3:N.wrap ((b:Int)+(s.size:Int))=((b+s.size:Nat):Int):=(by rw[b9];omega);have g5:=A (show s.data.toList.length=s.size by simp);by_cases P:s[q]=10
   .rw[py (by rw[K,P];simp)];have e3:(((s[q].toNat:Nat):Int)!=10)=O:=by rw[P];rfl
    cases hr:jR s.data.toList d with
    | error x=>
     obtain⟨n,p⟩:=x;have y:=hp n p hr;have q4:N.wrap ((b:Int)+(p:Int))=((b+p:Nat):Int):=by rw[b9];omega
     have HR:=A (λ(W:Z)=>(aIN W s d hd).mono λe w'(a0:aMg W s d e w')=>show ∃(f F:Int)(G:Bool)(c:Int)(g:Bool)(h:Nat)(i:ByteArray)(j:Option ag)(l m:Nat)(o:Option ag)(r u:Nat),e=av (lK n p f F G c g h i (U j l m) (U o r u))/\L W W w'/\n≠0 from by
      obtain⟨no,a,f,F,G,c,g,h,i,j,l,m,o,r,u,R,P,h3,_⟩:=a0;have h4:=h3 HS.o;rw[hr]at h4;obtain⟨h5,h6,z⟩:=h4;subst h5;subst z;exact⟨f,F,G,c,g,h,i,j,l,m,o,r,u,R,P,h6⟩)
     clear K P hq R hb hs hp hr y;show ah _ _ _ _ λe w'=>aOa w (ao (n,b+p)) e w';go_enter co,cr;go_wp2_with fail;refine(HR.o _).mono ?_;rintro e w2 ⟨f,F,G,c,g,h,i,j,l,m,o,r,u,rfl,y,z⟩;have e4:(((n:Nat):Int)!=0)=E:=(by simp;omega);have S:=keep (aL w (D #[I N 0,Y O,I Q 0,"",(),(),I N 0,I N 0] 79)) y;obtain⟨p0,p1,p2,p3,p4,p5,p6,p7,pf⟩:=aMZ S;have g6:=aj S;have V:=A (And.intro z (And.intro y S));clear y S z;unfold lK;go_wp2_with fail;have T:=aNG (I N 0) (Y O) (I Q 0) (ai ⟨#[]⟩) (U J 0 0) (U J 0 0) (I N n) (I N ((b:Int)+(p:Int))) V.o.2.2;have z:=((dk w w).alloc (hU _) (D #[I N 0,Y O,I Q 0,"",(),(),I N 0,I N 0] 79)).trans (V.o.2.1.mono (by simp));have X:=(z.trans (T.2.A6 (n:=w.heap.size) z.size λk e=>by omega)).alloc (bo z.size T.2.size) (D #[n,p,f,F,G,c,g,I Q h,i,U j l m,U o r u] 36);obtain⟨r0,r1,r2,r3,r4,r5,r6,r7,_⟩:=aMZ (((ac (λ_=>False) _).A5 (D #[n,p,f,F,G,c,g,I Q h,i,U j l m,U o r u] 36)).B4 T.1 id);exact bb (v:=aMy 0 O 0 ⟨#[]⟩ (U J 0 0) (U J 0 0) n ((b:Int)+(p:Int))) (by simp[au,ct,go_sem,aMy,r0,r1,r2,r3,r4,r5,r6,r7]) rfl ⟨0,O,0,⟨#[]⟩,J,0,0,J,0,0,n,_,rfl,X,rfl,by omega,V.o.1⟩
    | ok t=>
     have HR:=A (λ(W:Z)=>(aIN W s d hd).mono λe w'(a0:aMg W s d e w')=>show ∃(a f F:Int)(G:Bool)(c:Int)(g:Bool)(h:Nat)(i:ByteArray)(j:Option ag)(l m:Nat)(o:Option ag)(r u:Nat),e=av (lK 0 a f F G c g h i (U j l m) (U o r u))/\L W W w'/\ValAt (λk=>W.heap.size<=k) w' (eQ c g h i (U j l m) (U o r u)) t from by
      obtain⟨no,a,f,F,G,c,g,h,i,j,l,m,o,r,u,R,P,h3,_⟩:=a0;have h4:=h3 HS.o;rw[hr]at h4;obtain⟨h5,h6⟩:=h4;subst h5;exact⟨a,f,F,G,c,g,h,i,j,l,m,o,r,u,R,P,h6⟩)
     clear K P hq R hb hs hp hr;show ah _ _ _ _ λe w'=>aOa w (.ok t) e w';go_enter co,cr;go_wp2_with fail;refine(HR.o _).mono ?_;rintro e w2 ⟨a,f,F,G,c,g,h,i,j,l,m,o,r,u,rfl,y,hv⟩;have S:=keep (aL w (D #[I N 0,Y O,I Q 0,"",(),(),I N 0,I N 0] 79)) y;obtain⟨p0,p1,p2,p3,p4,p5,p6,p7,pf⟩:=aMZ S;have g6:=aj S;have V:=A (And.intro hv (And.intro y S));clear y S hv;unfold lK;go_wp2_with fail;have T:=aNG (I N c) (Y g) (I Q h) (ai i) (U j l m) (U o r u) (I N 0) (I N 0) V.o.2.2;have z:=((dk w w).alloc (hU _) (D #[I N 0,Y O,I Q 0,"",(),(),I N 0,I N 0] 79)).trans (V.o.2.1.mono (by simp));have X:=(z.trans (T.2.A6 (n:=w.heap.size) z.size λk e=>by omega)).alloc (bo z.size T.2.size) (D #[I N 0,a,f,F,G,c,g,I Q h,i,U j l m,U o r u] 36);obtain⟨r0,r1,r2,r3,r4,r5,r6,r7,_⟩:=aMZ (((ac (λ_=>False) _).A5 (D #[I N 0,a,f,F,G,c,g,I Q h,i,U j l m,U o r u] 36)).B4 T.1 id);exact bb (v:=aMy c g h i (U j l m) (U o r u) 0 0) (by simp[au,ct,go_sem,aMy,r0,r1,r2,r3,r4,r5,r6,r7]) rfl ⟨c,g,h,i,j,l,m,o,r,u,0,0,rfl,X,rfl,rfl,((V.o.1.A0 (T.2.trans ((ac (λ_=>False) _).A5 _) (λk a0=>a0.elim)) λk e _ e2=>by simp at e e2;omega).mono λk e _=>by simp at e;omega)⟩
   .rw[pz (by rw[K];simpa using P)]
    have e3:(((s[q].toNat:Nat):Int)!=10)=E:=by
     have:s[q].toNat≠10:=λe=>P (kb e);simp;omega
    rw[g5.o];clear K P hq R hb hs hp;go_enter co,cr;go_wp2_with fail;exact bb (v:=aMy 0 O 0 ⟨#[]⟩ (U J 0 0) (U J 0 0) 261 ((b+s.size:Nat):Int)) (by simp[au,ct,go_sem,aMy]) rfl ⟨0,O,0,⟨#[]⟩,J,0,0,J,0,0,261,_,rfl,(dk _ _).alloc (hU _) _,rfl,rfl,by decide⟩
section
def eM(d:Nat):(a:Nat)->(e:Bool)->(b:List UInt8)->List UInt8->List (Except (Nat×Nat) Tr)
 | a,e,b,[]=>if b= []then []else [aN9 b.reverse a d e]
 | a,e,b,c::l=>if c=30 then(if b= []then []else [aN9 b.reverse a d e])++eM d (a+b.length+1) E [] l else eM d a e (c::b) l
def jT(d a:Nat)(b:Bool)(i:Nat)(l:List UInt8):List (Except (Nat×Nat) Tr):=if i<=l.length then eM d a b ((l.take i).drop a).reverse (l.drop i)else []
def vM{b:Bool}(hi:i<l.length)(c:l[i]≠30)(e:a<=i):jT d a b i l=jT d a b (i+1) l:=by
 unfold jT;rw[pz,pz,nf hi]
 conv=>lhs;unfold eM
 rw[py c,List.take_succ_eq_append_getElem hi,List.drop_append_of_le_length (by simp;omega),List.reverse_append];rfl
def oO{e:Bool}(hi:i<=l.length)(f:∀h:i<l.length,l[i]=30)(j:a<=i):jT d a e i l=(if a=i then []else [aN9 ((l.take i).drop a) a d e])++jT d (i+1) E (i+1) l:=by
 have c:((l.take i).drop a).reverse.length=i-a:=by simp;omega
 have b:(((l.take i).drop a).reverse= [])<->a=i:=by rw[<-List.length_eq_zero_iff,c];omega
 have g:(l.take (i+1)).drop (i+1)= []:=dl (by simp;omega);unfold jT;rw[pz hi];by_cases h:i<l.length
 .rw[pz (show i+1<=l.length from h),nf h,g]
  conv=>lhs;unfold eM
  rw[pz (f h),ei,c,show a+(i-a)+1=i+1 by omega];simp only[b];rfl
 .rw[py (show ¬i+1<=l.length by omega),show l.drop i= []from dl (by omega),jz];unfold eM;rw[ei];simp only[b]
def yD:lB 75 79 8 104:=⟨underlying75,by decide,by
 have h:(B.info? 79).map (λi=>(i.zero,i.size,i.bytes))=H (H (.agg #[I N 0,Y O,I Q 0,"",(),(),I N 0,I N 0]),8,104):=by kernel_rfl
 obtain⟨i,c,a,d,b⟩:=info_parts h;exact⟨i,_,c,a,d,b,rfl⟩⟩
def yE(h:Int)(j:Bool)(f:Nat)(l:ByteArray)(g:Option ag)(c k:Nat)(e:Option ag)(d i:Nat)(no a:Int):∀u∈([I N h,Y j,I Q f,ai l,U g c k,U e d i,I N no,I N a]:List C),u.oneCell'=E:=by
 intro u b;simp at b;rcases b with rfl|rfl|rfl|rfl|rfl|rfl|rfl|rfl<;>rfl
def yF(c:Int)(d:Bool)(b:Nat)(e:ByteArray)(V K:C)(no a:Int):List C:= [I N c,Y d,I Q b,ai e,V,K,I N no,I N a]
def rM(F:Nat->Prop)(w:Z)(c:List C)(X:Except (Nat×Nat) Tr):Prop:=∃(d:Int)(h:Bool)(f:Nat)(l:ByteArray)(g:Option ag)(i k:Nat)(b:Option ag)(e j:Nat)(no a:Int),c=yF d h f l (U g i k) (U b e j) no a/\
 match X with
  | .error (n,p)=>no=(n:Int)/\a=(p:Int)/\n≠0
  | .ok t=>no=0/\a=0/\ValAt F w (eQ d h f l (U g i k) (U b e j)) t
section
variable {F G:Nat->Prop} {w w':Z} {c:List C} {X:Except (Nat×Nat) Tr} {css:List (List C)} {R:List (Except (Nat×Nat) Tr)}
def rM.A0(h:rM F w c X)(i:Keeps G w w')(b:∀k,F k->k<w.heap.size->G k->fC w k):rM F w' c X:=by
 obtain⟨f,m,j,q,l,n,p,d,g,o,no,a,rfl,h⟩:=h;refine⟨f,m,j,q,l,n,p,d,g,o,no,a,rfl,?_⟩;cases X with
 | error e=>exact h
 | ok t=>exact⟨h.1,h.2.1,h.2.2.A0 i b⟩
def rM.mono(h:rM F w c X)(g:∀k,F k->k<w.heap.size->G k):rM G w c X:=by
 obtain⟨d,l,i,p,j,m,o,b,f,n,no,a,rfl,h⟩:=h;refine⟨d,l,i,p,j,m,o,b,f,n,no,a,rfl,?_⟩;cases X with
 | error e=>exact h
 | ok t=>exact⟨h.1,h.2.1,h.2.2.mono g⟩
def nA(F:Nat->Prop)(w:Z)(a:List (List C))(R:List (Except (Nat×Nat) Tr)):Prop:=a.length=R.length/\∀(i:Nat)(c:List C)(X:Except (Nat×Nat) Tr),a[i]?=H c->R[i]?=H X->rM F w c X
def nA.A0(h:nA F w css R)(b:Keeps G w w')(a:∀k,F k->k<w.heap.size->G k->fC w k):nA F w' css R:=⟨h.1,λi c X e d=>(h.2 i c X e d).A0 b a⟩
def nA.nil(F:Nat->Prop)(w:Z):nA F w [] []:=⟨rfl,λi c t a=>by simp at a⟩
def nA.U8(h:nA F w css R):∀c∈css,c.length=8:=by
 intro c d;obtain⟨i,hi⟩:=List.getElem?_of_mem d;have b:i<R.length:=by rw[<-h.1];exact(bt.1 hi).1
 obtain⟨f,l,j,p,k,m,o,e,g,n,no,a,rfl,_⟩:=h.2 i c _ hi (bf b);rfl
def nA.L7(h:nA F w css R)(f:rM F w c X):nA F w (css++ [c]) (R++ [X]):=by
 refine⟨by simp[h.1],λi x y a b=>?_⟩;have e:=h.1;by_cases hi:i<css.length
 .rw[ec hi]at a;rw[ec (by omega)]at b;exact h.2 i x y a b
 .have d:=(bt.1 a).1;obtain rfl:i=css.length:=by simp at d;omega
  rw[cL (hU _),mw]at a;rw[e,cL (hU _),mw]at b;cases a;cases b;exact f
end
def jL(w:Z)(c:List (Except (Nat×Nat) Tr))(d:Nat)(l:List UInt8)(i b:Nat)(e:Bool)(o:C)(wr:Z):Prop:=
 b<=i/\∃R a,c=R++jT d b e i l/\aQ 8 79 wr o R.length a.flatten/\nA (λk=>w.heap.size<=k) wr a R/\R.length<=i/\L w w wr/\∀k,o.ownBlock=H k->w.heap.size<=k
def aAh(w:Z)(R:List (Except (Nat×Nat) Tr))(e:bk)(w':Z):Prop:=
 ∃V a,e=av V/\aQ 8 79 w' V R.length a.flatten/\nA (λk=>w.heap.size<=k) w' a R/\L w w w'/\∀k,V.ownBlock=H k->w.heap.size<=k
def jL.D6{w:Z}{a:List (Except (Nat×Nat) Tr)}{e:Nat}{g:Bool}{o:C}(h:jL w a d l i e g o wr)(hi:l.length<i):aAh w a (av o) wr:=by
 obtain⟨_,R,b,c,j,m,_,f,k⟩:=h;unfold jT at c;rw[py,jz]at c;subst c;exact⟨o,b,rfl,j,m,f,k⟩
def jL.N3{w w2:Z}{f:List (Except (Nat×Nat) Tr)}{g:Bool}{o o2:C}{R:List (Except (Nat×Nat) Tr)}{b:List (List C)}{c:List C}(m:f=R++jT d a g i l)(t:nA (λk=>w.heap.size<=k) wr b R)(x:R.length<=i)
 (hi:i<=l.length)(u:∀h:i<l.length,l[i]=30)(v:a<i)(q:Keeps (λk=>o.ownBlock=H k) wr w2)(s:∀k,o.ownBlock=H k->fC wr k)(r:aQ 8 79 w2 o2 (R.length+1) (b.flatten++c))(p:rM (λk=>w.heap.size<=k) w2 c (aN9 ((l.take i).drop a) a d g))(n:L w w w2)(j:∀k,o2.ownBlock=H k->w.heap.size<=k):
 jL w f d l (i+1) (i+1) E o2 w2:=by
 refine⟨hU _,R++ [aN9 ((l.take i).drop a) a d g],b++ [c],?_,?_,(t.A0 q λk _ _ e=>s k e).L7 p,by simp;omega,n,j⟩
 .rw[m,oO hi u (by omega),py,kd]
 .rw[dV,cn];exact r
def fG{F:Nat->Prop}{w W:Z}{v:C}(h:BytesIn F w v l)(d:L w w W):(convert 22 9 v).run B W=.ok (ai ⟨l.toArray⟩) W:=by
 obtain⟨a,cap,rfl,i,-,f⟩:=h;rcases f with rfl|⟨g,off,rfl,_,hi⟩
 .cases a with
  | none=>exact run_convert_bytes_nil (P:=B) W 22 5 ku nq 0 cap 9 lc
  | some e=>exact et W 22 9 5 e cap [] ku nq lc λj c=>by simp at c
 .refine et W 22 9 5 ⟨g,off,J⟩ cap l ku nq lc λj c=>?_;have b:(⟨g,off,J⟩:ag).add j=⟨g,off+j,J⟩:=by unfold Addr.add;split<;>simp_all
  rw[b];exact bE d (hi j l[j] (bf c))
def sW(w:Z)(v:C)(l:Oo)(d:Nat)(hd:d<=512)(hv:BytesIn (λ_=>False) w v l)(hl:l.length<=16777216)(G:∀s:Oo,s.length<=l.length->∀n p,jR s d=ao (n,p)->p<=1099511627776):
 ah B 35 #[v,d,Y E] w λe w'=>aAh w (eM d 0 O [] l) e w':=by
 obtain⟨r,h⟩:∃r,eM d 0 O [] l=r:=⟨_,rfl⟩
 have h9:=A (λ(i b:Nat)(h1:b<i)(h2:i<=l.length)=>show ∃g off c,v=U (H ⟨g,off,J⟩) l.length c/\i<=c/\∀W,L w w W->(convert 22 9 (U (H ⟨g,off+b,J⟩) (i-b) (c-b))).run B W=.ok (ai ⟨((l.take i).drop b).toArray⟩) W from by
  obtain⟨a,cap,rfl,t,T,z⟩:=hv;rcases z with y|⟨g,off,rfl,_,P⟩
  .rw[y]at h2;simp at h2;omega
  refine⟨g,off,cap,rfl,by omega,λW K=>?_⟩;have q:((l.take i).drop b).length=i-b:=by simp;omega
  rw[<-q];refine fG (F:=λ_=>False) ⟨_,_,rfl,by rw[q];omega,by omega,aw ⟨g,off+b,rfl,id,λj x hj=>?_⟩⟩ K;rw[List.getElem?_drop]at hj;have m:(l.take i)[b+j]?=H x:=hj;rw[List.getElem?_take]at m;split at m
  .rw[Nat.add_assoc];exact P _ x m
  .cases m)
 obtain⟨a,cap,rfl,h1,-,t⟩:=hv;obtain⟨n,m⟩:∃n,l.length=n:=⟨_,rfl⟩;have HR:=A (λ(W:Z)(s:ByteArray)(z:Nat)(V:Bool)(h0:0<s.size)(hs:s.size<=l.length)(j3:z<=16777216)=>aOB W s z d V hd h0 (by omega) (G _ (by simpa using hs)));have i4:=A (show jL w r d l 0 0 O (U J 0 0) w from⟨hU _,[],[],by rw[<-h];unfold jT;simp,.nil _ _ _,.nil _ _,hU _,dk _ _,λk e=>by cases e⟩);rw[m]at h1 hl⊢;have HV:=A t;have X:=A m;rw[h];clear t G h m;go_enter func35,ntmps35;go_wp2;go_loopw [7,8,9,10] (λo f s v wr=>∃(i b:Nat)(V:Bool),f=I N b/\s=Y V/\v=I N i/\i<=n+1/\M (jL w r d l i b V o wr)) (λ_ _ _ v _=>n+1-(dh v).toNat)
 case atStart=>exact⟨0,0,O,rfl,rfl,rfl,dr _,i4⟩
 case round=>
  obtain⟨i,b,V,rfl,rfl,rfl,hi,HI⟩:=hrel;obtain⟨hf,R,i1,ht,T,hr,t,G,ho⟩:=HI.o;obtain⟨oa,oc,e0⟩:=T.A8;subst e0;have i0:(0:Int)<=(i:Int):=by omega
  have f0:(0:Int)<=(b:Int):=by omega
  by_cases K:i<=n;rotate_left
  .have e1:¬(i:Int)<=(n:Int):=(by omega);have h:=A (HI.o.D6 (by rw[X.o];omega));clear ht T hr t G ho hi K;go_wp2;go_ret;exact h.o
  have e1:(i:Int)<=(n:Int):=by omega
  by_cases hA:∃y:i<l.length,l[i]≠30
  .obtain⟨h,P⟩:=hA;have h6:=A (show jL w r d l (i+1) b V (U oa R.length oc) wr from⟨by omega,R,i1,by rw[ht,vM h P hf],T,hr,by omega,G,ho⟩);rcases HV.o with y|⟨g,off,rfl,_,m⟩
   .rw[y]at h;cases h
   have x0:=bE G (m i l[i] (bf h));have e2:(i:Int)<(n:Int):=(by rw[X.o]at h;omega);obtain⟨e3,e4,e5⟩:=aD (n:=30) P rfl;generalize l[i]=c at*;generalize R.length=rl at*;clear ht T hr t G ho m h P;go_wp2;go_roundw
   case rel=>exact⟨i+1,b,V,rfl,rfl,by go_num,by omega,h6⟩
   case measure=>simp[dh];omega
  have hB:∀y:i<l.length,l[i]=30:=λy=>ew.1 λe=>hA ⟨y,e⟩;clear hA
  have P:(∃g off,a=H ⟨g,off,J⟩/\i<n/\wr.cell? ⟨g,off+i,J⟩=H (I .u8 30))\/i=n:=by
   by_cases y:i<n
   .have h:i<l.length:=(by rw[X.o];exact y);rcases HV.o with h'|⟨g,off,rfl,_,m⟩
    .rw[h']at h;cases h
    .have:=bE G (m i l[i] (bf h));rw[hB h]at this;exact ak ⟨g,off,rfl,y,this⟩
   .exact aw (by omega)
  have i5:=A (And.intro ht (And.intro hr (And.intro t (And.intro G ho))));have HW:=A T;by_cases h7:b=i
  .have h6:=A (show jL w r d l (i+1) (i+1) E (U oa R.length oc) wr from⟨hU _,R,i1,by rw[ht,oO (by rw[X.o];exact K) hB hf,pz h7];rfl,T,hr,by omega,G,ho⟩);have e5:¬(b:Int)<(i:Int):=(by omega);generalize R.length=rl at*;clear ht T hr t G ho hB h7;rcases P with⟨g,off,rfl,m,x0⟩|m
   focus
    have e2:(i:Int)<(n:Int):=(by omega);have e3:((i:Int)==(n:Int))=O:=by simp;omega
   all_goals
    go_wp2;go_roundw
    case rel=>exact⟨i+1,i+1,E,by go_num,rfl,by go_num,by omega,h6⟩
    case measure=>simp[dh];omega
  have h:b<i:=by omega
  obtain⟨g2,i9,c2,i6,i7,h6⟩:=h9.o i b h (by rw[X.o];exact K);cases i6;obtain⟨S,hS⟩:∃S:ByteArray,(⟨((l.take i).drop b).toArray⟩:ByteArray)=S:=⟨_,rfl⟩;have h8:S.data.toList=(l.take i).drop b:=by rw[<-hS]
  have q:S.size=i-b:=by
   have:S.data.toList.length=S.size:=(by simp);rw[<-this,h8];have:=X.o;simp;omega
  have i2:=A (λW=>HR.o W S b V (by omega) (by rw[X.o];omega) (by omega));rw[hS]at h6;have j0:=h6 wr G;have HM:=A (λ(w4:Z)(o2:C)(c:List C)=>jL.N3 (o:=U oa R.length oc) (w2:=w4) (o2:=o2) (c:=c) ht hr t (by rw[X.o];exact K) hB h);rw[<-h8]at HM;have i3:=A (λk(e:(U oa R.length oc).ownBlock=H k)=>T.D5 e);have HO:=A (And.intro G ho);have e5:(b:Int)<(i:Int):=by omega
  have j4:R.length<=16777216:=by omega
  generalize R.length=rl at*;clear ht hr t G ho hB h7 hS h8 q T i5 h6 HR HI h9 HV;rcases P with⟨g,off,h9,m,x0⟩|m
  focus
   cases h9;have e2:(i:Int)<(n:Int):=(by omega);have e3:((i:Int)==(n:Int))=O:=by simp;omega
  rotate_left
  focus
   have e2:¬(i:Int)<(n:Int):=(by omega);have e3:((i:Int)==(n:Int))=E:=by simp;omega
  all_goals
   clear m i7 hi K hf h;go_wp2_with fail;refine(i2.o _).mono ?_;rintro e w2 ⟨G,K,T,tx,va,vn,vm,ka,kn,km,no,h,rfl,m,hX⟩;have HX:=A (show rM (λk=>wr.heap.size<=k) w2 (yF G K T tx (U va vn vm) (U ka kn km) no h) _ from⟨G,K,T,tx,va,vn,vm,ka,kn,km,no,h,rfl,hX⟩);have q:Keeps (λ_=>False) wr (w2.alloc (D #[G,K,I Q T,tx,U va vn vm,U ka kn km,no,h] 79)):=(Keeps.A2 _ m).A5 _;have i5:=A (HW.o.A0 q λ_ _=>id);have h6:=A m;have i7:=A q
   have t:=A (show ∀j u,(yF G K T tx (U va vn vm) (U ka kn km) no h)[j]?=H u->(w2.alloc (D #[G,K,I Q T,tx,U va vn vm,U ka kn km,no,h] 79)).cell? ((⟨w2.heap.size,0,J⟩:ag).add j)=H u from λj u hj=>by
    rw[vO w2.heap.size j,aA (aL w2 _)]
    simpa[yF]using hj)
   clear m hX q;unfold aMy;go_wp2_with (at_builtin;refine bC yD rfl _ _ rfl rfl i5.o w2 1 1 _ rfl rfl t.o (yE _ _ _ _ _ _ _ _ _ _ _ _) (by decide) (by omega) (by unfold maxLen;omega) ?_);intro g4 j1 j2 w4 q h7 m;have h8:Keeps (λk=>(U oa rl oc).ownBlock=H k) wr w4:=(i7.o.mono (λ_ y=>y.elim)).trans m (λk y=>ak y)
   have i8:=A (HM.o w4 _ _ h8 (λk e=>(i3.o k e).elim λc y=>⟨c,79,y,by decide,by decide⟩) q
    ((HX.o.A0 ((((ac (λ_=>False) w2).A5 _).mono (λ_ y=>y.elim)).trans m (λk y=>ak y)) (λk _ _ e=>(i3.o k e).elim λc y=>⟨c,79,keep y h6.o,by decide,by decide⟩)).mono λk e _=>bo HO.o.1.size e)
    (HO.o.1.trans (h8.A6 HO.o.1.size HO.o.2)) (λk e=>by
     cases e;rcases h7 with y|y
     .exact HO.o.2 _ y
     .have h1:=HO.o.1.size;have h2:=h6.o.size;show w.heap.size<=g4
      omega))
   clear q h7 m;go_wp2;go_roundw
   case rel=>exact⟨i+1,i+1,E,by go_num,rfl,by go_num,by omega,i8⟩
   case measure=>simp[dh];omega
end
def oP{x:Rd}{a:Oo}(g:x.c=a.reverse)(h:x.size=a.length)(i:a.length<=16777216)(f:x.h<=512):x.I5=aN9 a.reverse x.e x.h x.d:=by
 have d:¬16777216<a.length:=by omega
 unfold Rd.I5 aN9 aMF;rw[g,h,aEp f (by rw[ol];omega),ol,py d,py d];by_cases c:x.d=O
 .rw[pz c,pz c]
 rw[py c,py c];by_cases b:a.reverse.getLast?≠H 10
 .rw[pz b,pz b]
 rw[py b,py b];cases jR a.reverse x.h with
 | error e=>simp[aMK,Nat.add_comm]
 | ok t=>rfl
def nB(k:d<=512):∀(l a:Oo)(x:Rd),x.c=a.reverse->x.size=a.length->x.h=d->x.a=x.e+a.length->x.a+l.length<=16777216->
 ((x.C4 l).J6).b=x.b++eM d x.e x.d a l
 | [],a,x,f,b,g,m,i=>by
  show(x.whole).b=_;unfold eu eM;by_cases e:a= []
  .subst e;rw[pz (show x.size=0 from b),pz rfl,jz]
  .rw[py (by rw[b];simpa using e),py e];show x.b++ [x.I5]=_;rw[oP f b (by simp at i;omega) (by omega),g]
 | c::l,a,x,f,b,g,m,i=>by
  show(((x.J5 c).C4 l).J6).b=_;have i:x.a+(l.length+1)<=16777216:=i;unfold Rd.J5 eM;by_cases j:c=30
  .rw[pz j,pz j]
   have h:x.whole.a=x.a/\x.whole.h=x.h/\x.whole.b=x.b++if a= []then []else [aN9 a.reverse x.e d x.d]:=by
    unfold eu;by_cases e:a= []
    .subst e;rw[pz (show x.size=0 from b),pz rfl,jz];exact⟨rfl,rfl,rfl⟩
    .rw[py (by rw[b];simpa using e),py e];exact⟨rfl,rfl,by show x.b++ [x.I5]=_;rw[oP f b (by omega) (by omega),g]⟩
   have:=nB k l [] x.whole.G5 rfl rfl (h.2.1.trans g) rfl (by show x.whole.a+1+l.length<=_;rw[h.1];omega);rw[this];show x.whole.b++eM d (x.whole.a+1) E [] l=_;rw[h.2.2,h.1,m,kd]
  .rw[py j,py j];have n:x.c.length=a.length:=(by rw[f,ol]);have:=nB k l (c::a) (x.F6 [c]) (by show x.c++ [c].take (16777217-x.c.length)=_;rw[List.take_of_length_le (by simp;omega),f,List.reverse_cons]) (by show x.size+1=_;rw[b];rfl) g (by show x.a+1=x.e+(a.length+1);omega) (by show x.a+1+l.length<=_;omega);exact this
def yG(a:d<=512)(l:Oo)(b:l.length<=16777216):(((Rd.E9 d).C4 l).J6).b=eM d 0 O [] l:=
 nB a l [] (Rd.E9 d) rfl rfl rfl rfl (by show 0+l.length<=_;omega)
