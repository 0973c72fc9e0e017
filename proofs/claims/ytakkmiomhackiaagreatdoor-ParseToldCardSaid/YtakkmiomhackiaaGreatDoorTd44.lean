/-
  The program, one part of its walk. Conditions: none.
-/
import Derived.Test.YtakkmiomhackiaaGreatDoorTd20
import Derived.Test.YtakkmiomhackiaaGreatDoorTd43
set_option linter.all false
set_option maxRecDepth 100000
set_option maxHeartbeats 16000000
open Go.Proofs.Tryz
open Bool renaming false->H,true->E
open ByteArray renaming size_data->bg
open Go renaming Calls->ak,Value->F,World->af,heap_alloc_new->au,lt_of_block->av
open Go.Ending renaming returned->ar
open Go.IntKind renaming i64->O,wrap_i64->ba
open Go.Obj renaming cells->D
open Go.Proofs.Tryz renaming prog->ah
open Go.Proofs.YtakkmiomhackiaaGreatDoor.Keeps renaming A3->ai
open Go.Proofs.YtakkmiomhackiaaGreatDoor.Ra renaming bad->Z,on->q
open Go.Proofs.YtakkmiomhackiaaGreatDoor.Rr renaming E6->aw,L9->ao
open Go.RowKit renaming Below->Q
open Go.Value renaming bool->m,int->U,ownBlock->bc,slice->X,string->Y
open Nat renaming le_of_lt->ac,le_refl->ae,lt_of_lt_of_le->az
open Option renaming none->I,some->J
open Or renaming inl->aj,inr->ag
namespace Go.Proofs.YtakkmiomhackiaaGreatDoor
open Go.RowKit
theorem wK:∀(N:Nat){l says:List UInt8}{j:Nat}{x:List UInt8×Nat},l.length<=N->eK says j l=.ok x->x.1.length<=says.length+l.length/\j<=x.2/\x.2<=j+l.length
 | _,[],_,_,_,_,h=>by rw[eK]at h;cases h
 | 0,_::_,_,_,_,d,_=>by simp at d
 | N+1,c::t,says,j,x,d,h=>by
  by_cases e:c=34
  .rw[eK,if_pos e]at h;injection h with h
   subst h;simp
  .rw[pS e]at h;cases b:gN (c::t)with
   | cut=>rw[b]at h;cases h
   | bad no a=>rw[b]at h;cases h
   | ok y=>
    rw[b]at h;simp only at h;obtain⟨k,i,o⟩:=zV b;simp at d i;obtain⟨f,n,g⟩:=wK N (by simp;omega) h;simp at f g⊢;omega
theorem aGG{w a:af}{o:Obj}(h:Q (w.alloc o).drew.heap.size (w.alloc o).drew a):a.heap[w.heap.size]?=J o/\Q w.heap.size w a:=
 have h:=dN h
 ⟨keep (au w o) h,((Below.refl w.heap.size w).alloc (ae _) o).trans (h.mono (by simp))⟩
theorem aCn{args:Array F}{V:F}(h:∀W,ak ah 88 args W λe w'=>e=ar V/\Q W.heap.size W w')(w1:af):M ((ak ah 88 args w1.drew λe w'=>e=ar V/\Q w1.heap.size w1 w')/\
 (ak ah 88 args (w1.alloc (D #[Y ⟨#[]⟩,U O 0,U O 0,U O 0,m H] 200)).drew λe w'=>e=ar V/\w'.heap[w1.heap.size]?=J (D #[Y ⟨#[]⟩,U O 0,U O 0,U O 0,m H] 200 (0,0))/\Q w1.heap.size w1 w')):=
 L ⟨(h _).mono λe w' ⟨b,a⟩=>⟨b,mG a⟩,(h _).mono λe w' ⟨b,a⟩=>⟨b,aGG a⟩⟩
theorem rM:∀(N:Nat){l says:List UInt8}{j no a:Nat},l.length<=N->eK says j l=.bad no a->no≠0
 | _,[],_,_,_,_,_,h=>by rw[eK]at h;cases h
 | 0,_::_,_,_,_,_,d,_=>by simp at d
 | N+1,c::t,says,j,no,a,d,h=>by
  by_cases e:c=34
  .rw[eK,if_pos e]at h;cases h
  .rw[pS e]at h;cases b:gN (c::t)with
   | cut=>rw[b]at h;cases h
   | bad f a2=>
    rw[b]at h;injection h with g h2
    rw[<-g];exact zU b
   | ok y=>
    rw[b]at h;simp at d;exact rM N (by simp;omega) h
def aIL:Pc (List UInt8×Nat)->Prop
 | .bad no _=>no≠0
 | _=>True
def jH(r:Rr)(p:Pc (List UInt8×Nat)):Ra:=match p with
 | .cut=>.cut
 | .bad no a=>Z no a
 | .ok (s,n)=>
  if r.E6=E/\s∈r.D8 then Z 101 0
  else if 2097152<r.bytes+s.length then Z 3 0
  else if r.E6 then q n (ao {r with bytes:=r.bytes+s.length} s)else q n (Rr.C7 {r with bytes:=r.bytes+s.length} (.text s))
theorem rN{r:Rr}{s:List UInt8}{n:Nat}(b:¬(r.E6=E/\s∈r.D8))(a:2097152<r.bytes+s.length):jH r (.ok (s,n))=Z 3 0:=by
 show(if r.E6=E/\s∈r.D8 then Z 101 0 else if 2097152<r.bytes+s.length then Z 3 0 else _)=_
 rw[if_neg b,if_pos a]
theorem yE{r:Rr}{s:List UInt8}{n:Nat}(b:r.E6=E)(a:s∈r.D8):jH r (.ok (s,n))=Z 101 0:=by
 show(if r.E6=E/\s∈r.D8 then Z 101 0 else _)=_
 rw[if_pos ⟨b,a⟩]
theorem aCo{r:Rr}{s:List UInt8}{n:Nat}(a:r.E6=H)(b:¬2097152<r.bytes+s.length):jH r (.ok (s,n))=q n (Rr.C7 {r with bytes:=r.bytes+s.length} (.text s)):=by
 show(if r.E6=E/\s∈r.D8 then Z 101 0 else if 2097152<r.bytes+s.length then Z 3 0 else if r.E6 then q n _ else q n _)=_
 rw[if_neg (by rw[a];simp),if_neg b,a,if_neg (by simp)]
theorem aCp{r:Rr}{s:List UInt8}{n:Nat}(b:r.E6=E)(c:s∉r.D8)(a:¬2097152<r.bytes+s.length):jH r (.ok (s,n))=q n (ao {r with bytes:=r.bytes+s.length} s):=by
 show(if r.E6=E/\s∈r.D8 then Z 101 0 else if 2097152<r.bytes+s.length then Z 3 0 else if r.E6 then q n _ else q n _)=_
 rw[if_neg (λh=>c h.2),if_neg a,if_pos b]
theorem aU.S8{w:af}{c d i b:Nat}{s:ByteArray}{r:Rr}(h:aU w c s d i r b)(f:Nat)(z:Int)(p:z=f):aU (w.setCell ⟨c,6,I⟩ (U O z)) c s d i {r with bytes:=f} b:=by
 subst p;obtain⟨P,e,l,u,t,y,a1,x,v,a2,n,j,g,a⟩:=h;have a:=a.L8 g ((ai (λk=>k=c) w).E9 6 (U O f));exact⟨P,e,l,u,t,y,a1,x,v,a2,n,j,aB (o:=6) g _,a.le,a.win,a.pF,a.pile,a.done⟩
theorem tO(i:Nat)(R:Pc (List UInt8×Nat)):∃(S:ByteArray)(T b A:Int)(C:Bool),aKu i R=.tuple #[Y S,U O T,.agg #[Y ⟨#[]⟩,U O 0,U O b,U O A,m C]]/\match R with
 | .cut=>C=E
 | .bad no a=>C=H/\b=(no:Int)/\A=((i+a:Nat):Int)
 | .ok x=>C=H/\b=0/\S=⟨x.1.toArray⟩/\T=((i+x.2:Nat):Int):=by
 cases R with
 | cut=>exact⟨_,_,_,_,_,rfl,rfl⟩
 | bad no a=>exact⟨_,_,_,_,_,rfl,rfl,rfl,rfl⟩
 | ok x=>exact⟨_,_,_,_,_,rfl,rfl,rfl,rfl,rfl⟩
theorem aGH(w:af)(f:Nat)(s:ByteArray)(d i h:Nat)(r:Rr)(V:aU w f s d i r h)(p:Bnd r d)(l:r.E6=H)(hi:i<s.size)(hs:s.size<=16777216):
 ak ah 106 #[.pointer (J ⟨f,0,I⟩)] w λe w'=>o6 w f s d i (r.F7 d (s.data.toList.drop (i+1))) e w':=by
 have K:=L (qZ w f s d i h r V (by omega) p.depth p.pile p.nodes);have o:f<w.heap.size:=by obtain⟨P,pcs,so,fl,bi,tx,a1,n1,m1,a2,n2,m2,hb,-⟩:=V;exact av hb
 have hc3:w.cell? ⟨f,3,I⟩=J (U O r.want):=by obtain⟨P,pcs,so,fl,bi,tx,a1,n1,m1,a2,n2,m2,hb,-⟩:=V;exact aA hb
 have c:r.F7 d (s.data.toList.drop (i+1))=match r.D5 d with
  | .error no=>Z no 0
  | .ok r=>r.J0 (s.data.toList.drop (i+1)):=by
  unfold Rr.F7 Rr.I5;rw[l];cases r.D5 d<;>rfl
 rw[c];have z:=L o;have G:=L (λW=>zW W s i hi (by omega));have HOK:=L (λx(hx:eK [] 1 (s.data.toList.drop (i+1))=.ok x)=>wK _ (ae _) hx);have k2:((r.want:Int)==2)=H:=by unfold aw at l;simp at l⊢;omega
 have k3:((r.want:Int)==3)=H:=by unfold aw at l;simp at l⊢;omega
 clear c;cases g:r.D5 d with
 | error no=>
  rw[g]at K;clear V g o l p;go_enter func106,ntmps106;go_wp2_with fail;refine K.o.mono ?_;rintro e w1 ⟨l,rfl,c⟩;have t:=L (And.intro l c);clear l c;go_wp2_with fail;go_ret;exact⟨t.o.1.B3 (ac z.o) λk e=>by omega,rfl,t.o.2⟩
 | ok v=>
  have N:=aAM p g
  have T:v.E6=H:=by
   unfold Rr.D5 at g;split at g
   .cases g
   .split at g
    .cases g
    .split at g
     .cases g
     .injection g with g;subst g;exact l
  rw[g]at K;simp only;rw[show v.J0 (s.data.toList.drop (i+1))=jH v (eK [] 1 (s.data.toList.drop (i+1)))from rfl];obtain⟨R,u⟩:∃R,eK [] 1 (s.data.toList.drop (i+1))=R:=⟨_,rfl⟩;rw[u]at G HOK⊢;have j:=L (And.intro N T);clear V g o p N T l;go_enter func106,ntmps106;go_wp2_with fail;refine K.o.mono ?_;rintro e w1 ⟨l,rfl,g⟩;have HK:=L (l.B3 (ac z.o) λk e=>by omega);have HAT:=L g;obtain⟨c0,c2,-⟩:=g.F6;clear l g K;have K:=L (az z.o HK.o.size);go_wp2_with fail
  have HNO:=L (show aIL R from by
   cases g:R with
   | cut=>trivial
   | bad no a=>exact rM _ (ae _) (u.trans g)
   | ok x=>trivial)
  clear u;obtain⟨S,a0,No,A,C,g,u⟩:=tO i R;rw[g]at G;have HR:=L u;clear g u;have N:=aCn (G.o) w1
  have hne2:¬w1.heap.size=f:=by have:=K.o;omega
  go_region_held3 (λw'=>w'.cell? ⟨f,0,I⟩=J (Y s)/\w'.cell? ⟨f,2,I⟩=J (U O i)) (first|with_reducible exact T|go_keep) (first
   | (go_at_call 88;(with_reducible refine N.o.1.mono ?_);rintro e w4 ⟨rfl,g⟩;have T:=And.intro (bB g c0) (bB g c2))
   | (go_at_call 88;(with_reducible refine N.o.2.mono ?_);rintro e w4 ⟨rfl,V,g⟩;have T:=And.intro (bB g c0) (bB g c2);obtain⟨g0,g1,g2,g3,g4,gf⟩:=cells5 V))
  all_goals
   first
    | (have l := au w4 (D #[Y ⟨#[]⟩, U O 0, U O No, U O A, m C] 200)
       have o:=g.alloc g.size (D #[Y ⟨#[]⟩,U O 0,U O No,U O A,m C] 200);have u:=g.size;obtain⟨W,hW⟩:∃W,w4.alloc (D #[Y ⟨#[]⟩,U O 0,U O No,U O A,m C] 200)=W:=⟨_,rfl⟩;rw[hW]at l o⊢;obtain⟨B,p⟩:∃B,w4.heap.size=B:=⟨_,rfl⟩;rw[p]at l u⊢)
    | (obtain ⟨l, o⟩ := bE (Y ⟨#[]⟩) (U O 0) (U O No) (U O A) (m C) V g (ae _)
       have u:=ae w1.heap.size;obtain⟨W,hW⟩:∃W,((((w4.setCell ⟨w1.heap.size,0,I⟩ (Y ⟨#[]⟩)).setCell ⟨w1.heap.size,1,I⟩ (U O 0)).setCell ⟨w1.heap.size,2,I⟩ (U O No)).setCell ⟨w1.heap.size,3,I⟩ (U O A)).setCell ⟨w1.heap.size,4,I⟩ (m C)=W:=⟨_,rfl⟩;rw[hW]at l o⊢;obtain⟨B,p⟩:∃B,w1.heap.size=B:=⟨_,rfl⟩;have g:=u;rw[p]at l⊢;rw[p]at g;replace u:w1.heap.size<=B:=by rw[p];exact ae _
       clear g0 g1 g2 g3 g4 gf g V)
   obtain⟨-,-,x2,x3,x4,-⟩:=cells5 l;have g:=L (show Q f w W/\aU W f s d i v h/\f<W.heap.size from⟨HK.o.trans (o.mono (ac K.o)),HAT.o.C9 (Keeps.A1 _ o),az K.o o.size⟩)
   clear l o u c0 c2 T hne2 N;cases R with
   | cut=>
    obtain rfl:=HR.o;go_wp2_with fail;go_ret;exact⟨g.o.1,rfl,v,h,g.o.2.1⟩
   | bad no a=>
    obtain⟨rfl,rfl,rfl⟩:=HR.o;have c:no≠0:=HNO.o;have l:(((no:Nat):Int)!=0)=E:=by simp;omega
    clear c;go_wp2_with fail;refine(eI W f s d i h v g.o.2.1 (by omega) no ((i+a:Nat):Int) ((i+a:Nat):Int)).mono ?_;rintro e w5 ⟨rfl,o,c⟩;have t:=L (And.intro o c);clear o c;go_wp2_with fail;go_ret;exact⟨g.o.1.trans (t.o.1.B3 (ac g.o.2.2) λk e=>by omega),rfl,t.o.2⟩
   | ok x=>
    obtain⟨V,n⟩:=x;obtain⟨rfl,rfl,T,hT⟩:=HR.o;obtain⟨o1,o2,o3⟩:=HOK.o _ rfl;simp only[List.length_drop,Array.length_toList,bg,List.length_nil,Nat.zero_add]at o1 o2 o3 hT;obtain⟨y,hy⟩:∃y,i+n=y:=⟨_,rfl⟩;obtain⟨l,u⟩:∃l,v.bytes+V.length=l:=⟨_,rfl⟩;have hby:=j.o.1.bytes;have hSl:S.size=V.length:=by rw[T];show V.toArray.size=V.length;simp
    rw[hy]at hT;subst hT;have hwb:O.wrap ((v.bytes:Int)+(S.size:Int))=(l:Int):=by rw[ba];omega
    have hy1:O.wrap ((y:Int)-1)=(y:Int)-1:=by rw[ba];omega
    have HRW:=g.o.2.1;obtain⟨P,pcs,so,fl,bi,tx,a1,n1,m1,a2,n2,m2,hb,hin⟩:=HRW;obtain⟨pa,pc,rfl⟩:=hin.win.A8;obtain⟨⟨-,-,q2,-,q4,-,q6,-⟩,_,qf⟩:=cZ hb;have HBW:=L (λ(a b:Int)=>g.o.1.trans ((((ai (λk=>k=f) W).E9 6 (U O a)).E9 2 (U O b)).B3 (ac g.o.2.2) λk e=>by omega));have HBW6:=L (λ(a:Int)=>g.o.1.trans (((ai (λk=>k=f) W).E9 6 (U O a)).B3 (ac g.o.2.2) λk e=>by omega));have N:=L (And.intro T (And.intro hy u));clear hb hin T hy hby hSl o1 u
    by_cases T:2097152<l
    .have e8:(2097152:Int)<(l:Int):=by omega
     go_wp2_with fail;refine(eI (W.setCell ⟨f,6,I⟩ (U O l)) f s d i h _ (g.o.2.1.S8 l _ rfl) (by omega) 3 i ((y:Int)-1)).mono ?_;rintro e w5 ⟨rfl,o,c⟩;have t:=L (And.intro o c);clear o c;go_wp2_with fail;go_ret;rw[rN (by rw[j.o.2];simp) (by have:=N.o.2.2;omega)];exact⟨(HBW6.o l).trans (t.o.1.B3 (by simp[World.setCell];exact ac g.o.2.2) λk e=>by omega),rfl,by simpa using t.o.2⟩
    .have e8:¬(2097152:Int)<(l:Int):=by omega
     have HP:=L (nT ((W.setCell ⟨f,6,I⟩ (U O l)).setCell ⟨f,2,I⟩ (U O y)) f s d y h _ ((g.o.2.1.S8 l _ rfl).B4 y _ rfl) ⟨j.o.1.depth,j.o.1.pile,j.o.1.nodes,by show l<=2097152;omega,j.o.1.items⟩ 4 H 0 S I 0 0 I 0 0 (.text V) (by rw[N.o.1];exact .text V));go_wp2_with fail;refine HP.o.mono ?_;rintro e w6 ⟨rfl,o,c⟩;have t:=L (And.intro o c);clear o c;go_wp2_with fail;go_ret;obtain⟨_,hy,u⟩:=N.o;rw[aCo j.o.2 (by omega),u];exact⟨(HBW.o l y).trans t.o.1,rfl,by rw[hy];exact t.o.2⟩
theorem aJ4{w W:af}{n d i y G N v x p b c g off cap nb:Nat}{s:ByteArray}{r:Rr}{h:List RFr}{f:RFr}{so:Int}{fl o:Bool}{bi:Nat}{tx:ByteArray}{a1 a2:Option Addr}{n1 m1 n2 m2:Nat}{K a0:F}{pc P:List (List F)}{dc:List F}{C:List UInt8}
 (hb:w.heap[n]?=J (D (rdC s d i r.want (X (J ⟨p,b,I⟩) (x+1) c) r.nodes r.bytes so fl bi tx (X a1 n1 m1) (X a2 n2 m2) 0 0 0) 172 (0,0)))(t:nO w n (X (J ⟨p,b,I⟩) (x+1) c) (pc++ [frC o K v a0]) dc r G)
 (hx:h.length=x)(z:eM w n pc h N)(a:jN N G w o K v a0 P f)
 (R:Keeps (λk=>K.ownBlock=J k\/k=p\/k=v\/k=n) w W)(hrb:W.heap[n]?=J (D (rdC s d y 4 (X (J ⟨p,b,I⟩) (x+1) c) r.nodes nb so fl bi tx (X a1 n1 m1) (X a2 n2 m2) 0 0 0) 172 (0,0)))
 (S:Win 9 encS W (X (J ⟨g,off,I⟩) (f.keys.length+1) cap) (f.keys++ [C]))(hg:K.ownBlock=J g\/w.heap.size<=g)(T:dT W v (C::f.keys.reverse))
 (hw4:aR 4 265 W (X (J ⟨p,b,I⟩) (x+1) c) (x+1) (pc++ [frC o (X (J ⟨g,off,I⟩) (f.keys.length+1) cap) v a0]).flatten):
 Q n w W/\aU W n s d y {r with bytes:=nb,pile:=h++ [{f with keys:=f.keys++ [C]}],want:=4} W.heap.size:=by
 have hlt:=av hb;have j:eZ w p:=by obtain⟨cc,hc⟩:=t.win.E4 (k:=p) rfl;exact .of hc (by decide) (by decide)
 have A:eZ w n:=.of hb (by decide) (by decide);have hprb:n<=p:=t.pF p rfl;have hple:=z.le;have hle:=t.le;have hmF:=a.mF;have hsz:=R.size;have V:g<W.heap.size:=S.lt rfl;refine⟨R.B3 (ac hlt) ?_,_,pc++ [frC o (X (J ⟨g,off,I⟩) (f.keys.length+1) cap) v a0],so,fl,bi,tx,a1,n1,m1,a2,n2,m2,hrb,?_⟩
 .rintro k (e|e|e|e)
  .have:=a.kF k e;omega
  .omega
  .omega
  .omega
 .refine⟨ae _,?_,t.pF,?_,λe=>by simp at e⟩
  .have l:(h++ [{f with keys:=f.keys++ [C]}]).length=x+1:=by simp[hx]
   show aR 4 265 _ _ (h++ [{f with keys:=f.keys++ [C]}]).length _
   rw[l];exact hw4
  .refine .snoc (z.A0 R ?_) o _ v _ P _ ⟨a.obj,S,?_,?_,⟨hmF.1,by omega⟩,?_,λk e=>⟨(a.iF k e).1,by have:=(a.iF k e).2;omega⟩,?_⟩
   .rintro k-l (e|e|e|e)
    .have:=a.kF k e;omega
    .exact e▸j
    .omega
    .exact e▸A
   .intro k e;obtain rfl:g=k:=by simpa[bc]using e
    refine⟨?_,V⟩;rcases hg with e|e
    .exact(a.kF _ e).1
    .omega
   .show dT W v (f.keys++ [C]).reverse
    rw[List.reverse_append];exact T
   .refine a.items.A0 R ?_;rintro k e (B|B|B|B)
    .obtain⟨cc,hc⟩:=a.keys.E4 B;obtain⟨c2,l⟩:=a.items.E4 e;rw[hc]at l;cases l
    .obtain⟨c2,a3,l,h9,_⟩:=j;obtain⟨c3,u⟩:=a.items.E4 e;rw[<-B,u]at l;cases l;exact h9 rfl
    .rw[B]at e;exact a.met.E9 a.items e
    .obtain⟨c3,u⟩:=a.items.E4 e;rw[B,hb]at u;cases u
   .refine(a.vals.A0 R ?_).A6 ?_
    .rintro k l _ (e|e|e|e)
     .exact absurd e l.2.2.2.1
     .exact e▸j
     .exact absurd e l.2.2.2.2
     .exact e▸A
    .intro k l _;refine⟨l.1,by omega,l.2.2.1,λe=>?_,l.2.2.2.2⟩;obtain rfl:g=k:=by simpa[bc]using e
     rcases hg with e|e
     .exact l.2.2.2.1 e
     .omega
theorem aIM{W R w':af}{c d i y T V l b h a j g off cap nb n:Nat}{s S:ByteArray}{r:Rr}{A:List RFr}{f:RFr}{so:Int}{fl o:Bool}{bi:Nat}{tx:ByteArray}{a1 a2 t:Option Addr}{n1 m1 n2 m2:Nat}{a0:F}{pc css:List (List F)}{dc:List F}{sx:List UInt8}(hS:S=⟨sx.toArray⟩)
 (hb:W.heap[c]?=J (D (rdC s d i r.want (X (J ⟨h,a,I⟩) (b+1) j) r.nodes r.bytes so fl bi tx (X a1 n1 m1) (X a2 n2 m2) 0 0 0) 172 (0,0)))(hin:nO W c (X (J ⟨h,a,I⟩) (b+1) j) (pc++ [frC o (X t f.keys.length n) l a0]) dc r T)
 (hx:A.length=b)(hlow:eM W c pc A V)(hf:jN V T W o (X t f.keys.length n) l a0 css f)(hwin:aR 4 265 W (X (J ⟨h,a,I⟩) (b+1) j) (b+1) (pc++ [frC o (X t f.keys.length n) l a0]).flatten)(hfl:pc.flatten.length=b*4)
 (hb3:R.heap[c]?=J (D (rdC s d y r.want (X (J ⟨h,a,I⟩) (b+1) j) r.nodes nb so fl bi tx (X a1 n1 m1) (X a2 n2 m2) 0 0 0) 172 (0,0)))(hk3:Keeps (λk=>k=l\/k=c) W R)(B:dT R l (sx::f.keys.reverse))(hne:c≠h)(hmr:l≠c)(hmp:l≠h)
 (hbK:(X t f.keys.length n).ownBlock≠J c)(hpK:(X t f.keys.length n).ownBlock≠J h)(hmK:(X t f.keys.length n).ownBlock≠J l)(C:aR 4 265 R (X (J ⟨h,a,I⟩) (b+1) j) (b+1) (pc++ [frC o (X t f.keys.length n) l a0]).flatten)
 (h1:aR 1 9 w' (X (J ⟨g,off,I⟩) (f.keys.length+1) cap) (f.keys.length+1) (f.keys.map encS++ [Y S]))(h2:(X t f.keys.length n).ownBlock=J g\/R.heap.size<=g)(h3:Keeps (λk=>(X t f.keys.length n).ownBlock=J k) R w'):
 Q c W ((w'.setCell ⟨h,a+b*4+1,I⟩ (X (J ⟨g,off,I⟩) (f.keys.length+1) cap)).setCell ⟨c,3,I⟩ (U O 4))/\
 aU ((w'.setCell ⟨h,a+b*4+1,I⟩ (X (J ⟨g,off,I⟩) (f.keys.length+1) cap)).setCell ⟨c,3,I⟩ (U O 4)) c s d y {r with bytes:=nb,pile:=A++ [{f with keys:=f.keys++ [sx]}],want:=4} ((w'.setCell ⟨h,a+b*4+1,I⟩ (X (J ⟨g,off,I⟩) (f.keys.length+1) cap)).setCell ⟨c,3,I⟩ (U O 4)).heap.size:=by
 have hkf:Keeps (λk=>(X t f.keys.length n).ownBlock=J k\/k=h\/k=l\/k=c) W ((w'.setCell ⟨h,a+b*4+1,I⟩ (X (J ⟨g,off,I⟩) (f.keys.length+1) cap)).setCell ⟨c,3,I⟩ (U O 4)):=
  ((((hk3.A6 (G:=λk=>(X t f.keys.length n).ownBlock=J k\/k=h\/k=l\/k=c) λk e=>ag (ag e)).B9 h3 λk e=>aj (aj e)).A2 (p:=⟨h,a+b*4+1,I⟩) (aj (ag (aj rfl))) _).A2 (p:=⟨c,3,I⟩) (aj (ag (ag (ag rfl)))) _)
 have u:=C.A0 h3 (λk e K=>by cases e;exact hpK K);have N:=(ai (λk=>k=h) w').E9 (a+b*4+1) (X (J ⟨g,off,I⟩) (f.keys.length+1) cap);have v:=N.C4 (h3.C4 hb3 hbK) hne;have w:=(ai (λk=>k=c) (w'.setCell ⟨h,a+b*4+1,I⟩ (X (J ⟨g,off,I⟩) (f.keys.length+1) cap))).E9 3 (U O 4);have x:Win 9 encS w' (X (J ⟨g,off,I⟩) (f.keys.length+1) cap) (f.keys++ [sx]):=aR.I4 (by rw[List.map_append,List.map_singleton,show encS sx=Y S by rw[hS];rfl];exact h1)
 have z:=x.A0 N (λk e K=>by
  obtain⟨cc,P⟩:=x.E4 e;exact u.ne P (by decide) (by rw[K];rfl))
 have hkw4:=z.A0 w (λk e K=>by
  obtain⟨cc,P⟩:=z.E4 e;rw[K,v]at P;cases P)
 have P:=u.D6 (b*4+1) (X (J ⟨g,off,I⟩) (f.keys.length+1) cap);rw[dS,List.set_append_right _ _ (by omega),hfl,show b*4+1-b*4=1 by omega,<-Nat.add_assoc]at P
 have hw5:=P.A0 w (λk e K=>by
  subst K;exact P.ne v (by decide) e)
 have hmf:=((B.A0 h3 hmK).A0 N hmp).A0 w hmr;exact aJ4 hb hin hx hlow hf hkf (aB (o:=3) v _) hkw4 (h2.imp id λe=>Nat.le_trans hk3.size e) hmf (by rw[dS];exact hw5)
theorem aKG:kQ 32 9 1 16:=⟨underlying32,by decide,by
 have h:(ah.info? 9).map (λi=>(i.zero,i.size,i.bytes))=J (J (Y ⟨#[]⟩),1,16):=by kernel_rfl
 obtain⟨i,c,a,d,b⟩:=info_parts h;exact⟨i,_,c,a,d,b,rfl⟩⟩
theorem aIN{r:Rr}{a:List RFr}{f:RFr}{c:Nat}{b:List UInt8}(h:r.pile=a++ [f]):ao {r with bytes:=c} b={r with bytes:=c,pile:=a++ [{f with keys:=f.keys++ [b]}],want:=4}:=by
 unfold ao;simp[h]
theorem aGI(w:af)(c:Nat)(s:ByteArray)(d i top:Nat)(r:Rr)(ini:List RFr)(f:RFr)(a0:aU w c s d i r top)(hB:Bnd r d)(h:r.E6=E)(t:r.pile=ini++ [f])(hkl:f.keys.length<=65537)(hi:i<s.size)(hs:s.size<=16777216):
 ak ah 106 #[.pointer (J ⟨c,0,I⟩)] w λe w'=>o6 w c s d i (r.F7 d (s.data.toList.drop (i+1))) e w':=by
 have hrb:c<w.heap.size:=by obtain⟨P,pcs,so,fl,bi,tx,a1,n1,m1,a2,n2,m2,hb,-⟩:=a0;exact av hb
 have hc3:w.cell? ⟨c,3,I⟩=J (U O r.want):=by obtain⟨P,pcs,so,fl,bi,tx,a1,n1,m1,a2,n2,m2,hb,-⟩:=a0;exact aA hb
 have l:r.F7 d (s.data.toList.drop (i+1))=jH r (eK [] 1 (s.data.toList.drop (i+1))):=by
  unfold Rr.F7;rw[h];rfl
 rw[l];have HTX:=L (λW=>zW W s i hi (by omega));have HOK:=L (λx(hx:eK [] 1 (s.data.toList.drop (i+1))=.ok x)=>wK _ (ae _) hx);have hkey:((r.want:Int)==2)=E\/(((r.want:Int)==2)=H/\((r.want:Int)==3)=E):=by unfold aw at h;simp at h⊢;omega
 obtain⟨V,c2,-⟩:=a0.F6;have HK:=L (Below.refl c w);have HAT:=L a0;have HSZ:=L hrb;have HB2:=L (And.intro hB h);have HPL:=L t;obtain⟨w1,hw1⟩:∃w1,w=w1:=⟨_,rfl⟩;obtain⟨r2,hr2⟩:∃r2,r=r2:=⟨_,rfl⟩;obtain⟨R,b⟩:∃R,eK [] 1 (s.data.toList.drop (i+1))=R:=⟨_,rfl⟩;rw[b]at HTX HOK⊢
 have HNO:=L (show aIL R from by
  cases v:R with
  | cut=>trivial
  | bad no a=>exact rM _ (ae _) (b.trans v)
  | ok x=>trivial)
 clear b;obtain⟨S,a5,No,A,C,v,b⟩:=tO i R;rw[v]at HTX;have HR:=L b;clear v b;subst hw1;subst hr2;clear a0 hrb l hB h t;have HX:=aCn (HTX.o) w
 have z:¬w.heap.size=c:=by have:=HSZ.o;omega
 rcases hkey with k2|⟨k2,k3⟩
 all_goals
  go_enter func106,ntmps106;go_wp2_with fail
  go_region_held3 (λw'=>w'.cell? ⟨c,0,I⟩=J (Y s)/\w'.cell? ⟨c,2,I⟩=J (U O i)) (first|with_reducible exact hS|go_keep) (first
   | (go_at_call 88;(with_reducible refine HX.o.1.mono ?_);rintro e T ⟨rfl,b⟩;have hS:=And.intro (bB b V) (bB b c2))
   | (go_at_call 88;(with_reducible refine HX.o.2.mono ?_);rintro e T ⟨rfl,v,b⟩;have hS:=And.intro (bB b V) (bB b c2);obtain⟨g0,g1,g2,g3,g4,gf⟩:=cells5 v))
  all_goals
   first
    | (have h := au T (D #[Y ⟨#[]⟩, U O 0, U O No, U O A, m C] 200)
       have l:=b.alloc b.size (D #[Y ⟨#[]⟩,U O 0,U O No,U O A,m C] 200);have t:=b.size;obtain⟨W,hW⟩:∃W,T.alloc (D #[Y ⟨#[]⟩,U O 0,U O No,U O A,m C] 200)=W:=⟨_,rfl⟩;rw[hW]at h l⊢;obtain⟨B,hB⟩:∃B,T.heap.size=B:=⟨_,rfl⟩;rw[hB]at h t⊢)
    | (obtain ⟨h, l⟩ := bE (Y ⟨#[]⟩) (U O 0) (U O No) (U O A) (m C) v b (ae _)
       have t:=ae w.heap.size;obtain⟨W,hW⟩:∃W,((((T.setCell ⟨w.heap.size,0,I⟩ (Y ⟨#[]⟩)).setCell ⟨w.heap.size,1,I⟩ (U O 0)).setCell ⟨w.heap.size,2,I⟩ (U O No)).setCell ⟨w.heap.size,3,I⟩ (U O A)).setCell ⟨w.heap.size,4,I⟩ (m C)=W:=⟨_,rfl⟩;rw[hW]at h l⊢;obtain⟨B,hB⟩:∃B,w.heap.size=B:=⟨_,rfl⟩;have b:=t;rw[hB]at h⊢;rw[hB]at b;replace t:w.heap.size<=B:=by rw[hB];exact ae _
       clear g0 g1 g2 g3 g4 gf b v)
   obtain⟨-,-,x2,x3,x4,-⟩:=cells5 h;have HW:=L (show Q c w W/\aU W c s d i r top/\c<W.heap.size from⟨HK.o.trans (l.mono (ac HSZ.o)),HAT.o.C9 (Keeps.A1 _ l),az HSZ.o l.size⟩)
   clear h l t V c2 hS z HX;cases R with
   | cut=>
    obtain rfl:=HR.o;go_wp2_with fail;go_ret;exact⟨HW.o.1,rfl,r,top,HW.o.2.1⟩
   | bad no a=>
    obtain⟨rfl,rfl,rfl⟩:=HR.o;have v:no≠0:=HNO.o;have b:(((no:Nat):Int)!=0)=E:=by simp;omega
    clear v;go_wp2_with fail;refine(eI W c s d i top r HW.o.2.1 (by omega) no ((i+a:Nat):Int) ((i+a:Nat):Int)).mono ?_;rintro e w5 ⟨rfl,T,v⟩;have HF:=L (And.intro T v);clear T v;go_wp2_with fail;go_ret;exact⟨HW.o.1.trans (HF.o.1.B3 (ac HW.o.2.2) λk e=>by omega),rfl,HF.o.2⟩
   | ok x=>
    obtain⟨sx,n⟩:=x;obtain⟨rfl,rfl,hS,hT⟩:=HR.o;obtain⟨o1,o2,o3⟩:=HOK.o _ rfl;simp only[List.length_drop,Array.length_toList,bg,List.length_nil,Nat.zero_add]at o1 o2 o3 hT;obtain⟨y,hy⟩:∃y,i+n=y:=⟨_,rfl⟩;obtain⟨nb,hnb⟩:∃nb,r.bytes+sx.length=nb:=⟨_,rfl⟩;have hby:=HB2.o.1.bytes;have hSl:S.size=sx.length:=by rw[hS];show sx.toArray.size=sx.length;simp
    rw[hy]at hT;subst hT;have hwb:O.wrap ((r.bytes:Int)+(S.size:Int))=(nb:Int):=by rw[ba];omega
    have hy1:O.wrap ((y:Int)-1)=(y:Int)-1:=by rw[ba];omega
    have HRW:=HW.o.2.1;obtain⟨P,pcs,so,fl,bi,tx,a1,n1,m1,a2,n2,m2,hb,V⟩:=HRW;obtain⟨pc,mid,o,K,mm,a3,css,rfl,h,hf⟩:=V.pile.L4 HPL.o;obtain⟨N,hN⟩:∃N,r.pile.length=N:=⟨_,rfl⟩;have t:N=ini.length+1:=by rw[<-hN,HPL.o];simp
    obtain⟨px,hx⟩:∃x,ini.length=x:=⟨_,rfl⟩;have hpl:=HB2.o.1.pile;rw[hN]at hpl;rw[hx]at t;have b:=V.win;rw[hN,t]at b;obtain⟨pg,l,pcap,rfl⟩:=b.P9;obtain⟨ka,kc,rfl⟩:=hf.keys.A8;rw[<-t]at b hb;obtain⟨pl1,pl2⟩:=h.O8;have hfl:pc.flatten.length=px*4:=by rw[nN pl2,pl1,hx]
    have z:∀(j:Nat)(u:F),(frC o (X ka f.keys.length kc) mm a3)[j]?=J u->W.cell? ⟨pg,l+px*4+j,I⟩=J u:=by
     intro j u hj;have:=b.B5 (j:=px*4+j) (u:=u) (by rw[dS,List.getElem?_append_right (by omega),hfl,show px*4+j-px*4=j by omega];exact hj);rw[Nat.add_assoc];exact this
    have y1:=z 1 _ rfl;have y2:=z 2 _ rfl
    have hne:c≠pg:=by
     intro e;have:=b.ne hb (by decide);simp[bc]at this;exact this e.symm
    have hmr:mm≠c:=hf.met.ne hb;have hrm:c<=mm:=Nat.le_trans h.le hf.mF.1;have HN2:=L t;have HXI:=L hx
    have hmp:mm≠pg:=by
     obtain⟨cc,hc⟩:=b.J6;exact hf.met.ne hc
    obtain⟨⟨-,-,q2,-,q4,-,-,-⟩,_,-⟩:=cZ hb;have e1:O.wrap ((N:Int)-1)=(px:Int):=by rw[ba];omega
    have e2:(px:Int)<(N:Int):=by omega
    have e0:(0:Int)<=(px:Int):=by omega
    clear hN t hx;have hsm:sx.length<=maxLen:=by unfold maxLen;omega
    have hlk:=hf.met.T6 hsm;have t:r.D8=f.keys:=by unfold Rr.D8;rw[HPL.o];simp
    rw[show encS sx=Y S by rw[hS];rfl]at hlk;have HBW6:=L (λ(a:Int)=>HW.o.1.trans (((ai (λk=>k=c) W).E9 6 (U O a)).B3 (ac HW.o.2.2) λk e=>by omega));have HX:=L (And.intro hS (And.intro hy (And.intro hnb t)))
    by_cases hmem:sx∈f.keys
    .rw[if_pos (List.mem_reverse.2 hmem)]at hlk;clear hb V hS hy hby hSl o1 hnb h hf b hfl z t pl1 pl2;go_wp2_with fail;refine(eI W c s d i top _ HW.o.2.1 (by omega) 101 i ((y:Int)-1)).mono ?_;rintro e w5 ⟨rfl,T,v⟩;have HF:=L (And.intro T v);clear T v;go_wp2_with fail;go_ret;rw[yE HB2.o.2 (by rw[HX.o.2.2.2];exact hmem)];exact⟨HW.o.1.trans (HF.o.1.B3 (ac HW.o.2.2) λk e=>by omega),rfl,by simpa using HF.o.2⟩
    .rw[if_neg (λa0=>hmem (List.mem_reverse.1 a0))]at hlk;obtain⟨Wm,hmu,hmet,htu⟩:=hf.met.C7 (k:=sx) (by simp;omega) hsm;rw[show encS sx=Y S by rw[hS];rfl]at hmu;have hkm:=mO htu;have hbm:=hkm.C4 hb (λe=>hmr e.symm);obtain⟨⟨-,-,p2,-,-,-,p6,-⟩,_,pf⟩:=cZ hbm;have HKM:=L (And.intro hkm (And.intro hbm hmet));have HIN:=L (And.intro hb (And.intro V (And.intro h (And.intro hf (And.intro b hfl)))));have HNE:=L (And.intro hne (And.intro hmr (And.intro hmp hmem)));clear hb V hS hy hby hSl o1 hnb h hf b hfl z t pl1 pl2 hkm hbm hmet htu
     by_cases hlong:2097152<nb
     .have e8:(2097152:Int)<(nb:Int):=by omega
      go_wp2_with fail;refine(qY (Wm.setCell ⟨c,6,I⟩ (U O nb)) c 3 i ((y:Int)-1) s d i r.want _ r.nodes nb so fl bi tx _ _ (aB (o:=6) HKM.o.2.1 (U O nb))).mono ?_;rintro e w5 ⟨rfl,T,v⟩;have HF:=L (And.intro T v);clear T v;go_wp2_with fail;go_ret;rw[rN (λa0=>HNE.o.2.2.2 (by rw[<-HX.o.2.2.2];exact a0.2)) (by have:=HX.o.2.2.1;omega)];refine⟨(HW.o.1.trans (((HKM.o.1.A6 (G:=λk=>k=mm\/k=c) λ_=>aj).A2 (p:=⟨c,6,I⟩) (aj (ag rfl)) (U O nb)).B3 (ac HW.o.2.2) λk e=>by omega)).trans (HF.o.1.B3 (Nat.le_trans (ac HW.o.2.2) (Nat.le_trans HKM.o.1.size (by simp[World.setCell]))) λk e=>by omega),rfl,?_⟩;exact⟨_,_,i,_,_,_,_,_,_,_,_,_,_,_,_,_,_,_,by omega,HF.o.2⟩
     .have e8:¬(2097152:Int)<(nb:Int):=by omega
      go_wp2_with fail;generalize z:(Wm.setCell ⟨c,6,I⟩ (U O nb)).setCell ⟨c,2,I⟩ (U O y)=v;have hb3:v.heap[c]?=J (D (rdC s d y r.want (X (J ⟨pg,l,I⟩) N pcap) r.nodes nb so fl bi tx (X a1 n1 m1) (X a2 n2 m2) 0 0 0) 172 (0,0)):=by rw[<-z];exact aB (o:=2) (aB (o:=6) HKM.o.2.1 _) _
      have hk3:Keeps (λk=>k=mm\/k=c) W v:=by rw[<-z];exact((HKM.o.1.A6 λ_=>.inl).A2 (p:=⟨c,6,I⟩) (.inl (.inr rfl)) _).A2 (p:=⟨c,2,I⟩) (.inl (.inr rfl)) _
      have hmet3:dT v mm (sx::f.keys.reverse):=by rw[<-z];exact(HKM.o.2.2.A0 ((ai (λk=>k=c) Wm).E9 6 _) hmr).A0 ((ai (λk=>k=c) _).E9 2 _) hmr
      clear p2 p6 pf hmu hlk q2 q4 z y2 x2 x3 x4;obtain⟨hb,V,h,hf,b,hfl⟩:=HIN.o;have hbK:(X ka f.keys.length kc).ownBlock≠J c:=hf.keys.ne hb (by decide)
      have hpK:(X ka f.keys.length kc).ownBlock≠J pg:=by
       intro e;obtain⟨cc,hc⟩:=hf.keys.E4 e;exact b.ne hc (by decide) rfl
      have hmK:(X ka f.keys.length kc).ownBlock≠J mm:=hf.met.E9 hf.keys.Q7;have z1:v.cell? ⟨pg,l+px*4+1,I⟩=J (X ka f.keys.length kc):=hk3.B5 y1 (λa0=>a0.elim (λe=>hmp e.symm) λe=>hne e.symm);have T:=b.A0 hk3 (λk e a0=>by cases e;exact a0.elim (λe2=>hmp e2.symm) λe2=>hne e2.symm);have hkw3:=(hf.keys.A0 hk3 (λk e a0=>a0.elim (λe2=>hmK (e2▸e)) λe2=>hbK (e2▸e))).Q7;obtain⟨⟨_,_,_,-,t4,_,_,_⟩,_,-⟩:=cZ hb3
      have z:∀(w':af)(g off cap:Nat),aR 1 9 w' (X (J ⟨g,off,I⟩) (f.keys.length+1) cap) (f.keys.length+1) (f.keys.map encS++ [Y S])->((X ka f.keys.length kc).ownBlock=J g\/v.heap.size<=g)->Keeps (λk=>(X ka f.keys.length kc).ownBlock=J k) v w'->
       o6 w c s d i (jH r (.ok (sx,n))) (ar (m E)) ((w'.setCell ⟨pg,l+px*4+1,I⟩ (X (J ⟨g,off,I⟩) (f.keys.length+1) cap)).setCell ⟨c,3,I⟩ (U O 4)):=by
       intro w' g off cap h1 h2 h3;obtain⟨hS,hy,hnb,t⟩:=HX.o;obtain rfl:=HN2.o;have z:=aIM hS hb V HXI.o h hf b hfl hb3 hk3 hmet3 hne hmr hmp hbK hpK hmK T h1 h2 h3;rw[aCp HB2.o.2 (by rw[t];exact HNE.o.2.2.2) (by omega),hnb];refine⟨HW.o.1.trans z.1,rfl,((w'.setCell ⟨pg,l+px*4+1,I⟩ (X (J ⟨g,off,I⟩) (f.keys.length+1) cap)).setCell ⟨c,3,I⟩ (U O 4)).heap.size,?_⟩;rw[aIN HPL.o,hy];exact z.2
      have HFIN:=L z;have HWX:=L (hkw3.A0 ((ai (λ_=>False) v).A9.A4 (D #[Y S] 9)) λ_ _=>id)
      have HNC:=L (show ∀(j:Nat)(u:F),[Y S][j]?=J u->(v.drew.alloc (D #[Y S] 9)).cell? ((⟨v.heap.size,0,I⟩:Addr).add j)=J u from λj u hj=>by
       rw[Addr.add_lit,Nat.zero_add];exact(aA (au v.drew _)).trans (by simpa using hj))
      have HB3:=L (And.intro hb3 hbK);have HZ1:=L (And.intro z1 hpK);have HWN:=L T;have HBM:=L (show(f.keys.length+1)*16<=140737488355328/\f.keys.length+1<=maxLen from⟨by omega,by unfold maxLen;omega⟩);have hn4:¬pg=c:=λe=>hne e.symm
      clear hb V h hf b hfl hb3 hk3 hmet3 T hkw3 z hbK hpK hmK hne;have a4:=((ai (λ_=>False) v).A4 (D #[Y S] 9)).B5 t4 id;have a1:=((ai (λ_=>False) v).A4 (D #[Y S] 9)).B5 z1 id
      go_region_law (refine bO aKG rfl _ _ rfl rfl HWX.o ⟨v.heap.size,0,I⟩ 1 1 [Y S] (by rfl) (by rfl) HNC.o (by intro u hu;simp at hu;subst hu;rfl) (by decide) HBM.o.1 HBM.o.2 ?_;intro g' z T w' b V h;have hrb:=h.C4 (((ai (λ_=>False) v).A9.A4 (D #[Y S] 9)).C4 HB3.o.1 id) HB3.o.2;have hc4:w'.cell? ⟨c,4,I⟩=J (X (J ⟨pg,l,I⟩) N pcap):=aA hrb;have hc1:w'.cell? ⟨pg,l+px*4+1,I⟩=J (X ka f.keys.length kc):=h.B5 (((ai (λ_=>False) v).A9.A4 (D #[Y S] 9)).B5 HZ1.o.1 id) HZ1.o.2;have hc3:w'.cell? ⟨c,3,I⟩=J (U O r.want):=aA hrb;have hf4:=free_at hrb;have hf1:=((HWN.o.A0 ((ai (λ_=>False) v).A9.A4 (D #[Y S] 9)) λ_ _=>id).A0 h λk e e2=>HZ1.o.2 (by cases e;exact e2)).K6;clear hrb)
      all_goals
       have HF:=L (And.intro b (And.intro V h));clear b V h;go_wp2_with fail;go_ret;exact HFIN.o w' g' z T HF.o.1 (HF.o.2.1.imp id λa0=>Nat.le_trans (show v.heap.size<=(v.drew.alloc (D #[Y S] 9)).heap.size by simp) a0.1) (((ai (λk=>(X ka f.keys.length kc).ownBlock=J k) v).A9.A4 (D #[Y S] 9)).B8 HF.o.2.2)
end Go.Proofs.YtakkmiomhackiaaGreatDoor
