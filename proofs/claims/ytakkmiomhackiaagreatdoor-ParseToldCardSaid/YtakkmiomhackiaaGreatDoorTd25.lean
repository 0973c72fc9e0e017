/-
  The program, one part of its walk. Conditions: none.
-/
import Derived.Test.YtakkmiomhackiaaGreatDoorTd21
import Derived.Test.YtakkmiomhackiaaGreatDoorTd24
set_option linter.all false
set_option maxRecDepth 100000
set_option maxHeartbeats 16000000
open Go.Proofs.Tryz
open Bool renaming false->V,true->Z
open ByteArray renaming size_append->bg,size_extract->ao
open Decidable renaming byContradiction->ba
open Go renaming World->K,bodyPost_ret->ae,results->af
open Go.Ending renaming returned->ai
open Go.IntKind renaming i64->I,u8->bh,wrap_i64->U,wrap_u8->bj
open Go.Obj renaming cells->G
open Go.Proofs.Tryz renaming results121->ag
open Go.Value renaming bool->S,int->J,string->N
open List renaming drop_drop->E,drop_left->ak,drop_zero->aj,length->aw,length_append->au,length_drop->az,mem_cons_self->ah,take_left->av,take_of_length_le->ar
open Nat renaming le_refl->X
open Option renaming none->O,some->ac
open Or renaming inl->H,inr->Y
open UInt8.toNat renaming inj->bc
namespace Go.Proofs.YtakkmiomhackiaaGreatDoor
open Go.RowKit
theorem wT{s:ByteArray}{i:Nat}{c:UInt8}{t:List UInt8}(h:s.data.toList.drop i=c::t):∃hi:i<s.size,s[i]=c:=by
 have hi:i<s.size:=ba λe=>by rw[dA e]at h;cases h
 refine⟨hi,?_⟩;rw[aZ hi]at h;injection h
theorem wU{W r:List UInt8}(a:∀d∈W,isD d=Z)(b:cF r=V):over (W++r)=W.length:=by
 unfold over;rw[(jV a b).1]
theorem aIZ(l:List UInt8)(h:∀d∈l,isD d=Z):fE l<=351843720888329:=by
 unfold fE
 suffices ∀(l:List UInt8)(a:Nat),(∀d∈l,isD d=Z)->a<=351843720888329->l.foldl cX a<=351843720888329 from this l 0 h (by decide)
 intro l
 induction l with
 | nil=>intro a _ f;exact f
 | cons c t g=>
  intro a e f;refine g _ (λd b=>e d (List.mem_cons_of_mem _ b)) ?_;have:=kB (e c ah);unfold cX;split<;>omega
theorem aI0{l:List UInt8}{c:UInt8}:fE (l++ [c])=cX (fE l) c:=by unfold fE;rw[List.foldl_append];rfl
theorem aGT(C:ByteArray)(w:K)(neg:Bool)(W:List UInt8)(P:Option (List UInt8))(a0:Option pU)(a6:aCu C.data.toList neg W P a0)(hs:C.size<=2147483648):
 Calls prog 121 #[N C] w λr w'=>r=ai (fT (jU neg W P a0))/\Below w.heap.size w w':=by
 obtain⟨u,hl,q⟩:=a6;obtain⟨⟨an,ad,ax⟩,g⟩:∃z,jU neg W P a0=z:=⟨_,rfl⟩;rw[g];have HA:=L g;clear g
 obtain⟨s,hs',hsz,hlen0⟩:∃s:ByteArray,s.data.toList=u/\s.size<=2147483648/\((neg=Z/\C.extract 1 C.size=s/\∃a6:0<C.size,C[0]=45)\/(neg=V/\s=C/\∃a6:0<C.size,C[0]≠45)):=by
  cases neg with
  | true=>
   have hl:C.data.toList=45::u:=hl;obtain⟨Q,j⟩:=wT (s:=C) (i:=0) (by rw[aj];exact hl);refine⟨C.extract 1 C.size,?_,by simp;omega,H ⟨rfl,rfl,Q,j⟩⟩;have e:(C.extract 1 C.size).data.toList=C.data.toList.drop 1:=by simp;rw[ar (by simp)]
   rw[e,hl];rfl
  | false=>
   have hl:C.data.toList=u:=hl;refine⟨C,hl,hs,Y ⟨rfl,rfl,?_⟩⟩;cases g:W with
   | nil=>exact absurd g q.ne
   | cons c t=>
    have h2:C.data.toList.drop 0=c::(t++(pL P++eL a0)):=by rw[aj,hl,q.is,g];rfl
    obtain⟨Q,j⟩:=wT h2;refine⟨Q,?_⟩;rw[j];rintro rfl;have:=q.dig 45 (by rw[g];exact ah);revert this;decide
 have hsl:s.data.toList.length=s.size:=by simp
 have HOV:=L (λ(W:K)(i:Nat)(hi:i<=s.size)=>aDH W s i hi hsz);have HDG:=L (λ(W:K)(i:Nat)=>tE W s i);have g:s.data.toList=W++(pL P++eL a0):=hs'.trans q.is;have l:s.size=W.length+(pL P++eL a0).length:=by rw[<-hsl,g,au]
 have h:s.data.toList.drop W.length=pL P++eL a0:=by rw[g,ak]
 have T:over s.data.toList=W.length:=by rw[g];exact wU q.dig (aIW q.ex)
 have m:(s.extract 0 W.length).data.toList=W:=by
  rw[show(s.extract 0 W.length).data.toList=s.data.toList.take W.length by simp,g,av]
 obtain⟨n,hn⟩:∃n,W.length=n:=⟨_,rfl⟩;rw[hn]at l h T m;have hnl:n<=s.size:=by omega
 have A:(0:Nat)+over (s.data.toList.drop 0)=n:=by rw[aj,T,Nat.zero_add]
 have R:∀W:K,Calls prog 161 #[N s,J I 0] W λe w'=>e=ai (J I n)/\w'=W:=λW=>by
  have:=HOV.o W 0 (Nat.zero_le _);rw[A]at this;exact this
 have HO1:=L R;obtain⟨g2,g3,hb⟩:=fS w (G #[S V,N ⟨#[]⟩,J I 0] 251) (G #[S neg,N ⟨#[]⟩,J I 0] 251);have G2:=L g2;have G3:=L g3;have HB:=L hb;clear g2 g3 hb;have HU:=L q;have HLEN:=L l;have HDROP:=L h;have HEXT:=L m;clear hl q hs' g l h T m A hn R
 have HST:=L (λ(W':K)(d:ByteArray)(x:Int)(j:d.size<=2147483648)(h2: -4611686018427387904<=x)(m:x<=4611686018427387904)=>aEb neg d x W' j h2 m);obtain⟨B,hB⟩:∃B,w.heap.size+1=B:=⟨_,rfl⟩;have hBw:w.heap.size<=B:=by omega
 have hBne:w.heap.size≠B:=by omega
 rcases hlen0 with⟨hneg,he,Q,j⟩|⟨hneg,he,Q,j⟩
 case' inl=>
  have k1:((C[0].toNat:Nat):Int)=45:=by rw[j];rfl
  have k2:(1:Int)<=(C.size:Int):=by omega
  subst hneg;clear j;go_enter func121,ntmps121;go_wp2_with fail;clear k1 k2 he Q hs;generalize ((w.alloc (G #[S V,N ⟨#[]⟩,J I 0] 251)).alloc (G #[S Z,N ⟨#[]⟩,J I 0] 251))=w1 at*
 case' inr=>
  subst he;have k1:¬((s[0].toNat:Nat):Int)=45:=λa6=>j (bc (show s[0].toNat=45 by omega))
  have k2:(((s[0].toNat:Nat):Int)==45)=V:=by simpa using k1
  subst hneg;clear j;go_enter func121,ntmps121;go_wp2_with fail;generalize g:s[0].toNat=z at*;clear k1 k2 Q hs g;generalize ((w.alloc (G #[S V,N ⟨#[]⟩,J I 0] 251)).alloc (G #[S V,N ⟨#[]⟩,J I 0] 251))=w1 at*
 all_goals
  rw[hB]at*;refine(HO1.o _).mono ?_;rintro r w2 ⟨rfl,rfl⟩;have hns:(n:Int)<=(s.size:Int):=by omega
  obtain⟨c0,c1,c2,cf⟩:=cells3 G3.o;obtain⟨p,hp⟩:∃p,n+(pL P).length=p:=⟨_,rfl⟩;have T:s.data.toList.drop p=eL a0:=by rw[<-hp,<-E,HDROP.o,ak]
  have q:p+(eL a0).length=s.size:=by have:=HLEN.o;rw[au]at this;omega
  have HPF:=L (show ∀F,P=ac F->n+1+F.length=p/\s.data.toList.drop n=46::(F++eL a0)from λF e=>by
   subst e;exact⟨by rw[<-hp];simp[pL];omega,HDROP.o⟩)
  have HPN:=L (show P=O->n=p from λe=>by subst e;simpa[pL]using hp)
  have hways:(a0=O/\p=s.size)\/(∃x R g,a0=ac x/\p+1=R/\(∃a6:R<s.size,(x.sg= []/\s[R].toNat≠45/\s[R].toNat≠43/\R=g)\/(x.sg= [43]/\s[R].toNat=43/\R+1=g)\/(x.sg= [45]/\s[R].toNat=45/\R+1=g))/\s.data.toList.drop g=x.X/\(∃a6:p<s.size,s[p].toNat≠46)/\(∀d∈x.X,isD d=Z)):=by
   cases l:a0 with
   | none=>exact H ⟨rfl,by rw[l]at q;exact q⟩
   | some x=>
    obtain⟨j,h2,m,h4⟩:=HU.o.ex x l;have hd0:s.data.toList.drop p=x.c::(x.sg++x.X):=by rw[T,l];rfl
    have h:s.data.toList.drop (p+1)=x.sg++x.X:=by rw[<-E,hd0];rfl
    obtain⟨i0,j0⟩:=wT hd0;have hne:∃a6:p<s.size,s[p].toNat≠46:=⟨i0,by rw[j0];rcases j with e|e<;>rw[e]<;>decide⟩;refine Y ⟨x,p+1,p+1+x.sg.length,rfl,rfl,?_,by rw[<-E,h,ak],hne,h4⟩;rcases h2 with e|e|e
    .rw[e]at h⊢;cases hX:x.X with
     | nil=>exact absurd hX m
     | cons c t=>
      rw[hX]at h h4;obtain⟨i1,A⟩:=wT (s:=s) (i:=p+1) (c:=c) (t:=t) h;have hc:=kB (h4 c ah);exact⟨i1,H ⟨rfl,by rw[A];omega,by rw[A];omega,rfl⟩⟩
    .rw[e]at h⊢;obtain⟨i1,A⟩:=wT (s:=s) (i:=p+1) (c:=43) (t:=x.X) h;exact⟨i1,Y (H ⟨rfl,by rw[A];rfl,rfl⟩)⟩
    .rw[e]at h⊢;obtain⟨i1,A⟩:=wT (s:=s) (i:=p+1) (c:=45) (t:=x.X) h;exact⟨i1,Y (Y ⟨rfl,by rw[A];rfl,rfl⟩)⟩
  have hpl:p<=s.size:=by omega
  clear hp q T;have hPs:P=O\/∃F,P=ac F:=by cases P;exact H rfl;exact Y ⟨_,rfl⟩
  have h:∀F,P=ac F->(s.extract 0 n++s.extract (n+1) p).data.toList=W++F/\(s.extract 0 n++s.extract (n+1) p).size<=s.size/\F.length=p-(n+1)/\n+1<=p:=by
   intro F A;obtain⟨e1,e2⟩:=HPF.o F A;have e3:(s.extract (n+1) p).data.toList=(s.data.toList.drop (n+1)).take (p-(n+1)):=by simp
   have e4:s.data.toList.drop (n+1)=F++eL a0:=by rw[<-E,e2];rfl
   refine⟨?_,?_,by omega,by omega⟩
   .have q:(s.extract 0 n++s.extract (n+1) p).data.toList=(s.extract 0 n).data.toList++(s.extract (n+1) p).data.toList:=by simp
    rw[q,e3,HEXT.o,e4,show p-(n+1)=F.length by omega,av]
   .simp only[bg,ao];omega
  have HDIG:=L h
  have HPF2:=L (show ∀F,P=ac F->(∃a6:n<s.size,s[n].toNat=46)/\∀W:K,Calls prog 161 #[N s,J I ((n:Int)+1)] W λe w'=>e=ai (J I p)/\w'=W from λF A=>by
   obtain⟨e1,e2⟩:=HPF.o F A;obtain⟨i0,j0⟩:=wT e2;refine⟨⟨i0,by rw[j0];rfl⟩,λW=>?_⟩;have e4:s.data.toList.drop (n+1)=F++eL a0:=by rw[<-E,e2];rfl
   have:=HOV.o W (n+1) (by omega);rw[e4,wU (HU.o.pt F A).2 (aEe HU.o.ex),e1]at this;exact this)
  clear h;rcases hways with⟨l,hpz⟩|⟨x,R,g,l,hp1,⟨hi1,hsg⟩,hdX,⟨hi0,hn46⟩,hXd⟩
  .have a1:¬(p:Int)<(s.size:Int):=by omega
   have hEv:oV a0=0:=by rw[l];rfl
   rcases hPs with A|⟨F,A⟩
   .have hnp:=HPN.o A;have a2:¬(n:Int)<(s.size:Int):=by omega
    have hD:=HEXT.o;have hDs:(s.extract 0 n).size<=2147483648:=by simp only[ao];omega
    have HV:=L (show ∀b,bZ b (s.extract 0 n).data.toList 0=jU b W P a0 from λb=>by unfold jU;rw[hD,hEv,A];simp);clear hD hEv l A hpz hnp;go_wp2_with fail;have hg2:=G2.o;have hbc:=HB.o
    with_reducible refine(HST.o _ (s.extract 0 n) 0 hDs (by decide) (by decide)).mono ?_
    rintro r w9 ⟨rfl,h⟩;have g2:=keep hg2 h;have q:=chain hbc h;rw[HV.o,HA.o];obtain⟨y0,y1,y2,yf⟩:=cells3 g2;have T:=aB (o:=2) (aB (o:=1) (aB (o:=0) g2 (S an)) (N ⟨ad.toArray⟩)) (J I ax);have r0:=aA (o:=0) T;have r1:=aA (o:=1) T;have r2:=aA (o:=2) T;have HBF:=L (((q.setCell (p:=⟨w.heap.size,0,O⟩) (X _) (S an)).setCell (p:=⟨w.heap.size,1,O⟩) (X _) (N ⟨ad.toArray⟩)).setCell (p:=⟨w.heap.size,2,O⟩) (X _) (J I ax));clear T h q;unfold fT;go_wp2_with fail;exact ae (v:=.agg #[S an,N ⟨ad.toArray⟩,J I ax]) (by simp[af,ag,go_sem,r0,r1,r2]) rfl ⟨rfl,HBF.o⟩
   .obtain⟨⟨hi,t46⟩,hov⟩:=HPF2.o F A;obtain⟨d1,d2,d3,-⟩:=HDIG.o F A;have HO2:=L hov;obtain⟨f,hf⟩:∃f,p-(n+1)=f:=⟨_,rfl⟩;rw[hf]at d3;have HV:=L (show ∀b,bZ b (s.extract 0 n++s.extract (n+1) p).data.toList (-(f:Int))=jU b W P a0 from λb=>by unfold jU;rw[d1,hEv,A];simp[d3]);have hDs:(s.extract 0 n++s.extract (n+1) p).size<=2147483648:=by omega
    have t1:((s[n].toNat:Nat):Int)=46:=by rw[t46];rfl
    have t2:(n:Int)<(s.size:Int):=by omega
    have t3:I.wrap ((n:Int)+1)=(n:Int)+1:=by rw[U];omega
    have t4:I.wrap ((p:Int)-(n:Int))=(f:Int)+1:=by rw[U];omega
    have t5:I.wrap (f:Int)=(f:Int):=by rw[U];omega
    have t6:I.wrap (-(f:Int))= -(f:Int):=by rw[U];omega
    have t7:(n:Int)+1<=(p:Int):=by omega
    have t8:(p:Int)<=(s.size:Int):=by omega
    have hfb1: -4611686018427387904<= -(f:Int):=by omega
    have hfb2: -(f:Int)<=4611686018427387904:=by omega
    have hg2:=(aE (w:=w2) (o:=2) (b:=B) (k:=w.heap.size) (J I (-(f:Int))) hBne).trans G2.o;have hbc:=HB.o.setCell (p:=⟨B,2,O⟩) hBw (J I (-(f:Int)));clear hov d1 d2 d3 hf hEv t46 l hpz;go_wp2_with fail;refine(HO2.o _).mono ?_;rintro r w3 ⟨rfl,rfl⟩;go_wp2_with fail
    with_reducible refine(HST.o _ (s.extract 0 n++s.extract (n+1) p) (-(f:Int)) hDs hfb1 hfb2).mono ?_
    rintro r w9 ⟨rfl,h⟩;have g2:=keep hg2 h;have q:=chain hbc h;rw[HV.o,HA.o];obtain⟨y0,y1,y2,yf⟩:=cells3 g2;have T:=aB (o:=2) (aB (o:=1) (aB (o:=0) g2 (S an)) (N ⟨ad.toArray⟩)) (J I ax);have r0:=aA (o:=0) T;have r1:=aA (o:=1) T;have r2:=aA (o:=2) T;have HBF:=L (((q.setCell (p:=⟨w.heap.size,0,O⟩) (X _) (S an)).setCell (p:=⟨w.heap.size,1,O⟩) (X _) (N ⟨ad.toArray⟩)).setCell (p:=⟨w.heap.size,2,O⟩) (X _) (J I ax));clear T h q;unfold fT;go_wp2_with fail;exact ae (v:=.agg #[S an,N ⟨ad.toArray⟩,J I ax]) (by simp[af,ag,go_sem,r0,r1,r2]) rfl ⟨rfl,HBF.o⟩
  .have hXI:∀i(j:g<=i)(h2:i<s.size),cF (s.data.toList.drop i)=Z/\48<=s[i].toNat/\s[i].toNat<=57/\x.X.take (i+1-g)=x.X.take (i-g)++ [s[i]]:=by
    intro i j h2;have e1:s.data.toList.drop i=x.X.drop (i-g):=by rw[<-hdX,E,show g+(i-g)=i by omega]
    have e2:=aZ h2
    have hl:i-g<x.X.length:=by
     have:=congrArg aw hdX;rw[az,hsl]at this;omega
    rw[e1]at e2⊢;have e3:=List.drop_eq_getElem_cons hl;rw[e3]at e2⊢;injection e2 with e4 _
    have hm:=hXd (x.X[i-g]) (List.getElem_mem _);refine⟨hm,?_,?_,?_⟩
    .rw[<-e4];exact(kB hm).1
    .rw[<-e4];exact(kB hm).2
    .rw[show i+1-g=(i-g)+1 by omega,List.take_succ_eq_append_getElem hl,e4]
   have HXI:=L hXI
   have HXL:=L (show x.X.take (s.size-g)=x.X by
    rw[ar];have:=congrArg aw hdX;rw[az,hsl]at this;omega)
   have hq0:g<=s.size:=by rcases hsg with⟨_,_,_,a6⟩|⟨_,_,a6⟩|⟨_,_,a6⟩<;>omega
   have HEX:=L (show ∀a:Nat,a=fE x.X->oV a0=if x.sg= [45]then -(a:Int)else(a:Int)from λa a6=>by rw[l,a6];rfl);clear hXI hdX hXd l;have a1:(p:Int)<(s.size:Int):=by omega
   have a2:(R:Int)<(s.size:Int):=by omega
   have a3:I.wrap ((p:Int)+1)=(R:Int):=by rw[U];omega
   have hsg2:(x.sg= [45]/\s[R].toNat=45/\R+1=g)\/(x.sg≠ [45]/\s[R].toNat=43/\R+1=g)\/(x.sg≠ [45]/\s[R].toNat≠45/\s[R].toNat≠43/\R=g):=by
    rcases hsg with⟨Q,j,h2,m⟩|⟨Q,j,m⟩|⟨Q,j,m⟩
    .exact Y (Y ⟨by rw[Q];decide,j,h2,m⟩)
    .exact Y (H ⟨by rw[Q];decide,j,m⟩)
    .exact H ⟨Q,j,m⟩
   clear hsg;have a4:R+1=g->I.wrap ((R:Int)+1)=(g:Int):=λa6=>by rw[U];omega
   rcases hPs with A|⟨F,A⟩
   all_goals
    first
    | (obtain⟨⟨hi,t46⟩,hov⟩:=HPF2.o F A;obtain⟨d1,d2,d3,d4⟩:=HDIG.o F A;have HO2:=L hov;obtain⟨f,hf⟩: ∃f,p - (n+1)=f:=⟨_,rfl⟩;rw [hf]at d3;have t1:((s[n].toNat:Nat):Int)=46:=by rw [t46];rfl
       have t2:(n:Int)<(s.size:Int):=by omega
       have t3:I.wrap ((n:Int)+1)=(n:Int)+1:=by rw[U];omega
       have t4:I.wrap ((p:Int)-(n:Int))=(f:Int)+1:=by rw[U];omega
       have t5:I.wrap (f:Int)=(f:Int):=by rw[U];omega
       obtain⟨l,hx0⟩:∃l:Int,-(f:Int)=l:=⟨_,rfl⟩;have t6:I.wrap (-(f:Int))=l:=by rw[U];omega
       have t7:(n:Int)+1<=(p:Int):=by omega
       have t8:(p:Int)<=(s.size:Int):=by omega
       have HV:=L (show ∀b,bZ b (s.extract 0 n++s.extract (n+1) p).data.toList (l+oV a0)=jU b W P a0 from λb=>by
        unfold jU;rw[d1,A,<-hx0];congr 1;show -(f:Int)+oV a0=oV a0-(F.length:Int);rw[d3];omega)
       have hDs:(s.extract 0 n++s.extract (n+1) p).size<=2147483648:=by omega
       have hx1: -2147483648<=l:=by omega
       have hx2:l<=0:=by omega
       have hg2:=(aE (w:=w2) (o:=2) (b:=B) (k:=w.heap.size) (J I l) hBne).trans G2.o;have G3':=aB (o:=2) G3.o (J I l);have hbc:=HB.o.setCell (p:=⟨B,2,O⟩) hBw (J I l);clear hov d1 d2 d3 d4 hf t46 A hx0 hp1 hn46;go_wp2_with fail;refine(HO2.o _).mono ?_;rintro r w3 ⟨rfl,rfl⟩;rcases hsg2 with⟨Q,j,m⟩|⟨Q,j,m⟩|⟨Q,j,h2,m⟩
       case' inl=>
        have a5:=a4 m
        go_wp2_with fail
       case' inr.inl=>
        have a5:=a4 m
        go_wp2_with fail
       case' inr.inr=>
        have m:=m.symm;subst m;have b3:¬((s[g].toNat:Nat):Int)=45:=by omega
        have b4:(((s[g].toNat:Nat):Int)==45)=V:=by simpa using b3
        have b5:¬((s[g].toNat:Nat):Int)=43:=by omega
        have b6:(((s[g].toNat:Nat):Int)==43)=V:=by simpa using b5
        go_wp2_with fail
       all_goals
        have c0:=aA (o:=0) G3';have c2:=aA (o:=2) G3';have cf:=free_at G3';generalize s.extract 0 n++s.extract (n+1) p=D at*;generalize w3.setCell ⟨B,2,O⟩ (J I l)=wc at*)
    | (have hnp := HPN.o A
       subst hnp;have b1:¬((s[n].toNat:Nat):Int)=46:=by omega
       have b2:(((s[n].toNat:Nat):Int)==46)=V:=by simpa using b1
       obtain⟨l,hx0⟩:∃l:Int,0=l:=⟨_,rfl⟩;have hD:=HEXT.o;have hDs:(s.extract 0 n).size<=2147483648:=by simp only[ao];omega
       have HV:=L (show ∀b,bZ b (s.extract 0 n).data.toList (l+oV a0)=jU b W P a0 from λb=>by unfold jU;rw[hD,A,<-hx0];simp);have hx1: -2147483648<=l:=by omega
       have hx2:l<=0:=by omega
       have G3':=G3.o;rw[hx0]at c2;have hg2:=G2.o;have hbc:=HB.o;clear hD A hx0 hp1 hn46;rcases hsg2 with⟨Q,j,m⟩|⟨Q,j,m⟩|⟨Q,j,h2,m⟩
       case' inl=>
        have a5:=a4 m
        go_wp2_with fail
       case' inr.inl=>
        have a5:=a4 m
        go_wp2_with fail
       case' inr.inr=>
        have m:=m.symm;subst m;have b3:¬((s[g].toNat:Nat):Int)=45:=by omega
        have b4:(((s[g].toNat:Nat):Int)==45)=V:=by simpa using b3
        have b5:¬((s[g].toNat:Nat):Int)=43:=by omega
        have b6:(((s[g].toNat:Nat):Int)==43)=V:=by simpa using b5
        go_wp2_with fail
       all_goals
        generalize s.extract 0 n=D at*;generalize w2=wc at*)
   all_goals
    go_loopw [8,4] (λe v wr=>∃i a:Nat,v=J I i/\e=J I a/\g<=i/\i<=s.size/\M (a=fE (x.X.take (i-g)))/\a<=351843720888329/\wc=wr) (λ_ v _=>s.size-(intOf v).toNat)
    case atStart=>exact⟨g,0,rfl,rfl,X _,hq0,L (by simp[fE]),by decide,rfl⟩
    case round=>
     obtain⟨i,a,rfl,rfl,hi1,hi2,HAX,ha,rfl⟩:=hrel;have A:=λW:K=>HDG.o W i
     by_cases hit:i<s.size
     .obtain⟨b1,b2,b3,b4⟩:=HXI.o i hi1 hit;rw[b1]at A;have HDW:=L A;have k1:(i:Int)<(s.size:Int):=by omega
      have k2:bh.wrap (((s[i].toNat:Nat):Int)-48)=((s[i].toNat-48:Nat):Int):=by rw[bj];omega
      have hsn:fE (x.X.take (i+1-g))=cX a s[i]:=by rw[b4,aI0,<-HAX.o]
      have hii:I.wrap ((i:Int)+1)=((i+1:Nat):Int):=by rw[U];omega
      unfold cX at hsn
      by_cases hfar:a<35184372088832
      .rw[if_pos hfar]at hsn;have hyb:s[i].toNat-48<=9:=by omega
       generalize s[i].toNat-48=y at*;have k3:(a:Int)<35184372088832:=by omega
       have k4:I.wrap ((10:Int)*(a:Int))=((10*a:Nat):Int):=by rw[U];omega
       have k5:I.wrap (((10*a:Nat):Int)+(y:Int))=((10*a+y:Nat):Int):=by rw[U];omega
       have HSN:=L hsn.symm;have HA1:=L (show 10*a+y<=351843720888329 by omega);clear hsn A b1 b2 b3 b4 hfar ha;go_wp2_with fail;refine(HDW.o _).mono ?_;rintro r w5 ⟨rfl,rfl⟩;go_wp2_with fail;exact⟨⟨i+1,10*a+y,by go_num,by go_num,by omega,by omega,HSN,HA1.o,trivial⟩,by simp[intOf];omega⟩
      .rw[if_neg hfar]at hsn;have k3:decide ((a:Int)<35184372088832)=V:=decide_eq_false (by omega);have HSN:=L hsn.symm;have HA1:=L ha;clear hsn A b1 b2 b3 b4 hfar ha k2 hii;go_wp2_with fail;refine(HDW.o _).mono ?_;rintro r w5 ⟨rfl,rfl⟩;go_wp2_with fail;exact⟨⟨i+1,a,by go_num,by go_num,by omega,by omega,HSN,HA1.o,trivial⟩,by simp[intOf];omega⟩
     .obtain rfl:i=s.size:=by omega
      have hdg2:cF (s.data.toList.drop s.size)=V:=by rw[dA (s:=s) (i:=s.size) (by omega)];rfl
      rw[hdg2]at A;have HDW:=L A;have hax:a=fE x.X:=by rw[HAX.o,HXL.o]
      have HAE:=L hax;have k4:I.wrap (-(a:Int))= -(a:Int):=by rw[U];omega
      clear A hdg2 hax;go_wp2_with fail;refine(HDW.o _).mono ?_;rintro r w5 ⟨rfl,rfl⟩
      first
       | (have h45 : x.sg = [45] := Q
          have he:=HEX.o a HAE.o;rw[if_pos h45]at he;have A:=HV.o;rw[he]at A;have HV3:=L A;have k5:I.wrap (l+ -(a:Int))=l+ -(a:Int):=by rw[U];omega
          clear he A;go_wp2_with fail;have hg3:=(aE (w:=w5) (o:=2) (b:=B) (k:=w.heap.size) (J I (l+ -(a:Int))) hBne).trans hg2;have hbd:=hbc.setCell (p:=⟨B,2,O⟩) hBw (J I (l+ -(a:Int)))
          with_reducible refine(HST.o _ D (l+ -(a:Int)) hDs (by omega) (by omega)).mono ?_
          rintro r w9 ⟨rfl,h⟩;have g2:=keep hg3 h;have q:=chain hbd h;rw[HV3.o,HA.o];obtain⟨y0,y1,y2,yf⟩:=cells3 g2;have T:=aB (o:=2) (aB (o:=1) (aB (o:=0) g2 (S an)) (N ⟨ad.toArray⟩)) (J I ax);have r0:=aA (o:=0) T;have r1:=aA (o:=1) T;have r2:=aA (o:=2) T;have HBF:=L (((q.setCell (p:=⟨w.heap.size,0,O⟩) (X _) (S an)).setCell (p:=⟨w.heap.size,1,O⟩) (X _) (N ⟨ad.toArray⟩)).setCell (p:=⟨w.heap.size,2,O⟩) (X _) (J I ax));clear T h q;unfold fT;go_wp2_with fail;exact ae (v:=.agg #[S an,N ⟨ad.toArray⟩,J I ax]) (by simp[af,ag,go_sem,r0,r1,r2]) rfl ⟨rfl,HBF.o⟩)
       | (have h45 : ¬ x.sg = [45] := Q
          have he:=HEX.o a HAE.o;rw[if_neg h45]at he;have A:=HV.o;rw[he]at A;have HV3:=L A;have k5:I.wrap (l+(a:Int))=l+(a:Int):=by rw[U];omega
          clear he A;go_wp2_with fail;have hg3:=(aE (w:=w5) (o:=2) (b:=B) (k:=w.heap.size) (J I (l+(a:Int))) hBne).trans hg2;have hbd:=hbc.setCell (p:=⟨B,2,O⟩) hBw (J I (l+(a:Int)))
          with_reducible refine(HST.o _ D (l+(a:Int)) hDs (by omega) (by omega)).mono ?_
          rintro r w9 ⟨rfl,h⟩;have g2:=keep hg3 h;have q:=chain hbd h;rw[HV3.o,HA.o];obtain⟨y0,y1,y2,yf⟩:=cells3 g2;have T:=aB (o:=2) (aB (o:=1) (aB (o:=0) g2 (S an)) (N ⟨ad.toArray⟩)) (J I ax);have r0:=aA (o:=0) T;have r1:=aA (o:=1) T;have r2:=aA (o:=2) T;have HBF:=L (((q.setCell (p:=⟨w.heap.size,0,O⟩) (X _) (S an)).setCell (p:=⟨w.heap.size,1,O⟩) (X _) (N ⟨ad.toArray⟩)).setCell (p:=⟨w.heap.size,2,O⟩) (X _) (J I ax));clear T h q;unfold fT;go_wp2_with fail;exact ae (v:=.agg #[S an,N ⟨ad.toArray⟩,J I ax]) (by simp[af,ag,go_sem,r0,r1,r2]) rfl ⟨rfl,HBF.o⟩)
end Go.Proofs.YtakkmiomhackiaaGreatDoor
