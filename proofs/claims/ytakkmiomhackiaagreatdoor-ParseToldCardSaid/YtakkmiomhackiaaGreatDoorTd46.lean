/-
  The program, one part of its walk. Conditions: none.
-/
import Derived.Test.YtakkmiomhackiaaGreatDoorTd20
import Derived.Test.YtakkmiomhackiaaGreatDoorTd42
import Derived.Test.YtakkmiomhackiaaGreatDoorTd43
import Derived.Test.YtakkmiomhackiaaGreatDoorTd45
set_option linter.all false
set_option maxRecDepth 100000
set_option maxHeartbeats 16000000
open Go.Proofs.Tryz
open Array renaming getElem_toList->di
open Bool renaming false->I,false_eq_true->bm,true->J
open Except renaming error->O,ok->V,pure->ck
open Go renaming Calls->aj,lt_of_block->cw
open Go.Ending renaming returned->bh
open Go.IntKind renaming i64->K,wrap_i64->dh
open Go.Proofs.Tryz renaming prog->ak
open Go.Proofs.YtakkmiomhackiaaGreatDoor.Keeps renaming A1->bz,A3->Q,A4->au
open Go.Proofs.YtakkmiomhackiaaGreatDoor.Lx renaming B0->cg,B4->av,F0->dl
open Go.Proofs.YtakkmiomhackiaaGreatDoor.Ps renaming B0->dj,C0->bs,C7->co,C8->ac,D3->ai,D4->cj,D9->dm,E8->aw,F4->cr,F7->dp
open Go.Proofs.YtakkmiomhackiaaGreatDoor.Ra renaming bad->E,cut->az
open Go.Proofs.YtakkmiomhackiaaGreatDoor.Rr renaming E6->cu,I5->ao,J7->cv,N2->cz
open Go.Proofs.YtakkmiomhackiaaGreatDoor.St renaming outside->af,within->H
open Go.Proofs.YtakkmiomhackiaaGreatDoor.Tr renaming A7->ct,flag->bj,null->bc,num->ah
open Go.Proofs.YtakkmiomhackiaaGreatDoor.ValAt renaming flag->bk
open Go.RowKit renaming Below->ae
open Go.Value renaming int->Z,pointer->bu,string->ag,tuple->bx
open List renaming drop_eq_nil_iff->dq,drop_succ_cons->dt,foldlM_cons->du,length_cons->D,length_drop->bp
open Nat renaming add_zero->bw,le_of_lt->G,le_refl->T,lt_of_lt_of_le->ar,zero_le->ba
open Option renaming none->U,some->Y
open Or renaming inl->bg
open UInt8.toNat renaming inj->dv
namespace Go.Proofs.YtakkmiomhackiaaGreatDoor
open Go.RowKit
theorem sU(w:World)(h:Nat)(s:ByteArray)(d i o:Nat)(r:Rr)(a0:aU w h s d i r o)(c:Bnd r d)(a:ByteArray)(j:a=⟨#[110,117,108,108]⟩\/a=⟨#[116,114,117,101]⟩\/a=⟨#[102,97,108,115,101]⟩)(hi:i<=s.size)(hs:s.size<=16777216):
 aj ak 107 #[bu (Y ⟨h,0,U⟩),ag a] w λe w'=>o6 w h s d i (r.N2 d a.data.toList (s.data.toList.drop i)) e w':=by
 have f:=L (qZ w h s d i o r a0 (by omega) c.depth c.pile c.nodes);have b:h<w.heap.size:=by obtain⟨P,pcs,so,fl,bi,tx,a1,n1,m1,a2,n2,m2,hb,-⟩:=a0;exact cw hb
 have g:r.N2 d a.data.toList (s.data.toList.drop i)=match r.D5 d with
  | .error no=>E no 0
  | .ok r=>if alike a.data.toList (s.data.toList.drop i)<a.data.toList.length/\alike a.data.toList (s.data.toList.drop i)<(s.data.toList.drop i).length then E 120 (alike a.data.toList (s.data.toList.drop i))else if alike a.data.toList (s.data.toList.drop i)<a.data.toList.length then az else .on (alike a.data.toList (s.data.toList.drop i)) (r.C7 (jY a.data.toList)):=by
  unfold cz ao;cases r.D5 d<;>rfl
 rw[g];have q:=L b;have HW:=L j;have hsz:a.size<=5:=by rcases j with rfl|rfl|rfl<;>decide
 clear g j;cases g:r.D5 d with
 | error no=>
  rw[g]at f;clear a0 g b;go_enter func107,ntmps107;go_wp2_with fail;refine f.o.mono ?_;rintro e w1 ⟨F,rfl,m⟩;have l:=L (And.intro F m);clear F m;go_wp2_with fail;go_ret;exact⟨l.o.1.B3 (G q.o) λk e=>by omega,rfl,l.o.2⟩
 | ok r2=>
  have j:=aAM c g;rw[g]at f;obtain⟨A,y⟩:∃A,alike a.data.toList (s.data.toList.drop i)=A:=⟨_,rfl⟩;have HA:=L (show 0+alike (a.data.toList.drop 0) (s.data.toList.drop (i+0))=A by simpa using y);have u:a.data.toList.length=a.size:=by simp
  have x:(s.data.toList.drop i).length=s.size-i:=by simp
  simp only[y,u,x];obtain⟨R,B⟩:∃R,(if A<a.size/\A<s.size-i then E 120 A else if A<a.size then az else .on A (r2.C7 (jY a.data.toList)))=R:=⟨_,rfl⟩;rw[B];have HB2:=L j;clear a0 g b y u x c j;go_enter func107,ntmps107;go_wp2_with fail;refine f.o.mono ?_;rintro e w1 ⟨F,rfl,b⟩;have N:=L (F.B3 (G q.o) λk e=>by omega);have x:=L b;clear F b f;go_wp2_with fail
  go_loopw [5] (λv wr=>∃k:Nat,v=Z K k/\k<=a.size/\i+k<=s.size/\M (k+alike (a.data.toList.drop k) (s.data.toList.drop (i+k))=A)/\Keeps (λ_=>False) w1 wr) (λv _=>a.size-(intOf v).toNat)
  case atStart=>exact⟨0,rfl,ba _,hi,HA,Q _ _⟩
  case round=>
   obtain⟨k,rfl,F,hp,u,g⟩:=hrel;obtain⟨p,b⟩:∃p,i+k=p:=⟨_,rfl⟩;obtain⟨c0,c2,cf⟩:=(x.o.C9 g).F6;have j:=L g;have q1:K.wrap ((i:Int)+(k:Int))=(p:Int):=by rw[dh];omega
   have c:=u.o;rw[b]at c hp
   by_cases C:k<a.size
   .have e1:(k:Int)<(a.size:Int):=by omega
    by_cases h2:p<s.size
    .have e2:(p:Int)<(s.size:Int):=by omega
     by_cases y:a[k]=s[p]
     .have e3:(((s[p].toNat:Nat):Int)==((a[k].toNat:Nat):Int))=J:=by rw[y];simp
      rw[aB2 (by simpa using C) h2,if_pos (by rw[di];exact y)]at c;have S:=L (show(k+1)+alike (a.data.toList.drop (k+1)) (s.data.toList.drop (i+(k+1)))=A by rw[<-c,<-b];rw[show i+(k+1)=i+k+1 by omega];omega);have q2:K.wrap ((k:Int)+1)=(k:Int)+1:=by rw[dh];omega
      have f:=L (show k+1<=a.size/\i+(k+1)<=s.size from⟨by omega,by omega⟩);clear y c g b u;go_wp2_with fail
      go_quiet (fail)
      go_wp2_with fail
      go_roundw
      case rel=>exact⟨k+1,by go_num,f.o.1,f.o.2,S,j.o.K8 rfl rfl rfl rfl⟩
      case measure=>have:=f.o;simp[intOf];omega
     .have e3:(((s[p].toNat:Nat):Int)==((a[k].toNat:Nat):Int))=I:=by
       have:¬s[p].toNat=a[k].toNat:=λe=>y (dv e.symm)
       simp;omega
      rw[aB2 (by simpa using C) h2,if_neg (by rw[di];exact y),bw]at c;subst c;rw[if_pos ⟨C,by omega⟩]at B;subst B;have f:=L b;clear y g b u;go_wp2_with fail
      go_quiet (fail)
      go_wp2_with fail
      go_quiet (fail)
      go_wp2_with fail
      have HWR:=L (λn=>show aj ak 76 #[bu (Y ⟨h,0,U⟩),Z K 120,Z K p,Z K p] (wr.drewN n) (λe w'=>e=bh (bx #[])/\Keeps (λk=>k=h) (wr.drewN n) w'/\o5 w' h 120 p/\w'.cell? ⟨h,2,U⟩=Y (Z K i))from by
       obtain⟨P,pcs,so,fl,bi,tx,a1,n1,m1,a2,n2,m2,hb,-⟩:=x.o.C9 (j.o.O2 n);exact(qY (wr.drewN n) h 120 p p _ _ _ _ _ _ _ _ _ _ _ _ _ hb).mono λe w' ⟨C,h2,y⟩=>⟨C,h2,⟨_,_,_,_,_,_,_,_,_,_,_,_,_,_,_,_,_,p,by omega,y⟩,(cZ y).1.2.2.1⟩)
      go_region_held3 (λw'=>w'.cell? ⟨h,2,U⟩=Y (Z K i)) (first|with_reducible exact hS|go_keep) ((go_at_call 76;(refine(HWR.o _).mono ?_);rintro e w2 ⟨rfl,S,m,hS⟩))
      all_goals
       have l:=L (And.intro S m);clear S m;go_wp2_with fail;go_ret;exact⟨N.o.trans ((((j.o.O2 _).A6 λ_ a0=>a0.elim).B8 l.o.1).B3 (G (ar q.o N.o.size)) λk e=>by omega),rfl,by rw[f.o];exact l.o.2⟩
    .have e2:¬(p:Int)<(s.size:Int):=by omega
     rw[zM (by omega),bw]at c;subst c;rw[if_neg (by omega),if_pos C]at B;subst B;clear g b u;go_wp2_with fail
     go_quiet (fail)
     go_wp2_with fail
     go_quiet (fail)
     go_wp2_with fail;go_ret;exact⟨N.o.trans ((j.o.O2 _).B3 (G (ar q.o N.o.size)) λk e=>e.elim),rfl,r2,o,x.o.C9 (j.o.O2 _)⟩
   .have e1:¬(k:Int)<(a.size:Int):=by omega
    rw[zM (by simp;omega),bw]at c;subst c;rw[if_neg (by omega),if_neg C]at B;subst B;have y:k=a.size:=by omega
    have f:=L (And.intro b y);clear g b u
    have u:=L (λ(z:Int)(hz:z=(p:Int))(X:World)(S:Keeps (λ_=>False) (wr.setCell ⟨h,2,U⟩ (Z K z)) X)(so:Int)(fl:Bool)(t:Tr)(hv:∀W,ValAt (λk=>o<=k) W (eV so fl 0 ⟨#[]⟩ (.slice U 0 0) (.slice U 0 0)) t)=>
     show _/\ae h w X from⟨nT X h s d p o r2 (((x.o.C9 j.o).B4 p z hz).C9 S) HB2.o so fl 0 ⟨#[]⟩ U 0 0 U 0 0 t (hv X),N.o.trans (((((j.o.A6 λ_ a0=>a0.elim:Keeps (λk=>k=h) w1 wr)).E9 2 (Z K z)).B9 S λ_ a0=>a0.elim).B3 (G (ar q.o N.o.size)) λk e=>by omega)⟩)
    rcases HW.o with rfl|rfl|rfl
    .go_wp2_with fail
     go_quiet (fail)
     go_wp2_with fail
     go_quiet (fail)
     go_wp2_with fail;refine(u.o ((i:Int)+4) (by have:=f.o;rw[<-this.1,this.2];rfl) _ (by exact(au (Q _ (wr.setCell _ _)) _).K8 rfl rfl rfl rfl) 1 I bc (λ_=>.null)).1.mono ?_;rintro e w5 ⟨rfl,g,b⟩;have l:=L (And.intro g b);clear g b;go_wp2_with fail;go_ret;exact⟨(u.o ((i:Int)+4) (by have:=f.o;rw[<-this.1,this.2];rfl) _ (by exact(au (Q _ (wr.setCell _ _)) _).K8 rfl rfl rfl rfl) 1 I bc (λ_=>.null)).2.trans l.o.1,rfl,by have m:=f.o.1;rw[f.o.2]at m;have m:i+4=p:=m;rw[m];exact l.o.2⟩
    .go_wp2_with fail
     go_quiet (fail)
     go_wp2_with fail
     go_quiet (fail)
     go_wp2_with fail;refine(u.o ((i:Int)+4) (by have:=f.o;rw[<-this.1,this.2];rfl) _ (by exact(au (Q _ (wr.setCell _ _)) _).K8 rfl rfl rfl rfl) 2 J (bj J) (λ_=>(bk J))).1.mono ?_;rintro e w5 ⟨rfl,g,b⟩;have l:=L (And.intro g b);clear g b;go_wp2_with fail;go_ret;exact⟨(u.o ((i:Int)+4) (by have:=f.o;rw[<-this.1,this.2];rfl) _ (by exact(au (Q _ (wr.setCell _ _)) _).K8 rfl rfl rfl rfl) 2 J (bj J) (λ_=>(bk J))).2.trans l.o.1,rfl,by have m:=f.o.1;rw[f.o.2]at m;have m:i+4=p:=m;rw[m];exact l.o.2⟩
    .go_wp2_with fail
     go_quiet (fail)
     go_wp2_with fail
     go_quiet (fail)
     go_wp2_with fail;refine(u.o ((i:Int)+5) (by have:=f.o;rw[<-this.1,this.2];rfl) _ (by exact(au (Q _ (wr.setCell _ _)) _).K8 rfl rfl rfl rfl) 2 I (bj I) (λ_=>(bk I))).1.mono ?_;rintro e w5 ⟨rfl,g,b⟩;have l:=L (And.intro g b);clear g b;go_wp2_with fail;go_ret;exact⟨(u.o ((i:Int)+5) (by have:=f.o;rw[<-this.1,this.2];rfl) _ (by exact(au (Q _ (wr.setCell _ _)) _).K8 rfl rfl rfl rfl) 2 I (bj I) (λ_=>(bk I))).2.trans l.o.1,rfl,by have m:=f.o.1;rw[f.o.2]at m;have m:i+5=p:=m;rw[m];exact l.o.2⟩
def Rr.M9(e:Bool)(r:Rr)(depth:Nat)(l:List UInt8):Ra:=r.I5 depth λr=>
 if(fJ l).2=I/\(fJ l).1<l.length then E 120 (fJ l).1
 else if(fJ l).2=I\/(fJ l).1=l.length/\e=I then az
 else match bitsOf (l.take (fJ l).1)with
  | none=>E 41 0
  | some b=>.on (fJ l).1 (r.C7 (ah (dY b)))
theorem aKe(w:World)(c:Nat)(s:ByteArray)(d i f:Nat)(r:Rr)(a0:aU w c s d i r f)(t:Bnd r d)(en:Bool)(hi:i<s.size)(hs:s.size<=16777216):
 aj ak 108 #[bu (Y ⟨c,0,U⟩),.bool en] w λe w'=>o6 w c s d i (r.M9 en d (s.data.toList.drop i)) e w':=by
 have z:=L (qZ w c s d i f r a0 (by omega) t.depth t.pile t.nodes);have a:c<w.heap.size:=by obtain⟨P,pcs,so,fl,bi,tx,a1,n1,m1,a2,n2,m2,hb,-⟩:=a0;exact cw hb
 have g:r.M9 en d (s.data.toList.drop i)=match r.D5 d with
  | .error no=>E no 0
  | .ok r=>if(fJ (s.data.toList.drop i)).2=I/\(fJ (s.data.toList.drop i)).1<(s.data.toList.drop i).length then E 120 (fJ (s.data.toList.drop i)).1 else if(fJ (s.data.toList.drop i)).2=I\/(fJ (s.data.toList.drop i)).1=(s.data.toList.drop i).length/\en=I then az else match bitsOf ((s.data.toList.drop i).take (fJ (s.data.toList.drop i)).1)with
   | none=>E 41 0
   | some b=>.on (fJ (s.data.toList.drop i)).1 (r.C7 (ah (dY b))):=by
  unfold Rr.M9 ao;cases r.D5 d<;>rfl
 rw[g];have x:=L a;clear g;have j:(s.data.toList.drop i).length=s.size-i:=by simp
 have F:(fJ (s.data.toList.drop i)).1<=s.size-i:=by rw[aCf,<-j];exact sX 0 _
 have HN:=L (λW=>aCw W s i hi (by omega));have v:=L (λm=>aEd (l:=s.data.toList.drop i) (m:=m));obtain⟨NN,q⟩:∃NN,fJ (s.data.toList.drop i)=NN:=⟨_,rfl⟩;rw[q]at HN F v;rw[q,j];obtain⟨n,wh⟩:=NN;simp only at HN F⊢;obtain⟨p,hp⟩:∃p,i+n=p:=⟨_,rfl⟩;rw[hp]at HN;cases y:r.D5 d with
 | error no=>
  rw[y]at z;clear a0 y a;go_enter func108,ntmps108;go_wp2_with fail;refine z.o.mono ?_;rintro e w1 ⟨A,rfl,g⟩;have o:=L (And.intro A g);clear A g;go_wp2_with fail;go_ret;exact⟨o.o.1.B3 (G x.o) λk e=>by omega,rfl,o.o.2⟩
 | ok u=>
  have B:=aAM t y;rw[y]at z
  obtain⟨R,h⟩:∃R,(if wh=I/\n<s.size-i then E 120 n else if wh=I\/n=s.size-i/\en=I then az else match bitsOf ((s.data.toList.drop i).take n)with
   | none=>E 41 0
   | some b=>.on n (u.C7 (ah (dY b))))=R:=⟨_,rfl⟩
  simp only[h];have HB2:=L B;have HX:=L hp;clear a0 y a t B q j;go_enter func108,ntmps108;go_wp2_with fail;refine z.o.mono ?_;rintro e w1 ⟨A,rfl,a⟩;have HK:=L (A.B3 (G x.o) λk e=>by omega);have y:=L a;obtain⟨c0,c2,-⟩:=a.F6;clear A a z;have q:=L (ar x.o HK.o.size);go_wp2_with fail
  go_region_held3 (λw'=>w'.cell? ⟨c,0,U⟩=Y (ag s)/\w'.cell? ⟨c,2,U⟩=Y (Z K i)) (go_keep) ((go_at_call 90;(refine(HN.o _).mono ?_);rintro e w2 ⟨rfl,rfl⟩))
  all_goals
   have B:=L (show ae c w w1.drew/\aU w1.drew c s d i u f from⟨mH HK.o,y.o.C9 (Q _ w1).A9⟩);rcases Bool.eq_false_or_eq_true wh with rfl|rfl
   .by_cases C:p=s.size/\en=I
    .obtain⟨C,rfl⟩:=C;rw[if_neg (by simp),if_pos (.inr ⟨by omega,rfl⟩)]at h;subst h
     go_wp2_with fail;go_ret;exact⟨B.o.1,rfl,u,f,B.o.2⟩
    .have HFR:=v.o n rfl
     have he:((p:Int)==(s.size:Int))=I\/(((p:Int)==(s.size:Int))=J/\en=J):=by
      by_cases a:p=s.size
      .cases en with
       | false=>exact absurd ⟨a,rfl⟩ C
       | true=>exact .inr ⟨by simp;omega,rfl⟩
      .exact bg (by simp;omega)
     rw [if_neg (by simp), if_neg (by rintro (a0 | a0); · cases a0
                                      .exact C ⟨by omega,a0.2⟩)]at h
     obtain⟨_,neg,W,P,a4,a⟩:=HFR;have z:s.extract i p=⟨((s.data.toList.drop i).take n).toArray⟩:=by rw[<-hp];exact rH
     have hpl:p<=s.size:=by omega
     have j:∀X,aj ak 91 #[ag (s.extract i p)] X λr w'=>r=bh (wP (bitsOf ((s.data.toList.drop i).take n)))/\ae X.heap.size X w':=λX=>by
      have:=aI1 (s.extract i p) X neg W P a4 (by rw[z];simpa using a) (by simp;omega);rw[z]at this⊢
      simpa using this
     have t:∀b,bitsOf ((s.data.toList.drop i).take n)=Y b->b<18446744073709551616:=λb hb=>by
      have:=lR hb;unfold gM aJ at this;omega
     obtain⟨a3,A⟩:∃a3,bitsOf ((s.data.toList.drop i).take n)=a3:=⟨_,rfl⟩;rw[A]at h j t;have N:=L j;have i1:(i:Int)<=(p:Int):=by omega
     have i2:(p:Int)<=(s.size:Int):=by omega
     clear j a A z C v;cases a3 with
     | none=>
      simp only at h;subst h;have z:=L (λX=>show aj ak 91 #[ag (s.extract i p)] X λr w'=>r=bh (bx #[Z .u64 0,.bool I])/\ae X.heap.size X w' from N.o X);rcases he with S|⟨S,rfl⟩
      all_goals
       go_wp2_with fail
       go_region_held3 (λw'=>w'.cell? ⟨c,0,U⟩=Y (ag s)/\w'.cell? ⟨c,2,U⟩=Y (Z K i)) (first|exact hS|go_keep) ((go_at_call 91;(refine(z.o _).mono ?_);rintro e A ⟨rfl,a⟩;have a:=dN (dN a);have hS:=And.intro (bB a c0) (bB a c2)))
       all_goals
        have j:=L (show ae c w A/\aU A c s d i u f from⟨HK.o.trans (a.mono (G q.o)),y.o.C9 (bz _ a)⟩);have v:=L (ar q.o a.size);clear a;go_wp2_with fail;refine(eI A c s d i f u j.o.2 (by omega) 41 i p).mono ?_;rintro e w5 ⟨rfl,hk5,g⟩;have o:=L (And.intro hk5 g);clear hk5 g;go_wp2_with fail;go_ret;exact⟨j.o.1.trans (o.o.1.B3 (G v.o) λk e=>by omega),rfl,by simpa using o.o.2⟩
     | some b=>
      simp only at h;subst h;have z:=L (λX=>show aj ak 91 #[ag (s.extract i p)] X λr w'=>r=bh (bx #[Z .u64 b,.bool J])/\ae X.heap.size X w' from N.o X);have HNM:=L (λX=>aI7 X b (t b rfl));clear t;rcases he with S|⟨S,rfl⟩
      all_goals
       go_wp2_with fail
       go_region_held3 (λw'=>w'.cell? ⟨c,0,U⟩=Y (ag s)/\w'.cell? ⟨c,2,U⟩=Y (Z K i)) (first|exact hS|go_keep) ((go_at_call 91;(refine(z.o _).mono ?_);rintro e A ⟨rfl,a⟩;have a:=dN (dN a);have hS:=And.intro (bB a c0) (bB a c2)))
       all_goals
        have j:=L (show ae c w A/\aU A c s d i u f from⟨HK.o.trans (a.mono (G q.o)),y.o.C9 (bz _ a)⟩);have v:=L (ar q.o a.size);obtain⟨-,-,cf4⟩:=j.o.2.F6;clear a hS;go_wp2_with fail;refine(HNM.o _).mono ?_;rintro e w5 ⟨rfl,a⟩;have HS5:=L (show ae c w w5 from(j.o.1.trans (((Q (λk=>k=c) A).E9 2 (Z K p)).B3 (G v.o) λk e=>by omega)).trans (a.mono (by simp[World.setCell];exact G v.o)));have HP:=L (nT w5 c s d p f u ((j.o.2.B4 p _ rfl).C9 (bz _ a)) HB2.o 3 I (dY b) ⟨#[]⟩ U 0 0 U 0 0 (ah (dY b)) (.num _));clear a;go_wp2_with fail;refine HP.o.mono ?_;rintro e w6 ⟨rfl,t,a⟩;have o:=L (And.intro t a);clear t a;go_wp2_with fail;go_ret;exact⟨HS5.o.trans o.o.1,rfl,by rw[HX.o];exact o.o.2⟩
   .by_cases C:p<s.size
    .rw[if_pos ⟨rfl,by omega⟩]at h;subst h;have S:(p:Int)<(s.size:Int):=by omega
     go_wp2_with fail;refine(eI w1.drew c s d i f u B.o.2 (by omega) 120 p p).mono ?_;rintro e j ⟨rfl,a,g⟩;have o:=L (And.intro a g);clear a g;go_wp2_with fail;go_ret;exact⟨B.o.1.trans (o.o.1.B3 (G q.o) λk e=>by omega),rfl,by rw[HX.o];exact o.o.2⟩
    .rw[if_neg (by omega),if_pos (bg rfl)]at h;subst h;have S:¬(p:Int)<(s.size:Int):=by omega
     go_wp2_with fail;go_ret;exact⟨B.o.1,rfl,u,f,B.o.2⟩
section
section
variable {p:Ps} {r:Rr} {d i:Nat}
theorem xJ(f:List Tr->List (List UInt8)->List Tr)(p:Ps)(b:p.lex.st=af)(d:p.lex.isIn=I)(h:p.lex.place<16777216)(c:UInt8)(g:aX c=J):p.B0 f c=V {p with lex:={p.lex with place:=p.lex.place+1},place:=p.place+1}:=by
 have a:p.lex.B4 c=⟨p.lex,[],0⟩:=by unfold av;rw[b];simp[aO,g]
 have e:¬p.lex.place=16777216:=by omega
 simp[dj,cg,e,a,cj,dl,d,pure,ck]
theorem aAl{x:Ps}{a:Lx}{tok:Tok}{c:UInt8}(h:x.lex.B0 c=(a,[tok],0,0))(hi:a.isIn=I):x.B0 po c=match aw po {x with lex:=a} tok with
 | .error e=>O e
 | .ok q=>V {q with place:=q.place+1}:=by
 unfold dj;simp only[h];rw[eO];cases aw po {x with lex:=a} tok with
 | error e=>rfl
 | ok q=>
  simp[Except.bind,cj,dl,hi,pure,ck]
theorem aHr{x q:Ps}{tok:Tok}(h:aw po x tok=V q):q.lex=x.lex/\q.place=x.place:=
 lL (toks:= [tok]) (by rw[eO,h];rfl)
theorem xK{x q:Ps}{j:Lx}{tok:Tok}{c:UInt8}(i:eY x)(h:x.lex.B0 c=(j,[tok],0,0))(hi:j.isIn=I)(g:j.st=af)(f:aw po {x with lex:=j} tok=V q)(a:Al q r d):
 x.B0 po c=V {q with place:=q.place+1}/\Alike {q with place:=q.place+1} r d j.place:=by
 have e:=aAl h hi;rw[f]at e;have b:=aHr f;exact⟨e,⟨a.depth,a.want,a.nodes,a.bytes,a.pile,a.items,a.low,a.top⟩,by show q.lex.place=_;rw[b.1],by show q.lex.st=_;rw[b.1];exact g,by show q.lex.isIn=_;rw[b.1];exact hi,i.B0 e⟩
theorem aC7{x:Ps}{b:Lx}{tok:Tok}{c:UInt8}{e:Nat×Nat}(h:x.lex.B0 c=(b,[tok],0,0))(hi:b.isIn=I)(a:aw po {x with lex:=b} tok=O e):x.B0 po c=O e:=by
 rw[aAl h hi,a]
def Steps(p:Ps)(d i:Nat)(l:List UInt8):Ra->Prop
 | .cut=>fin p l=O (95,i+l.length)
 | .bad no a=>fin p l=O (no,i+a)
 | .on n b=>1<=n/\n<=l.length/\∃p',Alike p' b d (i+n)/\fin p l=fin p' (l.drop n)
theorem aFa(k:Alike p r d i){c:UInt8}(t:List UInt8)(hb:aX c=I)(hc:bJ c=J)(hm:i<16777216):Steps p d i (c::t) (r.D3 d c):=by
 obtain⟨l,C⟩:∃l:Lx,({p.lex with isIn:=I,start:=i,raw:= [],number:=0,st:=af,place:=i+1}:Lx)=l:=⟨_,rfl⟩;have R:¬p.lex.place=16777216:=by rw[k.place];omega
 have h:p.lex.B0 c=(l,[.mark i c],0,0):=by
  have a:p.lex.B4 c=⟨{p.lex with isIn:=I,start:=i,raw:= [],number:=0,st:=af},[.mark i c],0⟩:=by
   unfold av;rw[k.st];simp only[aO,hb,hc,if_true,Lx.F3,k.place];rfl
  unfold cg;rw[if_neg R,a,<-C,k.place];rfl
 have w:l.isIn=I:=by rw[<-C]
 have S:l.st=af:=by rw[<-C]
 have W:l.place=i+1:=by rw[<-C]
 have m:Al {p with lex:=l} r d:=⟨k.al.depth,k.al.want,k.al.nodes,k.al.bytes,k.al.pile,k.al.items,k.al.low,k.al.top⟩;have F:cG {p with lex:=l} 0:=k.ps.P4 l
 have g:∀{q:Ps}{N:Rr},ai po {p with lex:=l} i c=V q->Al q N d->Steps p d i (c::t) (.on 1 N):=by
  intro q N a b;obtain⟨s,u⟩:=xK k.ok h w S a b;rw[W]at u;exact⟨T _,by simp,_,u,fR s⟩
 have x:∀{no:Nat},ai po {p with lex:=l} i c=O (no,i)->Steps p d i (c::t) (E no 0):=by
  intro no a;exact eP (aC7 h w a)
 have b:=m.D0 F i;have y:=m.S4 F.stand;unfold Rr.D3
 by_cases s:c=91\/c=123
 .rw[if_pos s];unfold ao;cases a:r.D5 d with
  | error no=>
   rw[a]at b;simp only at b⊢;refine x ?_;unfold ai;rcases s with rfl|rfl
   .rw[if_pos rfl,b];rfl
   .rw[if_neg (by decide),if_pos rfl,b];rfl
  | ok N=>
   rw[a]at b;simp only at b⊢;obtain⟨v,rfl,z,_⟩:=b;have j:=λo=>m.M0.M7 z (y z) o
   rcases s with rfl|rfl
   .exact g (by unfold ai;rw[if_pos rfl,v];rfl) (j I)
   .exact g (by unfold ai;rw[if_neg (by decide),if_pos rfl,v];rfl) (j J)
 .rw[if_neg s];have P:p.want=r.want:=k.al.want
  have a:ai po {p with lex:=l} i c=(if c=58/\p.want=4 then V {p with lex:=l,want:=0}else if c=44/\p.want=5 then V {p with lex:=l,want:=if iU p.pile then 3 else 0}else if dm {p with lex:=l} c then V (Ps.C5 po {p with lex:=l})else O (120,i)):=by
   unfold ai;rw[if_neg (λe=>s (bg e)),if_neg (λe=>s (.inr e))]
  by_cases u:c=58/\r.want=4
  .rw[if_pos u];exact g (a.trans (if_pos (by rw[P];exact u))) (m.L8 (n:=0) (by decide) (by omega) (bg (by rw[u.2];rfl)))
  .rw[if_neg u];rw[if_neg (by rw[P];exact u)]at a;have z:r.E5=iU p.pile:=k.al.E5
   by_cases j:c=44/\r.want=5
   .rw[if_pos (by rw[P];exact j)]at a;cases v:r.E5 with
    | true=>
     rw[if_pos ⟨j.1,j.2,rfl⟩];rw[<-z,v,if_pos rfl]at a;exact g a (m.L8 (n:=3) (by decide) (by omega) (bg (by rw[j.2];rfl)))
    | false=>
     rw[if_neg (λe=>by cases e.2.2)];have A:p.pile≠ []:=(k.ps.stand.N1).2.1 (by omega)
     have X:r.H5=J:=by
      unfold Rr.E5 at v;unfold Rr.H5;have B:=k.al.pile;rcases List.eq_nil_or_concat r.pile with e|⟨ini,f,e⟩
      .rw[e]at B;exact absurd B A
      .rw[List.concat_eq_append]at e;rw[e,cB]at v⊢;simp only at v⊢;rw[v];rfl
     rw[if_pos ⟨j.1,j.2,X⟩];rw[<-z,v,if_neg (by decide)]at a;exact g a (m.L8 (n:=0) (by decide) (by omega) (.inr v))
   .rw[if_neg (λe=>j ⟨e.1,e.2.1⟩),if_neg (λe=>j ⟨e.1,e.2.1⟩)];rw[if_neg (by rw[P];exact j)]at a;have A:=m.D9 F.stand c
    by_cases v:dm {p with lex:=l} c=J
    .rw[if_pos (A.1 v)];rw[if_pos v]at a;exact g a (m.I7 F v)
    .rw[if_neg (λe=>v (A.2 e))];rw[if_neg v]at a;exact x a
theorem aBf{x:Ps}(l:Al x r d)(hp:eY (x.C8 (aI H (i+1) i [] [] 0 0 0)))(t:List UInt8)(hl:i+1+t.length<=16777216)(hk:r.E6=I->r.want=0\/r.want=1):
 match r.J0 t with
  | .cut=>fin (x.C8 (aI H (i+1) i [] [] 0 0 0)) t=O (95,i+1+t.length)
  | .bad no a=>fin (x.C8 (aI H (i+1) i [] [] 0 0 0)) t=O (no,i+a)
  | .on n N=>1<=n/\n<=t.length+1/\∃p',Alike p' N d (i+n)/\fin (x.C8 (aI H (i+1) i [] [] 0 0 0)) t=fin p' (t.drop (n-1)):=by
 have F:=zT x i i (T _) t.length t [] 1 0 0 (T _) (T _) hl;unfold Rr.J0;cases v:eK [] 1 t with
 | cut=>rw[v]at F;exact aAR F
 | bad no a=>rw[v]at F;exact aFG F
 | ok y=>
  rw[v]at F;obtain⟨S,n⟩:=y;obtain⟨g1,g2,dg,cd,g3⟩:=F;simp only at g1 g2 g3⊢;obtain⟨k,rfl⟩:∃k,n=k+2:=⟨n-2,by omega⟩;have e0:i+(k+2)-1=i+k+1:=by omega
  rw[e0]at g3;have w:eY (x.C8 (aI H (i+k+1) i [] S dg cd 0)):=g3.2 hp
  have m:aT S=J:=by
   have:=(w.fine.text rfl).2.2;unfold aT
   show(aP [] S==Y [])=J
   have e:aP [] S=Y []:=this;rw[e];rfl
  rw[aEh g3];obtain⟨a0,hL⟩:∃a0:Lx,(⟨i+k+2,af,I,i,[],0,[],S,dg,cd,0⟩:Lx)=a0:=⟨_,rfl⟩
  have j:(x.C8 (aI H (i+k+1) i [] S dg cd 0)).lex.B0 34=(a0,[.str i (i+k+1+1-i) S],0,0):=by
   rw[<-hL];unfold cg;rw[if_neg (by show ¬i+k+1=16777216;omega)];rfl
  have P:a0.isIn=I:=by rw[<-hL]
  have hLo:a0.st=af:=by rw[<-hL]
  have hLp:a0.place=i+(k+2):=by rw[<-hL];rfl
  obtain⟨X,hX⟩:∃X:Ps,({x.C8 (aI H (i+k+1) i [] S dg cd 0)with lex:=a0}:Ps)=X:=⟨_,rfl⟩;have c:Al X r d:=by rw[<-hX];exact⟨l.depth,l.want,l.nodes,l.bytes,l.pile,l.items,l.low,l.top⟩
  have hXP:∀q,cG (x.C8 (aI H (i+k+1) i [] S dg cd 0)) q->cG X q:=λq a1=>by rw[<-hX];exact a1.P4 a0
  have z:=hXP _ w.ps;have hwX:X.want=r.want:=c.want;have R:X.bytes=r.bytes:=c.bytes;have o:aw po {x.C8 (aI H (i+k+1) i [] S dg cd 0)with lex:=a0} (.str i (i+k+1+1-i) S)=X.F7 i S:=by rw[hX];rfl
  have s:∀{q:Ps}{N:Rr},X.F7 i S=V q->Al q N d->1<=k+2/\k+2<=t.length+1/\∃p',Alike p' N d (i+(k+2))/\fin (x.C8 (aI H (i+k+1) i [] S dg cd 0)) (34::t.drop (k+2-1))=fin p' (t.drop (k+2-1)):=by
   intro q N f g;obtain⟨h,u⟩:=xK w j P hLo (o.trans f) g;rw[hLp]at u;exact⟨by omega,by omega,_,u,fR h⟩
  have A:∀{no:Nat},X.F7 i S=O (no,i)->fin (x.C8 (aI H (i+k+1) i [] S dg cd 0)) (34::t.drop (k+2-1))=O (no,i+0):=by
   intro no f;exact eP (aC7 j P (o.trans f))
  cases B:r.E6 with
  | false=>
   have hw:=hk B;rw[if_neg (by simp)]
   have g:cG X 1:=by
    have:bU (x.C8 (aI H (i+k+1) i [] S dg cd 0))=1:=by unfold bU;rw[if_pos ⟨rfl,by show x.want=0\/x.want=1;rw[l.want];exact hw⟩]
    rw[this]at z;exact z
   have f:X.F7 i S=(X.F4 S i).map λp=>co {p with items:=gC p.items S}:=by unfold dp;rw[if_pos (by omega)]
   unfold cr at f
   by_cases h:2097152<r.bytes+S.length
   .rw[if_pos h];rw[if_pos (by omega)]at f;exact A f
   .rw[if_neg h];rw[if_neg (by omega)]at f;simp only[bm,if_false];refine s f ?_;have u:cG {X with bytes:=X.bytes+S.length} 1:=⟨g.depth,g.room,g.nodes,by show X.bytes+S.length<=2097152;omega,g.cnt,by have:=g.byt;show jA X.items+fU X.pile<=X.bytes+S.length;omega,g.stand,g.keys,g.pend⟩;have C:Al {X with bytes:=X.bytes+S.length} {r with bytes:=r.bytes+S.length} d:=⟨c.depth,c.want,c.nodes,by show X.bytes+S.length=_;rw[R],c.pile,c.items,c.low,c.top⟩;have W:=c.S4 g.stand hw;have:=C.G0 u (t:=.text S) (b:=S.length) (by simp[ct]) (by have:=g.byt;show jA X.items+S.length+fU X.pile<=X.bytes+S.length;omega) W;have hpt:gC X.items S=aY X.items (.text S):=by unfold gC;rw[if_pos m]
    show Al (co {X with bytes:=X.bytes+S.length,items:=gC X.items S}) _ d
    rw[hpt];exact this
  | true=>
   have hw:r.want=2\/r.want=3:=by unfold cu at B;simpa using B
   have u:r.E5=J:=by rw[c.E5];exact(z.stand.N1).1 (by omega)
   have W:=c.D8 u;have f:X.F7 i S=(if S∈fO X.pile then O (101,i)else(cr {X with pile:=X.pile.dropLast++ [.object (fO X.pile++ [S])]} S i).map λp=>{p with want:=4}):=by unfold dp;rw[if_neg (by omega)]
   by_cases g:S∈r.D8
   .rw[if_pos ⟨rfl,g⟩];rw[if_pos (W▸g)]at f;exact A f
   .rw[if_neg (λe=>g e.2)];rw[if_neg (λe=>g (W.symm▸e))]at f;unfold cr at f;simp only at f
    by_cases h:2097152<r.bytes+S.length
    .rw[if_pos h];rw[if_pos (by omega)]at f;exact A f
    .rw[if_neg h];rw[if_neg (by omega)]at f;simp only[if_true];refine s f ?_;have C:Al {X with bytes:=X.bytes+S.length} {r with bytes:=r.bytes+S.length} d:=⟨c.depth,c.want,c.nodes,by show X.bytes+S.length=_;rw[R],c.pile,c.items,c.low,c.top⟩;exact C.L9 hw u S
theorem aBg{x:Lx}(a:x.st=af)(b:x.place=i):x.B4 34=⟨aI H i i [] [] 0 0 0,[],0⟩:=by
 unfold av;rw[a,<-b];rfl
theorem aFb(h:Alike p r d i)(t:List UInt8)(z:i+1+t.length<=16777216):Steps p d i (34::t) (r.F7 d t):=by
 have o:=aBg h.st h.place;unfold Rr.F7
 have b:∀{l:Rr}{x:Ps},Al x l d->(l.E6=I->l.want=0\/l.want=1)->p.B0 po 34=V (x.C8 (aI H (i+1) i [] [] 0 0 0))->Steps p d i (34::t) (l.J0 t):=by
  intro l x A s f;have:=aBf A (h.ok.B0 f) t z s;revert this;cases l.J0 t with
  | cut=>intro g;show fin p _=_;rw[fR f,g,D];congr 2;omega
  | bad no a=>intro g;show fin p _=_;rw[fR f,g]
  | on n q=>
   rintro⟨g1,u,p',B,y⟩;refine⟨g1,by rw[D];exact u,p',B,?_⟩;rw[fR f,y];obtain⟨k,rfl⟩:∃k,n=k+1:=⟨n-1,by omega⟩;rfl
 cases c:r.E6 with
 | true=>
  rw[if_pos rfl];have w:r.want=2\/r.want=3:=by unfold cu at c;simpa using c
  refine b h.al (λe=>by rw[c]at e;cases e) ?_;have v:=wW h o (by omega) rfl rfl;rw[v];unfold Ps.E2;rw[if_pos ⟨rfl,by show p.want=2\/p.want=3;rw[h.al.want];exact w⟩]
  show V _=V _
  congr 1
  show(⟨_,p.place+1,_,_,_,_,_,_⟩:Ps)=_
  rw[h.M4];rfl
 | false=>
  rw[if_neg (by simp)];have m:=h.E2 o (by omega) rfl rfl (λe=>by unfold cu at c;simp at c;omega);unfold ao;cases j:r.D5 d with
  | error no=>rw[j]at m;exact eP m
  | ok q=>
   rw[j]at m;obtain⟨b1,rfl,b3⟩:=m;exact b h.al.M0 (λ_=>b3) b1
theorem aC8:∀a b:List UInt8,alike a b<=a.length
 | [],[]=>T _
 | [],_::_=>T _
 | _::_,[]=>ba _
 | x::a,y::b=>by
  unfold alike;split
  .have:=aC8 a b;simp only[D];omega
  .exact ba _
theorem aAm:∀a b:List UInt8,alike a b<=b.length
 | [],[]=>T _
 | [],_::_=>ba _
 | _::_,[]=>T _
 | x::a,y::b=>by
  unfold alike;split
  .have:=aAm a b;simp only[D];omega
  .exact ba _
theorem aC9{c:UInt8}(h:aN c≠ []):∃a,aN c=c::a/\a≠ []/\aX c=I/\bJ c=I/\c≠34/\c≠45/\isD c=I:=by
 unfold aN at h;split at h
 .rename_i e;subst e;exact⟨[117,108,108],rfl,by simp,by decide,by decide,by decide,by decide,by decide⟩
 .split at h
  .rename_i e;subst e;exact⟨[114,117,101],rfl,by simp,by decide,by decide,by decide,by decide,by decide⟩
  .split at h
   .rename_i e;subst e;exact⟨[97,108,115,101],rfl,by simp,by decide,by decide,by decide,by decide,by decide⟩
   .exact absurd rfl h
theorem aFc(h:Alike p r d i){c:UInt8}(t:List UInt8)(v:aN c≠ [])(B:i+1+t.length<=16777216):Steps p d i (c::t) (r.N2 d (aN c) (c::t)):=by
 obtain⟨a,u,n,y,s,o,q,w⟩:=aC9 v
 have C:p.lex.B4 c=⟨jC i i [c] p.lex,[],0⟩:=by
  unfold av;rw[h.st];simp only[aO,y,s,o,q,w,bm,or_self,if_false,v,ne_eq,not_false_eq_true,if_true];rw[<-h.place]
 have g:=h.E2 C (by omega) rfl rfl (λe=>o e.1);unfold cz ao;cases k:r.D5 d with
 | error no=>rw[k]at g;exact eP g
 | ok P=>
  rw[k]at g;obtain⟨b1,rfl,b3⟩:=g;have b1:p.B0 po c=V (ac {p with nodes:=p.nodes+1} (jC (i+1) i [c] p.lex)):=b1;have j:=h.ok.B0 b1;have l:=zZ {p with nodes:=p.nodes+1} i p.lex (aN c) a [c] t (i+1) n (by simp) rfl u (by omega) B;rw[u]at l⊢;have N:alike (c::a) (c::t)=alike a t+1:=by show(if c=c then _ else _)=_;rw[if_pos rfl]
  rw[N];simp only[D];split at l
  .rename_i z;rw[if_pos (by omega)]
   show fin p _=_
   rw[fR b1,aFG l,show i+1+alike a t=i+(alike a t+1) by omega]
  .rename_i z;rw[if_neg (by omega)];split at l
   .rename_i x;rw[if_pos (by omega)]
    show fin p _=_
    rw[fR b1,aAR l];congr 2
    show i+1+t.length=i+(t.length+1)
    omega
   .rename_i x;rw[if_neg (by omega)];have S:=aC8 a t;have R:=aAm a t;have F:alike a t=a.length:=by omega
    rw[F];have m:=l.2 j;refine⟨by omega,by simp;omega,_,⟨?_,?_,rfl,rfl,m⟩,?_⟩
    .have f:cG (ac {p with nodes:=p.nodes+1} (jC (i+1) i [c] p.lex)) 1:=by
      have:=j.ps;have e:bU (ac {p with nodes:=p.nodes+1} (jC (i+1) i [c] p.lex))=1:=by unfold bU;rw[if_pos ⟨rfl,by show p.want=0\/p.want=1;rw[h.al.want];exact b3⟩]
      rwa[e]at this
     have A:=(h.al.M0).C8 (rS (i+1+a.length) i (c::a) p.lex);exact A.G0 (b:=0) ⟨f.depth,f.room,f.nodes,f.bytes,f.cnt,f.byt,f.stand,f.keys,f.pend⟩ (rK _) (by have:=f.byt;exact this) (h.al.S4 h.ps.stand b3)
    .show i+1+a.length=i+(a.length+1);omega
    .rw[fR b1,aEh l];rfl
theorem aBh(a0:Alike p r d i){c:UInt8}(t:List UInt8)(l:c=45\/isD c=J)(hl:i+1+t.length<=16777216):Steps p d i (c::t) (r.N9 d (c::t)):=by
 have v:aX c=I/\bJ c=I/\c≠34:=by
  rcases l with rfl|l
  .decide
  .have a:∀c:UInt8,isD c=J->aX c=I/\bJ c=I/\c≠34:=by
    intro c l;refine⟨?_,?_,?_⟩
    .cases w:aX c with
     | false=>rfl
     | true=>
      unfold aX at w;simp at w;rcases w with((rfl|rfl)|rfl)|rfl<;>cases l
    .cases w:bJ c with
     | false=>rfl
     | true=>
      unfold bJ at w;simp at w;rcases w with((((rfl|rfl)|rfl)|rfl)|rfl)|rfl<;>cases l
    .rintro rfl;cases l
   exact a c l
 obtain⟨w,hmk,W⟩:=v
 obtain⟨o,X⟩:∃o,aQ 0 c=Y o:=by
  rw[aID];rcases l with rfl|l
  .exact⟨1,rfl⟩
  .split
   .exact⟨_,rfl⟩
   .split
    .exact⟨_,rfl⟩
    .first|exact⟨_,rfl⟩|(rw[if_pos l];exact⟨_,rfl⟩)
 have hs:p.lex.B4 c=⟨gV i i [c] o p.lex,[],0⟩:=by
  unfold av;rw[a0.st];simp only[aO,w,hmk,W,bm,if_false,l,if_true,kO,X];rw[<-a0.place]
 have y:=a0.E2 hs (by omega) rfl rfl (λe=>W e.1);unfold Rr.N9 ao;cases A:r.D5 d with
 | error no=>rw[A]at y;exact eP y
 | ok r'=>
  rw[A]at y;obtain⟨b1,rfl,b3⟩:=y;have b1:p.B0 po c=V (ac {p with nodes:=p.nodes+1} (gV (i+1) i [c] o p.lex)):=b1;have B:=a0.ok.B0 b1;have hg:=aCy {p with nodes:=p.nodes+1} i p.lex t (i+1) o [c] (by omega) hl;simp only;rw[aCf,cK X];obtain⟨k,hk⟩:∃k,(bT o t).1=k:=⟨_,rfl⟩;obtain⟨m,C⟩:∃m,(bT o t).2=m:=⟨_,rfl⟩;have a:= @tP o t;have hle:=sX o t;rw[hk]at hle a;rw[C]at a;rw[hk,C]at hg;rw[hk,C];simp only[D];have hraw: [c]++t.take k=(c::t).take (k+1):=rfl;have F:=hg.2 B;have j:fin p (c::t)=fin (ac {p with nodes:=p.nodes+1} (gV (i+1+k) i ([c]++t.take k) m p.lex)) (t.drop k):=by rw[fR b1,aEh hg]
  cases n:bI m with
  | false=>
   by_cases h:k+1<t.length+1
   .rw[if_pos ⟨rfl,h⟩]
    show fin p _=_
    rw[j];cases f:t.drop k with
    | nil=>rw[dq]at f;omega
    | cons e u=>
     have z:=a f
     have g:(gV (i+1+k) i ([c]++t.take k) m p.lex).B4 e=⟨gV (i+1+k) i ([c]++t.take k) m p.lex,[],94⟩:=by
      show bV _ e=_
      unfold bV;rw[z];simp only;rw[n,if_neg (by decide)]
     rw[eP (eW _ g (show i+1+k<16777216 by omega) (by decide) (by decide))]
     show O (120,i+1+k)=O (120,i+(k+1))
     rw[show i+1+k=i+(k+1) by omega]
   .rw[if_neg (λe=>h e.2),if_pos rfl]
    show fin p _=_
    rw[j,dq.2 (by omega)];rw[aAR (jT _ rfl n)]
    show O (95,i+1+k+0)=O (95,i+(t.length+1))
    rw[show i+1+k+0=i+(t.length+1) by omega]
  | true=>
   rw[if_neg (λe=>by cases e.1),if_neg (by decide),<-hraw];cases g:bitsOf ([c]++t.take k)with
   | none=>
    show fin p _=_
    rw[j];obtain⟨g1,h⟩:=aGZ {p with nodes:=p.nodes+1} (P:=i+1+k) (s:=i) (x:=p.lex) n g;cases f:t.drop k with
    | nil=>unfold fin;exact g1
    | cons e u=>exact eP (h e (a f) (by have:(t.drop k).length=t.length-k:=bp;rw[f,D]at this;omega))
   | some b=>
    obtain⟨q,S⟩:∃q,co {(ac {p with nodes:=p.nodes+1} (fM (i+1+k) i ([c]++t.take k) m p.lex))with items:=iO p.items b}=q:=⟨_,rfl⟩
    have z:cG (ac {p with nodes:=p.nodes+1} (fM (i+1+k) i ([c]++t.take k) m p.lex)) 1:=by
     have:=B.ps;have e:bU (ac {p with nodes:=p.nodes+1} (gV (i+1) i [c] o p.lex))=1:=by unfold bU;rw[if_pos ⟨rfl,by show p.want=0\/p.want=1;rw[a0.al.want];exact b3⟩]
     rw[e]at this;exact⟨this.depth,this.room,this.nodes,this.bytes,this.cnt,this.byt,this.stand,this.keys,this.pend⟩
    have hsc:=z.G0 (t:=ah (dY b)) (b:=0) (by simp[ct]) (by have:=z.byt;omega)
    have hAl:Al q (Rr.C7 {r with nodes:=r.nodes+1} (ah (dY b))) d:=by
     rw[<-S];exact((a0.al.M0).C8 (fM (i+1+k) i ([c]++t.take k) m p.lex)).G0 z (b:=0) (by simp[ct]) (by have:=z.byt;exact this) (a0.al.S4 a0.ps.stand b3)
    have hqk:cG q 0:=by
     rw[<-S];have e:iO p.items b=p.items++ [ah (dY b)]:=hsc.1;rw[e];exact hsc.2
    have h:q.lex=fM (i+1+k) i ([c]++t.take k) m p.lex:=by rw[<-S];rfl
    have hqp:q.place=i+1+k:=by rw[<-S];rfl
    have N:eY q:=by
     have R:bU q=0:=by unfold bU;rw[h,if_neg (λe=>by cases e.1)]
     refine⟨by rw[R];exact hqk,?_,λe=>(by rw[h]at e;cases e),by rw[h,hqp]⟩;rw[h];exact gH rfl rfl (show i+1+k<=16777216 by omega) (show i<=i+1+k by omega) F.fine.number
    refine⟨by omega,by simp;omega,q,⟨hAl,by rw[h];show i+1+k=i+(k+1);omega,by rw[h],by rw[h],N⟩,?_⟩;rw[j,dt];cases f:t.drop k with
    | nil=>unfold fin;show bs po _=bs po q;rw[aKd _ n g,S]
    | cons e u=>
     have:=aI9 {p with nodes:=p.nodes+1} (P:=i+1+k) (s:=i) (x:=p.lex) n g (by have:(t.drop k).length=t.length-k:=bp;rw[f,D]at this;omega) (a f);have R:(ac {p with nodes:=p.nodes+1} (gV (i+1+k) i ([c]++t.take k) m p.lex)).B0 po e=q.B0 po e:=by rw[<-S];exact this
     unfold fin Ps.D7;rw[du,du,R]
theorem aAn(h:Alike p r d i)(c:UInt8)(t:List UInt8)(j:aX c=I)(f:i+1+t.length<=16777216):Steps p d i (c::t) (r.B4 d c t):=by
 unfold Rr.B4
 by_cases a:bJ c=J
 .rw[if_pos a];exact aFa h t j a (by omega)
 .rw[if_neg a]
  by_cases g:c=34
  .subst g;rw[if_pos rfl];exact aFb h t f
  .rw[if_neg g]
   by_cases e:aN c≠ []
   .rw[if_pos e];exact aFc h t e f
   .rw[if_neg e]
    by_cases b:c=45\/isD c=J
    .rw[if_pos b];exact aBh h t b f
    .rw[if_neg b];refine eP (h.U0 ?_ (by omega));unfold av;rw[h.st];have a:bJ c=I:=by simpa using a
     simp only[aO,j,a,g,b,e,bm,if_false,ne_eq];refine⟨?_,?_⟩<;>first|rfl|trivial
theorem qB(d:Nat):∀(N:Nat)(l:List UInt8)(p:Ps)(r:Rr)(i:Nat),l.length<=N->Alike p r d i->i+l.length<=16777216->oneOf (fin p l)=cv d r i l
 | _,[],p,r,i,_,h,_=>by
  rw[cv]
  have v:fin p []=if p.want≠6 then O (95,p.place)else V p:=by
   unfold fin
   show bs po p=_
   unfold bs;have y:p.lex.C6=(p.lex,[],0,0):=by unfold Lx.C6;rw[if_pos h.isIn]
   simp[y,cj,pure,ck]
  rw[v];have B:=h.al.want
  by_cases m:r.want=6
  .rw[if_neg (by omega),if_pos m];obtain⟨j,_⟩:=(h.ps.stand.N1).2.2.2 (by omega);have hi:=h.al.items;have e:=h.al.pile;rw[if_pos m]at hi;have:r.pile= []:=by rw[j]at e;exact List.map_eq_nil_iff.1 e.symm
   rw[this]at hi
   show V (p.items.headD bc)=_
   rw[hi];rfl
  .rw[if_pos (by omega),if_neg m,h.M4];rfl
 | 0,_::_,_,_,_,h,_,_=>by simp at h
 | N+1,c::t,p,r,i,z,h,w=>by
  rw[D]at z w;rw[cv]
  by_cases g:aX c=J
  .rw[if_pos g];have f:=xJ po p h.st h.isIn (by rw[h.place];omega) c g
   have o:Alike {p with lex:={p.lex with place:=p.lex.place+1},place:=p.place+1} r d (i+1):=
    ⟨⟨h.al.depth,h.al.want,h.al.nodes,h.al.bytes,h.al.pile,h.al.items,h.al.low,h.al.top⟩,by show p.lex.place+1=_;rw[h.place],h.st,h.isIn,h.ok.B0 f⟩
   rw[fR f];exact qB d N t _ r (i+1) (by omega) o (by omega)
  .rw[if_neg g];have b:=aAn h c t (by simpa using g) (by omega);revert b;cases r.B4 d c t with
   | cut=>intro b;have b:fin p (c::t)=O (95,i+(t.length+1)):=b;rw[b];rfl
   | bad no a=>intro b;have b:fin p (c::t)=O (no,i+a):=b;rw[b];rfl
   | on n q=>
    rintro⟨A,s,p',x,u⟩;rw[u];obtain⟨k,rfl⟩:∃k,n=k+1:=⟨n-1,by omega⟩;rw[D]at s;rw[dt];exact qB d N (t.drop k) p' q (i+(k+1)) (by rw[bp];omega) x (by rw[bp];omega)
theorem tB(b:d<=512):Alike (Ps.I0 d) ⟨0,[],0,0,bc⟩ d 0:=
 ⟨⟨rfl,rfl,rfl,rfl,rfl,rfl,λf a=>by simp at a,λf a=>by simp at a⟩,rfl,rfl,rfl,oQ d b⟩
theorem aJs{l:List UInt8}(a:d<=512)(b:l.length<=16777216):jW l d=lH l d:=by
 have:=qB d l.length l (Ps.I0 d) ⟨0,[],0,0,bc⟩ 0 (T _) (tB a) (by omega);exact this
end
end
end Go.Proofs.YtakkmiomhackiaaGreatDoor
