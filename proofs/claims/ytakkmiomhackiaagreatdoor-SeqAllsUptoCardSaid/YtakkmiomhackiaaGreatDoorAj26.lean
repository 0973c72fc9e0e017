/-
  The program, one part of its walk. Conditions: none.
-/
import Derived.Test.YtakkmiomhackiaaGreatDoorAj10
set_option linter.all false
set_option maxRecDepth 100000
set_option maxHeartbeats 16000000
open Go.Proofs.Tryz
open Bool renaming false->I,true->O
open Go renaming World->V,results->G
open Go.Proofs.Tryz renaming results90->E
open List renaming takeWhile_sublist->af
open Or renaming inl->S,inr->J
namespace Go.Proofs.YtakkmiomhackiaaGreatDoor
open Go.RowKit
open Ending renaming returned->ae
open IntKind renaming i64->N
open Value renaming bool->Z,int->U,tuple->Y
def yR(k n:Nat)(l:Oo):jA (k+n) l=(k+(jA n l).1,(jA n l).2):=by
 cases l with
 | nil=>rfl
 | cons c t=>
  unfold jA;simp only;by_cases h:c=101\/c=69
  .rw[pz h,pz h];by_cases a:bR (t.drop (iC t))=O
   .rw[pz a,pz a];simp only[fo]
   .rw[py a,py a];simp only[fo]
  .rw[py h,py h]
def s7(k n:Nat)(l:Oo):dP (k+n) l=(k+(dP n l).1,(dP n l).2):=by
 cases l with
 | nil=>rfl
 | cons c t=>
  unfold dP;simp only;by_cases h:c=46
  .rw[pz h,pz h];by_cases a:bR t=O
   .rw[pz a,pz a,<-yR];simp only[fo]
   .rw[py a,py a];simp only[fo]
  .rw[py h,py h,yR]
def s8(k n:Nat)(l:Oo):dQ (k+n) l=(k+(dQ n l).1,(dQ n l).2):=by
 cases l with
 | nil=>rfl
 | cons c t=>
  unfold dQ;simp only;by_cases h:isD c=O
  .rw[pz h,pz h];by_cases a:c=48
   .rw[pz a,pz a,fo,s7]
   .rw[py a,py a,fo,s7]
  .rw[py h,py h]
section
variable {s:ByteArray} {i:Nat}
def aJ4(h:i<s.size)(a:s[i]=45):(i+(dB (s.data.toList.drop i)).1,(dB (s.data.toList.drop i)).2)=dQ (i+1) (s.data.toList.drop (i+1)):=by
 rw[s8,bA h,a];rfl
def aHV(h:i<s.size)(a:s[i]≠45):(i+(dB (s.data.toList.drop i)).1,(dB (s.data.toList.drop i)).2)=dQ i (s.data.toList.drop i):=by
 have:=s8 i 0 (s.data.toList.drop i);rw[Nat.add_zero]at this;rw[this,bA h];unfold dB;simp only;rw[py a]
def aJ5(h:bR (s.data.toList.drop i)=I)(n:Nat):dQ n (s.data.toList.drop i)=(n,I):=by
 by_cases hi:i<s.size
 .rw[bA hi]at h⊢;have h:isD s[i]=I:=h;unfold dQ;simp only;rw[py (by rw[h];decide)]
 .rw[cY hi];rfl
def aFm(h:i<s.size)(a:s[i]=48)(n:Nat):dQ n (s.data.toList.drop i)=dP (n+1) (s.data.toList.drop (i+1)):=by
 rw[bA h,a];rfl
def aFn(h:i<s.size)(a:bR (s.data.toList.drop i)=O)(b:s[i]≠48)(n:Nat):dQ n (s.data.toList.drop i)=dP (n+over (s.data.toList.drop i)) (s.data.toList.drop (i+over (s.data.toList.drop i))):=by
 rw[<-lr,bA h]at*;have a:isD s[i]=O:=a;unfold dQ;simp only;rw[pz a,py b]
def aDu(h:∀h:i<s.size,s[i]≠46)(n:Nat):dP n (s.data.toList.drop i)=jA n (s.data.toList.drop i):=by
 by_cases hi:i<s.size
 .rw[bA hi];unfold dP;simp only;rw[py (h hi)]
 .rw[cY hi];rfl
def aHW(h:i<s.size)(a:s[i]=46)(b:bR (s.data.toList.drop (i+1))=I)(n:Nat):dP n (s.data.toList.drop i)=(n+1,I):=by
 rw[bA h,a];unfold dP;simp only;rw[pz trivial,py (by rw[b];decide)]
def aHX(h:i<s.size)(a:s[i]=46)(b:bR (s.data.toList.drop (i+1))=O)(n:Nat):dP n (s.data.toList.drop i)=jA (n+1+over (s.data.toList.drop (i+1))) (s.data.toList.drop (i+1+over (s.data.toList.drop (i+1)))):=by
 rw[<-lr (i:=over (s.data.toList.drop (i+1))),bA h,a];unfold dP;simp only;rw[pz trivial,pz b]
def aJ6(h:∀h:i<s.size,s[i]≠101/\s[i]≠69)(n:Nat):jA n (s.data.toList.drop i)=(n,O):=by
 by_cases hi:i<s.size
 .rw[bA hi];unfold jA;simp only;rw[py (by rintro(e|e);exact(h hi).1 e;exact(h hi).2 e)]
 .rw[cY hi];rfl
def aLr(h:i<s.size)(c:s[i]=101\/s[i]=69){k:Nat}(b:iC (s.data.toList.drop (i+1))=k)(a:bR (s.data.toList.drop (i+1+k))=I)(n:Nat):jA n (s.data.toList.drop i)=(n+1+k,I):=by
 rw[<-lr]at a;rw[bA h];unfold jA;simp only;rw[pz c,b,py (by rw[a];decide)]
def aLs(h:i<s.size)(c:s[i]=101\/s[i]=69){k:Nat}(b:iC (s.data.toList.drop (i+1))=k)(a:bR (s.data.toList.drop (i+1+k))=O)(n:Nat):jA n (s.data.toList.drop i)=(n+1+k+over (s.data.toList.drop (i+1+k)),O):=by
 rw[<-lr]at a⊢;rw[bA h];unfold jA;simp only;rw[pz c,b,pz a]
def aJ7(h:∀h:i<s.size,s[i]≠43/\s[i]≠45):iC (s.data.toList.drop i)=0:=by
 by_cases hi:i<s.size
 .rw[bA hi];unfold iC;simp only;rw[py (by rintro(e|e);exact(h hi).1 e;exact(h hi).2 e)]
 .rw[cY hi];rfl
def aGO(h:i<s.size)(a:s[i]=43\/s[i]=45):iC (s.data.toList.drop i)=1:=by
 rw[bA h];unfold iC;simp only;rw[pz a]
end
def ne2{c:UInt8}{k:UInt8}(h:c≠k):¬(c.toNat:Int)=(k.toNat:Int)/\((c.toNat:Int)==(k.toNat:Int))=I:=by
 have:¬(c.toNat:Int)=(k.toNat:Int):=λe=>h (kb (by omega));exact⟨this,by simpa using this⟩
def aJ8(s:ByteArray)(q:Nat)(e:s.size<=2147483648)(d:q<=s.size):∃k,iC (s.data.toList.drop q)=k/\q+k<=s.size/\
 ((¬ (q : Int) < (s.size : Int) /\ k = 0) \/ (∃ h : q < s.size, (q : Int) < (s.size : Int) /\ ((k = 0 /\ (¬ ((s[q].toNat : Nat) : Int) = 43 /\ (((s[q].toNat : Nat) : Int) == 43) = I) /\ (¬ ((s[q].toNat : Nat) : Int) = 45 /\ (((s[q].toNat : Nat) : Int) == 45) = I)) \/
   (k=1/\((s[q].toNat:Nat):Int)=43)\/(k=1/\(¬((s[q].toNat:Nat):Int)=43/\(((s[q].toNat:Nat):Int)==43)=I)/\((s[q].toNat:Nat):Int)=45)))):=by
 by_cases h:q<s.size
 .by_cases a:s[q]=43
  .exact⟨1,aGO h (S a),by omega,J ⟨h,by omega,J (S ⟨rfl,by rw[a];rfl⟩)⟩⟩
  .by_cases b:s[q]=45
   .exact⟨1,aGO h (J b),by omega,J ⟨h,by omega,J (J ⟨rfl,ne2 (k:=43) a,by rw[b];rfl⟩)⟩⟩
   .exact⟨0,aJ7 λ_=>⟨a,b⟩,by omega,J ⟨h,by omega,S ⟨rfl,ne2 (k:=43) a,ne2 (k:=45) b⟩⟩⟩
 .exact⟨0,aJ7 λc=>absurd c h,by omega,S ⟨by omega,rfl⟩⟩
def vK(w:V)(s:ByteArray)(i:Nat)(hi:i<s.size)(hs:s.size<=2147483648):Calls prog 90 #[s,i] w λe w'=>
 e=ae (Y #[U N ((i+(dB (s.data.toList.drop i)).1:Nat):Int),Z (dB (s.data.toList.drop i)).2])/\w'=w:=by
 have L:=A (λ(W:V)(k:Nat)=>qO W s k);have R:=A (λ(W:V)(k:Nat)(n:k<=s.size)=>aHq W s k n hs);have h4:(i:Int)<(s.size:Int):=by omega
 obtain⟨T,B,x⟩:∃T B,(i+(dB (s.data.toList.drop i)).1,(dB (s.data.toList.drop i)).2)=(T,B):=⟨_,_,rfl⟩
 have hw:(s[i]=45/\dQ (i+1) (s.data.toList.drop (i+1))=(T,B))\/(s[i]≠45/\dQ i (s.data.toList.drop i)=(T,B)):=by
  by_cases d:s[i]=45
  .exact S ⟨d,by rw[<-aJ4 hi d];exact x⟩
  .exact J ⟨d,by rw[<-aHV hi d];exact x⟩
 injection x with a b;rw[a,b];clear a b;have g4:=A (λq(t:q<=s.size)=>aJ8 s q hs t);rcases hw with⟨f,y⟩|⟨f,y⟩
 case' inl=>
  obtain⟨p,a⟩:∃p,i+1=p:=⟨_,rfl⟩;rw[a]at y;have l:=A y;have j:((s[i].toNat:Nat):Int)=45:=by rw[f];rfl
  have h:N.wrap ((i:Int)+1)=(p:Int):=by rw[b9];omega
  have z:p<=s.size:=by omega
  clear y f a;go_enter func90,ntmps90;go_wp2_with fail;clear j h
 case' inr=>
  have l:=A y;obtain⟨j,h⟩:=ne2 (k:=45) f;have j:¬((s[i].toNat:Nat):Int)=45:=j;have h:(((s[i].toNat:Nat):Int)==45)=I:=h;have z:i<=s.size:=by omega
  clear y f;go_enter func90,ntmps90;go_wp2_with fail;obtain⟨p,rfl⟩:∃p,p=i:=⟨i,rfl⟩;clear j h
 all_goals
  refine(L.o w p).mono ?_;rintro r w1 ⟨rfl,rfl⟩;cases c:bR (s.data.toList.drop p)with
  | false=>
   have e:=l.o;rw[aJ5 c]at e;injection e with g o;subst g o;clear c;go_wp2_with fail;exact bb (v:=Y #[U N (p:Int),Z I]) (by simp[G,E,go_sem]) rfl ⟨rfl,rfl⟩
  | true=>
   have C:=(aER c).1;have h5:(p:Int)<(s.size:Int):=by omega
   have t:(s[p]=48/\∃q,p+1=q/\q<=s.size/\dP q (s.data.toList.drop q)=(T,B))\/(s[p]≠48/\∃q,p+over (s.data.toList.drop p)=q/\q<=s.size/\dP q (s.data.toList.drop q)=(T,B)):=by
    by_cases a:s[p]=48
    .exact S ⟨a,_,rfl,by omega,by rw[<-aFm C a];exact l.o⟩
    .refine J ⟨a,_,rfl,?_,by rw[<-aFn C c a];exact l.o⟩;have:over (s.data.toList.drop p)<=(s.data.toList.drop p).length:=(by unfold over;exact(af _).length_le);rw[ea,show s.data.toList.length=s.size by simp]at this;omega
   clear c l;rcases t with⟨a,q,t,g5,D⟩|⟨a,q,t,g5,D⟩
   case' inl=>
    have j:((s[p].toNat:Nat):Int)=48:=(by rw[a];rfl);have h:N.wrap ((p:Int)+1)=(q:Int):=(by rw[b9];omega);have m:=A D;clear D t a
   case' inr=>
    obtain⟨j,h⟩:=ne2 (k:=48) a;have h:(((s[p].toNat:Nat):Int)==48)=I:=h;have m:=A D;have c:=A (show ∀W:V,Calls prog 119 #[s,U N p] W λe w'=>e=ae (U N (q:Int))/\w'=W from λW=>by have:=R.o W p z;rw[t]at this;exact this);clear D t a;go_wp2_with fail;refine(c.o _).mono ?_;rintro r w2 ⟨rfl,rfl⟩;clear h
   all_goals
    have g6:s.data.toList.length=s.size:=by simp
    have c:∀k,k<=s.size->k+over (s.data.toList.drop k)<=s.size:=λk n=>by
     have:over (s.data.toList.drop k)<=(s.data.toList.drop k).length:=(by unfold over;exact(af _).length_le);rw[ea,g6]at this;omega
    have g7:(∃d:q<s.size,((s[q].toNat:Nat):Int)=46/\bR (s.data.toList.drop (q+1))=I/\(q+1,I)=(T,B))\/
     (∃d:q<s.size,∃r,((s[q].toNat:Nat):Int)=46/\bR (s.data.toList.drop (q+1))=O/\q+1+over (s.data.toList.drop (q+1))=r/\jA r (s.data.toList.drop r)=(T,B))\/
     ((¬(q:Int)<(s.size:Int)\/((q:Int)<(s.size:Int)/\∃d:q<s.size,¬((s[q].toNat:Nat):Int)=46/\(((s[q].toNat:Nat):Int)==46)=I))/\jA q (s.data.toList.drop q)=(T,B)):=by
     by_cases d:q<s.size
     .by_cases b:s[q]=46
      .cases l:bR (s.data.toList.drop (q+1))with
       | false=>exact S ⟨d,by rw[b];rfl,rfl,by rw[<-aHW d b l];exact m.o⟩
       | true=>exact J (S ⟨d,_,by rw[b];rfl,rfl,rfl,by rw[<-aHX d b l];exact m.o⟩)
      .exact J (J ⟨J ⟨by omega,d,ne2 (k:=46) b⟩,by rw[<-aDu λ_=>b];exact m.o⟩)
     .exact J (J ⟨S (by omega),by rw[<-aDu λh'=>absurd h' d];exact m.o⟩)
    clear m;have g8:=A c;clear c;rcases g7 with⟨h6,t1,c,P⟩|⟨h7,r,t1,c,Q,F⟩|⟨hn,F⟩
    all_goals
     first
     | (have t2:(q:Int)<(s.size:Int):=by omega
        have t3:N.wrap ((q:Int)+1)=((q+1:Nat):Int):=(by rw[b9];omega);injection P with g o
        obtain⟨h,j⟩:∃h,q+1=h:=⟨_,rfl⟩;rw[j]at g c t3;subst g o;have m:=A (λW:V=>L.o W h);rw[c]at m;clear c j;go_wp2_with fail;refine(m.o _).mono ?_;rintro r w3 ⟨rfl,rfl⟩;go_wp2_with fail;exact bb (v:=Y #[U N (h:Int),Z I]) (by simp[G,E,go_sem]) rfl ⟨rfl,rfl⟩)
     | (have t2:(q:Int)<(s.size:Int):=by omega
        have t3:N.wrap ((q:Int)+1)=((q+1:Nat):Int):=(by rw[b9];omega);obtain⟨h,j⟩:∃h,q+1=h:=⟨_,rfl⟩;rw[j]at c t3 Q;have h0:r<=s.size:=by rw[<-Q];exact g8.o h (by omega)
        have m:=A (λW:V=>L.o W h);rw[c]at m;have g9:=A (show ∀W:V,Calls prog 119 #[s,U N h] W λe w'=>e=ae (U N (r:Int))/\w'=W from λW=>by have:=R.o W h (by omega);rw[Q]at this;exact this);have z:=A F;clear c j Q F;go_wp2_with fail;refine(m.o _).mono ?_;rintro Q w3 ⟨rfl,rfl⟩;go_wp2_with fail;refine(g9.o _).mono ?_;rintro Q j ⟨rfl,rfl⟩)
     | (have z:=A F;clear F;obtain⟨r,rfl⟩:∃r,r=q:=⟨q,rfl⟩;rcases hn with hn|⟨h,j,-,F⟩)
    all_goals
     have g9:((¬(r:Int)<(s.size:Int)\/((r:Int)<(s.size:Int)/\∃d:r<s.size,(¬((s[r].toNat:Nat):Int)=101/\(((s[r].toNat:Nat):Int)==101)=I)/\(¬((s[r].toNat:Nat):Int)=69/\(((s[r].toNat:Nat):Int)==69)=I)))/\(r,O)=(T,B))\/
      (∃d:r<s.size,(((s[r].toNat:Nat):Int)=101\/((¬((s[r].toNat:Nat):Int)=101/\(((s[r].toNat:Nat):Int)==101)=I)/\((s[r].toNat:Nat):Int)=69))/\
       ∀k,iC (s.data.toList.drop (r+1))=k->(bR (s.data.toList.drop (r+1+k))=I->(r+1+k,I)=(T,B))/\(bR (s.data.toList.drop (r+1+k))=O->(r+1+k+over (s.data.toList.drop (r+1+k)),O)=(T,B))):=by
      by_cases d:r<s.size
      .by_cases b:s[r]=101\/s[r]=69
       .refine J ⟨d,?_,λk n=>⟨λl=>by rw[<-aLr d b n l];exact z.o,λl=>by rw[<-aLs d b n l];exact z.o⟩⟩;by_cases l:s[r]=101
        .exact S (by rw[l];rfl)
        .exact J ⟨ne2 (k:=101) l,by rw[b.resolve_left l];rfl⟩
       .exact S ⟨J ⟨by omega,d,ne2 (k:=101) (λe=>b (S e)),ne2 (k:=69) (λe=>b (J e))⟩,by rw[<-aJ6 λ_=>⟨λe=>b (S e),λe=>b (J e)⟩];exact z.o⟩
      .exact S ⟨S (by omega),by rw[<-aJ6 λh'=>absurd h' d];exact z.o⟩
     clear z;rcases g9 with⟨hx,P⟩|⟨hx,hc,n⟩
     all_goals
      first
      | (have b := P
         injection P with g o;subst g o;clear b;rcases hx with x1|⟨x1,x2,⟨-,x4⟩,-,b⟩
         all_goals
          first
          | (exfalso;omega)
          | (go_wp2_with fail
             exact bb (v:=Y #[U N (r:Int),Z O]) (by simp[G,E,go_sem]) rfl ⟨rfl,rfl⟩))
      | (exfalso;omega)
      | (have x1 : (r : Int) < (s.size : Int) := by omega
         obtain⟨b,h⟩:∃b,r+1=b:=⟨_,rfl⟩;have x2:N.wrap ((r:Int)+1)=(b:Int):=(by rw[b9];omega);obtain⟨k,j,l,h0⟩:=g4.o b (by omega);rw[h]at n;obtain⟨f1,f2⟩:=n k j;obtain⟨u,hu⟩:∃u,b+k=u:=⟨_,rfl⟩;rw[hu]at f1 f2 l;have x3:k=1->N.wrap ((b:Int)+1)=(u:Int):=λd=>(by rw[b9];omega);have m:=A (λW:V=>L.o W u);have z:=A (λW:V=>R.o W u l);have F1:=A f1;have F2:=A f2;clear n j f1 f2 h;rcases hc with y1|⟨⟨y1,y2⟩,y3⟩
         all_goals
          rcases h0 with⟨z1,h⟩|⟨z0,z1,⟨h,⟨n,z4⟩,z5,z6⟩|⟨h,n⟩|⟨h,⟨n,z4⟩,z5⟩⟩
          all_goals
           try have x4:=x3 h
           try (have j : u = b := by omega
                subst j)
           clear x3 hu h;cases c:bR (s.data.toList.drop u)with
           | false=>
            have e:=F1.o c;rw[c]at m;injection e with g o;subst g o;clear c F1 F2;go_wp2_with fail;refine(m.o _).mono ?_;rintro Q h ⟨rfl,rfl⟩;go_wp2_with fail;exact bb (v:=Y #[U N (u:Int),Z I]) (by simp[G,E,go_sem]) rfl ⟨rfl,rfl⟩
           | true=>
            have e:=F2.o c;rw[c]at m;injection e with g o
            rw[g]at z;subst o;clear c F1 F2 g;go_wp2_with fail;refine(m.o _).mono ?_;rintro Q h ⟨rfl,rfl⟩;go_wp2_with fail;refine(z.o _).mono ?_;rintro Q c ⟨rfl,rfl⟩;go_wp2_with fail;exact bb (v:=Y #[U N (T:Int),Z O]) (by simp[G,E,go_sem]) rfl ⟨rfl,rfl⟩)
