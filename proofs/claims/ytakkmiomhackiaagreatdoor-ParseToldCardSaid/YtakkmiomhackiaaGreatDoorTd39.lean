/-
  The program, one part of its walk. Conditions: none.
-/
import Derived.Test.YtakkmiomhackiaaGreatDoorTd34
import Derived.Test.YtakkmiomhackiaaGreatDoorTd38
set_option linter.all false
set_option maxRecDepth 100000
set_option maxHeartbeats 16000000
open Go.Proofs.Tryz
open Bool renaming false->S,true->X
open Except renaming error->bj
open Go renaming Calls->ag,World->V,bodyPost_ret->av,heap_alloc_new->bu,results->aw
open Go.Ending renaming returned->ae
open Go.Instr renaming typeAssert->ar
open Go.IntKind renaming i32->co,i64->J,u64->au,u8->aj,wrap_i32->cr,wrap_i64->bc,wrap_u8->ck
open Go.Obj renaming cells->Z
open Go.Proofs.Tryz renaming func155->bg,ntmps155->bh,prog->Y,results155->az
open Go.Proofs.YtakkmiomhackiaaGreatDoor.Keeps renaming A1->cg,A3->bx
open Go.Result renaming ok->ah
open Go.RowKit renaming Below->ba
open Go.RowKit.Below renaming refl->ak
open Go.Value renaming agg->U,bool->N,iface->H,int->I,nilIface->bs,pointer->ao,slice->bw,string->O,tuple->E
open List renaming mem_cons_of_mem->bk,mem_cons_self->bm
open Nat renaming add_assoc->bz,le_refl->D,le_trans->bp
open Option renaming none->ac,some->K
open Or renaming inl->ai,inr->af
open UInt8.toNat renaming inj->cj
namespace Go.Proofs.YtakkmiomhackiaaGreatDoor
open Go.RowKit
theorem aIx(w:V)(s:ByteArray)(a:Nat)(c:a<s.size)(f:s.size<=2147483648)(b:¬a+1<s.size):ag Y 155 #[O s,I J a] w λe w'=>
 e=ae (gQ a (lX (s.data.toList.drop (a+1))))/\ba w.heap.size w w':=by
 have d:J.wrap ((a:Int)+1)=((a+1:Nat):Int):=by rw[bc];omega
 rw[dA b];go_enter bg,bh;go_wp2_with fail;exact av (v:=gQ a .cut) (by simp[aw,az,go_sem,gQ]) rfl ⟨rfl,(ak _ _).alloc (D _) _⟩
theorem aIy(w:V)(s:ByteArray)(c:Nat)(F:s.size<=2147483648)(G:c+1<s.size)(a:s[c+1]≠117):ag Y 155 #[O s,I J c] w λe w'=>
 e=ae (gQ c (lX (s.data.toList.drop (c+1))))/\ba w.heap.size w w':=by
 obtain⟨p,d⟩:∃p,c+1=p:=⟨_,rfl⟩;have a:s[p]'(by omega)≠117:=by subst d;exact a
 rw[d];have k:p<s.size:=by omega
 have Q:J.wrap ((c:Int)+1)=(p:Int):=by rw[bc];omega
 have R:¬(s.size:Int)<=(p:Int):=by omega
 have T:(p:Int)<(s.size:Int):=by omega
 rw[aZ k,lX,if_neg a];have h:=L (λW=>aB8 W s[p]);have l:M (∀W:V,ag Y 156 #[I J 92,I J p] W λe w'=>e=ae (U #[O ⟨#[]⟩,I J 0,I J 92,I J (p:Int),N S])/\ba W.heap.size W w'):=λW=>l0 W 92 p
 have e1:(((s[p].toNat:Nat):Int)!=117)=X:=by
  have:s[p].toNat≠117:=λe=>a (cj e)
  simp;omega
 have m:=L d;have g:(w.alloc (Z #[O ⟨#[]⟩,I J 0,I J 0,I J 0,N S] 200)).heap[w.heap.size]?=K (Z #[O ⟨#[]⟩,I J 0,I J 0,I J 0,N S] 200 (0,0)):=bu w _;have i:=(ak w.heap.size w).alloc (D _) (Z #[O ⟨#[]⟩,I J 0,I J 0,I J 0,N S] 200);clear a d;cases j:cO s[p]with
 | none=>
  have d:gK s[p]= -1:=by rw[gK,j]
  rw[d]at h;clear j d;go_enter bg,bh;go_wp2_with fail;refine(h.o _).mono ?_;rintro e w2 ⟨rfl,rfl⟩;go_wp2_with fail;refine(l.o _).mono ?_;rintro e w3 ⟨rfl,a⟩;have n:=L (keep g a);have o:=L (chain i a);obtain⟨z,c1,c2,A,B,C⟩:=cells5 (keep g a);clear a g i;go_wp2;obtain⟨P,q⟩:=bE (O ⟨#[]⟩) (I J 0) (I J 92) (I J (p:Int)) (N S) n.o o.o (D _);have f:=L q;obtain⟨r,t,u,x,y,_⟩:=cells5 P;exact av (v:=U #[O ⟨#[]⟩,I J 0,I J 92,I J (p:Int),N S]) (by simp[aw,az,go_sem,r,t,u,x,y]) rfl ⟨by rw[<-m.o];simp[gQ],f.o⟩
 | some b=>
  have d:gK s[p]=(b.toNat:Int):=by rw[gK,j]
  rw[d]at h;clear j d;have j:¬((b.toNat:Nat):Int)<0:=by omega
  have q5:aj.wrap ((b.toNat:Nat):Int)=((b.toNat:Nat):Int):=by rw[ck];have:=b.toNat_lt;omega
  go_enter bg,bh;go_wp2_with fail;generalize w.alloc (Z #[O ⟨#[]⟩,I J 0,I J 0,I J 0,N S] 200)=w1 at*;refine(h.o _).mono ?_;rintro e w2 ⟨rfl,rfl⟩
  have d:(convert 22 9 (bw (K ⟨w2.heap.size,0,ac⟩) 1 1)).run Y (w2.alloc (Z #[I aj ((b.toNat:Nat):Int)] 5))=ah (O ⟨#[b]⟩) (w2.alloc (Z #[I aj ((b.toNat:Nat):Int)] 5)):=
   fH (Win.I6 (Row.I0 0 5 cC w2 [b] (Nat.zero_le _) (by simp;unfold maxLen;omega)))
  have a:=(ak w2.heap.size w2).alloc (D _) (Z #[I aj ((b.toNat:Nat):Int)] 5);have n:=L (keep g a);have o:=L (chain i a);obtain⟨z,c1,c2,A,B,C⟩:=cells5 (keep g a);clear a g i;go_wp2;obtain⟨P,q⟩:=bE (O ⟨#[b]⟩) (I J 2) (I J 0) (I J 0) (N S) n.o o.o (D _);have f:=L q;obtain⟨r,t,u,x,y,_⟩:=cells5 P;exact av (v:=U #[O ⟨#[b]⟩,I J 2,I J 0,I J 0,N S]) (by simp[aw,az,go_sem,r,t,u,x,y]) rfl ⟨by simp[gQ],f.o⟩
theorem nU{b:Bool}:∀{m n no a:Nat}{l:List UInt8},dI b m n l=.bad no a->no=92\/no=93
 | 0,_,_,_,l,h=>by rw[dI]at h;cases h
 | m+1,_,_,_,[],h=>by rw[dI]at h;cases h
 | m+1,n,no,a,c::l,h=>by
  rw[dI]at h;split at h
  .injection h with d h2;subst d;cases b<;>simp
  .split at h
   .injection h with d h2;exact af d.symm
   .exact nU h
theorem oP{a:Bool}{m n r:Nat}{l:List UInt8}(h:dI a (m+1) n l=.ok r):∃v t,v<16/\iG a (3-m) n v=S/\dI a m (16*n+v) t=.ok r:=by
 cases l with
 | nil=>rw[dI]at h;cases h
 | cons c t=>
  rw[dI]at h;split at h
  .cases h
  .rename_i v b;split at h
   .cases h
   .rename_i d;exact⟨v,t,zN b,by simpa using d,h⟩
theorem tJ{a:Bool}{r:Nat}{l:List UInt8}(h:dI a 4 0 l=.ok r):r<=65535/\(a=S->r<56320\/57343<r)/\(a=X->56320<=r/\r<=57343):=by
 obtain⟨g,i,a1,b1,h⟩:=oP h;obtain⟨j,b,a2,b2,h⟩:=oP h;obtain⟨d,c,a3,b3,h⟩:=oP h;obtain⟨k,f,a4,b4,h⟩:=oP h;rw[dI]at h;injection h with h
 cases a<;>simp[iG]at b1 b2<;>refine⟨by omega,λe=>?_,λe=>?_⟩<;>first|omega|(cases e;done)
theorem aCa(w:V)(s:ByteArray)(b:Nat)(hs:s.size<=2147483648)(he:b+1<s.size)(c:s[b+1]=117)(A:∀n,dI S 4 0 (s.data.toList.drop (b+2))≠ .ok n):ag Y 155 #[O s,I J b] w λe w'=>
 e=ae (gQ b (lX (s.data.toList.drop (b+1))))/\ba w.heap.size w w':=by
 obtain⟨p,t⟩:∃p,b+1=p:=⟨_,rfl⟩;have c:s[p]'(by omega)=117:=by subst t;exact c
 have B:p<s.size:=by omega
 have q1:J.wrap ((b:Int)+1)=(p:Int):=by rw[bc];omega
 have q2:¬(s.size:Int)<=(p:Int):=by omega
 have q3:(p:Int)<(s.size:Int):=by omega
 have q4:J.wrap ((b:Int)+2)=((b+2:Nat):Int):=by rw[bc];omega
 have u:=L (λW=>oO W s (b+2) S (by omega) hs);rw[t,aZ B,lX,if_pos c,show p+1=b+2 by omega];have e1:(((s[p].toNat:Nat):Int)!=117)=S:=by rw[c];rfl
 have h:(w.alloc (Z #[O ⟨#[]⟩,I J 0,I J 0,I J 0,N S] 200)).heap[w.heap.size]?=K (Z #[O ⟨#[]⟩,I J 0,I J 0,I J 0,N S] 200 (0,0)):=bu w _;have i:=(ak w.heap.size w).alloc (D _) (Z #[O ⟨#[]⟩,I J 0,I J 0,I J 0,N S] 200);clear c;cases f:dI S 4 0 (s.data.toList.drop (b+2))with
 | ok n=>exact absurd f (A n)
 | cut=>
  rw[f,j5]at u;clear f A t;go_enter bg,bh;go_wp2_with fail;refine(u.o _).mono ?_;rintro e j ⟨rfl,c⟩;have d:=(ak j.heap.size j).alloc (D _) (Z #[O ⟨#[]⟩,I J 0,I J 0,I J 0,N X] 200);have y:=L (keep (keep h c) d);have z:=L (chain (chain i c) d);obtain⟨G,c1,c2,Q,R,T⟩:=cells5 (keep (keep h c) d);clear c d h i;go_wp2;obtain⟨P,k⟩:=bE (O ⟨#[]⟩) (I J 0) (I J 0) (I J 0) (N X) y.o z.o (D _);have g:=L k;obtain⟨l,m,o,q,r,_⟩:=cells5 P;exact av (v:=U #[O ⟨#[]⟩,I J 0,I J 0,I J 0,N X]) (by simp[aw,az,go_sem,l,m,o,q,r]) rfl ⟨by rfl,g.o⟩
 | bad no a=>
  have C:=nU f;obtain⟨x,F⟩:∃x,b+2+a=x:=⟨_,rfl⟩;rw[f,j5,F]at u;have HX:=L F;clear f A t F;rcases C with rfl|rfl
  all_goals
   go_enter bg,bh;go_wp2_with fail;refine(u.o _).mono ?_;rintro e j ⟨rfl,c⟩;have d:=λno=>(ak j.heap.size j).alloc (D _) (Z #[O ⟨#[]⟩,I J 0,I J no,I J (x:Int),N S] 200)
   have y:=L (λno=>keep (keep h c) (d no));have z:=L (λno=>chain (chain i c) (d no))
   first
   | (obtain ⟨G, c1, c2, Q, R, T⟩ := cells5 (keep (keep h c) (d 92))
      clear c d h i;go_wp2;obtain⟨P,k⟩:=bE (O ⟨#[]⟩) (I J 0) (I J 92) (I J (x:Int)) (N S) (y.o 92) (z.o 92) (D _);have g:=L k;obtain⟨l,m,o,q,r,_⟩:=cells5 P;exact av (v:=U #[O ⟨#[]⟩,I J 0,I J 92,I J (x:Int),N S]) (by simp[aw,az,go_sem,l,m,o,q,r]) rfl ⟨by rw[<-HX.o,bz];rfl,g.o⟩)
   | (obtain ⟨G, c1, c2, Q, R, T⟩ := cells5 (keep (keep h c) (d 93))
      clear c d h i;go_wp2;obtain⟨P,k⟩:=bE (O ⟨#[]⟩) (I J 0) (I J 93) (I J (x:Int)) (N S) (y.o 93) (z.o 93) (D _);have g:=L k;obtain⟨l,m,o,q,r,_⟩:=cells5 P;exact av (v:=U #[O ⟨#[]⟩,I J 0,I J 93,I J (x:Int),N S]) (by simp[aw,az,go_sem,l,m,o,q,r]) rfl ⟨by rw[<-HX.o,bz];rfl,g.o⟩)
theorem aIz(w:V)(s:ByteArray)(a n:Nat)(o:s.size<=2147483648)(y:a+1<s.size)(c:s[a+1]=117)(b:dI S 4 0 (s.data.toList.drop (a+2))=.ok n)(f:n<55296\/56319<n):ag Y 155 #[O s,I J a] w λe w'=>
 e=ae (gQ a (lX (s.data.toList.drop (a+1))))/\ba w.heap.size w w':=by
 obtain⟨p,d⟩:∃p,a+1=p:=⟨_,rfl⟩;have c:s[p]'(by omega)=117:=by subst d;exact c
 have g:p<s.size:=by omega
 have z:J.wrap ((a:Int)+1)=(p:Int):=by rw[bc];omega
 have A:¬(s.size:Int)<=(p:Int):=by omega
 have B:(p:Int)<(s.size:Int):=by omega
 have C:J.wrap ((a:Int)+2)=((a+2:Nat):Int):=by rw[bc];omega
 have j:=L (λW=>oO W s (a+2) S (by omega) o);rw[d,aZ g,lX,if_pos c,show p+1=a+2 by omega];have F:(((s[p].toNat:Nat):Int)!=117)=S:=by rw[c];rfl
 obtain⟨m,i,_⟩:=tJ b;have q:=L (λW=>tI W n (by omega) (by have:=i rfl;omega));have G:co.wrap (n:Int)=(n:Int):=by rw[cr];omega
 have k:(w.alloc (Z #[O ⟨#[]⟩,I J 0,I J 0,I J 0,N S] 200)).heap[w.heap.size]?=K (Z #[O ⟨#[]⟩,I J 0,I J 0,I J 0,N S] 200 (0,0)):=bu w _;have l:=(ak w.heap.size w).alloc (D _) (Z #[O ⟨#[]⟩,I J 0,I J 0,I J 0,N S] 200);rw[b,j5]at j;rw[b,Pc.L2,if_pos f];have h:(n:Int)<55296\/(¬(n:Int)<55296/\(56319:Int)<(n:Int)):=by omega
 clear c b d m i f;rcases h with f|⟨f,r⟩
 all_goals
  go_enter bg,bh;go_wp2_with fail;refine(j.o _).mono ?_;rintro e m ⟨rfl,b⟩;have c:=(ak m.heap.size m).alloc (D _) (Z #[O ⟨#[]⟩,I J 0,I J 0,I J 0,N S] 200);have i:=keep (keep k b) c;have d:=chain (chain l b) c;clear b c k l;go_wp2_with fail;refine(q.o _).mono ?_;rintro e Q ⟨rfl,b⟩;have c:=L (keep i b);have k:=L (chain d b);obtain⟨R,c1,c2,T,c4,cf⟩:=cells5 (keep i b);clear b i d;go_wp2;obtain⟨P,d⟩:=bE (O ⟨(aS n).toArray⟩) (I J 6) (I J 0) (I J 0) (N S) c.o k.o (D _);have b:=L d;obtain⟨i,l,t,u,x,_⟩:=cells5 P;exact av (v:=U #[O ⟨(aS n).toArray⟩,I J 6,I J 0,I J 0,N S]) (by simp[aw,az,go_sem,i,l,t,u,x]) rfl ⟨by rfl,b.o⟩
theorem cG.Q3{x:Ps}{q:Nat}(h:cG x q):pY x 1073741824:=⟨λm a=>bp (h.S7 m a) (by decide),by have:=h.room;have:=h.depth;omega⟩
theorem aG9(w:V)(a n b:Nat):ag Y 357 #[U #[I J a,I J n,I au b]] w λe w'=>e=ae (H 107 (.float .f64 b))/\ba w.heap.size w w':=by
 have c:=nJ b;go_enter func357,ntmps357;go_wp2;go_ret;exact⟨rfl,(ak _ _).alloc (D _) _⟩
def oT(w:V)(p:Nat):Nat:=match w.cell? ⟨p,2,ac⟩with
 | some (ao (K a))=>match w.cell? ⟨a.block,13,ac⟩with
  | some (bw _ n _)=>n
  | _=>0
 | _=>0
theorem lC.Q4{F:Nat->Prop}{w:V}{b:Nat}{toks:List Tok}{s:LS}(h:lC F w b toks s):∃a c,w.cell? ⟨b,13,ac⟩=K (bw a toks.length c):=by
 cases s with
 | at_ x q=>
  obtain⟨-,-,j,k,g,d,e,f,-⟩:=h;obtain⟨a,c,rfl⟩:=f.1.A8;refine⟨a,c,?_⟩;rw[aA e];simp
 | dead pl st i=>
  obtain⟨-,-,r,l,u,m,p,y,n,t,o,v,d,e,f⟩:=h;obtain⟨a,c,rfl⟩:=f.1.A8;refine⟨a,c,?_⟩;rw[aA e];simp
theorem aG.Q4{F:Nat->Prop}{w:V}{p:Nat}{x:Ps}{s:LS}{toks:List Tok}(h:aG F w p x s toks):oT w p=toks.length:=by
 obtain⟨-,k,n,m,i,l,b,d,-,f,g,-,-⟩:=h;obtain⟨a,c,j⟩:=g.Q4;have e:w.cell? ⟨p,2,ac⟩=K (ao (K ⟨i,0,ac⟩)):=by rw[aA f];rfl
 unfold oT;rw[e];simp only[j]
theorem oF(F:Nat->Prop)(w:V)(p:Nat)(x:Ps)(s:LS)(t:Tok)(toks:List Tok)(h:aG F w p x s (t::toks))(z:toks.length<=999):∃a,w.cell? ⟨p,2,ac⟩=K (ao (K ⟨a,0,ac⟩))/\
 ag Y 111 #[ao (K ⟨a,0,ac⟩)] w λe w'=>e=ae (E #[bS t,N X])/\Keeps F w w'/\aG (Since F w w') w' p x s toks:=by
 obtain⟨j,n,r,q,a,v,b,d,i,o,g,u,A⟩:=h;refine⟨a,by rw[aA o];rfl,(aCL n w a t toks s g z).mono ?_⟩;rintro e w' ⟨rfl,l,c⟩;have m:∀(Q:Nat->Prop),¬Q a->∀k,Q k->¬k=a:=λQ y k c e=>y (e▸c)
 have f:Keeps F w w':=c.A6 λk e=>e▸i.lex a g.J6
 refine⟨rfl,f,aF j f.size,n,r,q,a,v,b,d,i.O3,c.C4 o (λe=>i.self.2.1 (e▸g.J6)),l,u.B6 c (m r (λh=>i.lm a g.J6 h)),A.A0 c (m q (λh=>i.lp a g.J6 h))⟩
theorem oG(F:Nat->Prop)(w:V)(p:Nat)(x:Ps)(s:LS)(h:aG F w p x s []):∃a,w.cell? ⟨p,2,ac⟩=K (ao (K ⟨a,0,ac⟩))/\
 ag Y 111 #[ao (K ⟨a,0,ac⟩)] w λe w'=>e=ae (E #[bs,N S])/\w'=w:=by
 obtain⟨-,d,k,i,a,j,b,c,-,f,g,-,-⟩:=h;exact⟨a,by rw[aA f];rfl,aA4 d w a s g⟩
theorem mB(t:Tok):∃T u,bS t=H T u:=by cases t<;>exact⟨_,_,rfl⟩
def aCT(F:Nat->Prop)(w:V)(p:Nat)(s:LS)(b:Out)(t c:Value)(wr:V):Prop:=
 ∃y q,Keeps F w wr/\cG y q/\∃a,aG (Since F w wr) wr p y s a/\(∀t∈a,o7 t)/\a.length<=998/\
  ((∃tk,iS q y.want (tk::a)/\t=bS tk/\c=N X/\o7 tk/\y.D4 po (tk::a)=b)\/(t=bs/\c=N S/\a= []/\b=.ok y))
def mC(p:Nat)(a:Value)(w:V):Nat:=match a with
 | .bool X=>1+oT w p
 | _=>0
theorem sA{F:Nat->Prop}{w wr r:V}{p:Nat}{y:Ps}{q:Nat}{s:LS}{b:List Tok}{tk:Tok}{d o:Out}{f:Nat}{args:Array Value}(t:∀k,F k->k<w.heap.size)(l:Keeps F w wr)(g:Keeps (λ_=>False) wr r)(B:cG y q)(v:o7 tk)(n:aDX q y.want tk)(A:y.E8 po tk=o)(c:y.D4 po (tk::b)=d)
 (i:ag Y f args r λe w'=>cH e/\dH (Since F w wr) r p s b o e w'):
 ag Y f args r λe w'=>Keeps F w w'/\((∃m:Nat×Nat,e=bR m.1 m.2/\gX w' p/\d=bj m)\/(∃z,e=ae (E #[])/\cG z 0/\aG (Since F w w') w' p z s b/\z.D4 po b=d)):=by
 refine i.mono λe w' ⟨_,x,a⟩=>?_
 have j:Keeps F w w':=(l.B7 (g.A6 λ_ h=>h.elim)).B9 x (λk h=>h.elim ai (λh=>af h.1));refine⟨j,?_⟩;rw[eO,A]at c;cases o with
 | error m=>
  obtain⟨no,u⟩:=m;exact ai ⟨(no,u),a.1,a.2,c.symm⟩
 | ok z=>
  refine af ⟨z,a.1,B.E8 v n A,?_,c⟩;exact a.2.A6 (λk h=>h.elim (λh=>h.E7 (bp g.size x.size)) (λh=>af ⟨bp l.size (bp g.size h.1),h.2⟩)) (aF t j.size)
theorem kD{G:Nat->Prop}{a wr:V}{p:Nat}{z:Ps}{s:LS}(_h:aG G a p z s []):mC p (N S) a<mC p (N X) wr:=by
 show 0<1+oT wr p
 omega
theorem kE{G d:Nat->Prop}{b wr:V}{p:Nat}{y z:Ps}{s c:LS}{t:Tok}{a:List Tok}(h:aG d wr p y c (t::a))(e:aG G b p z s a):mC p (N X) b<mC p (N X) wr:=by
 show 1+oT b p<1+oT wr p
 rw[h.Q4,e.Q4,List.length_cons];omega
theorem aAg(F:Nat->Prop)(w:V)(p:Nat)(x:Ps)(s:LS)(toks:List Tok)(q:Nat)(P:aG F w p x s toks)(c:∀t∈toks,o7 t)(h:cG x q)(n:iS q x.want toks)(i:toks.length<=999):
 ag Y 79 #[ao (K ⟨p,0,ac⟩)] w λe w'=>cH e/\dH F w p s [] (x.D4 po toks) e w':=by
 have g:=P.lt;have HLT:=L g;obtain⟨out,b⟩:∃out,x.D4 po toks=out:=⟨_,rfl⟩;rw[b]
 have hstart:∃lb t ok,w.cell? ⟨p,2,ac⟩=K (ao (K ⟨lb,0,ac⟩))/\(∃okb,ok=N okb)/\(t=bs\/∃a0 u,t=H a0 u)/\ag Y 111 #[ao (K ⟨lb,0,ac⟩)] w λe w'=>e=ae (E #[t,ok])/\aCT F w p s out t ok w':=by
  cases toks with
  | nil=>
   obtain⟨lb,j,d⟩:=oG F w p x s P;refine⟨lb,bs,N S,j,⟨_,rfl⟩,ai rfl,d.mono ?_⟩;rintro e w' ⟨rfl,rfl⟩;exact⟨rfl,x,q,bx _ _,h,[],P.A6 (λk P=>ai P) (aF g (D _)),λ_ P=>by simp at P,by simp,af ⟨rfl,rfl,rfl,b.symm⟩⟩
  | cons t f=>
   obtain⟨lb,j,d⟩:=oF F w p x s t f P (by simp at i;omega);refine⟨lb,bS t,N X,j,⟨_,rfl⟩,af (mB t),d.mono ?_⟩;rintro e w' ⟨rfl,m,o⟩;exact⟨rfl,x,q,m,h,f,o,λt P=>c t (bk _ P),by simp at i;omega,ai ⟨t,n,rfl,rfl,c t (bm ..),b⟩⟩
 obtain⟨lb,t0,ok0,hc2,⟨okb,rfl⟩,hti,d⟩:=hstart;have m:=L d;clear P c h n i b g d;rcases hti with rfl|⟨T0,u0,rfl⟩
 all_goals
  go_enter func79,ntmps79;go_wp2_with fail;refine(m.o).mono ?_;rintro e w1 ⟨rfl,c⟩;have HINV:=L c;clear c;go_wp2_with fail
  go_loopw [2,3] (λt ok wr=>M (aCT F w p s out t ok wr)) (λ_ ok wr=>mC p ok wr)
  case atStart=>exact HINV.o.elim λy P=>L ⟨y,P⟩
  case round=>
   obtain⟨y,q,hkr,hy,f,r,hokr,hb2,hcase⟩:=hrel.o;clear hrel;have HPAR:=L r;have HKR:=L hkr;rcases hcase with⟨tk,hb1,rfl,rfl,Q,b⟩|⟨rfl,rfl,rfl,b⟩
   .have HB1:=L hb1;have HB2:=L hb2;have W:=L hokr;cases tk with
    | mark a G=>
     rw[show bS (.mark a G)=H 238 (U #[I J a,I J 1,I aj ((G.toNat:Nat):Int)])from rfl];have hta:∀w:V,(ar (H 238 (U #[I J a,I J 1,I aj ((G.toNat:Nat):Int)])) 232 238 X).run Y w=ah (E #[U #[I J a,I J 1,I aj ((G.toNat:Nat):Int)],N X]) w:=λ_=>by kernel_rfl
     have R:Keeps (λ_=>False) wr (wr.alloc (Z #[I J a,I J 1,I aj ((G.toNat:Nat):Int)] 238)):=(bx _ wr).A4 _;obtain rfl:q=0:=hb1.1;have T:=aJi _ _ p y s f a G (r.B6 R (λ_ _=>id)) hy Q;have HC:=L (sA (tk:=.mark a G) HLT.o hkr R hy Q hb1.1 rfl b T);clear r hkr hy hokr hb1 hb2 hc2 T Q b R;go_wp2_with fail;refine(HC.o).mono ?_;rintro e w3 ⟨g,b⟩;have b:(∃e2:Nat×Nat,e=bR e2.1 e2.2/\gX w3 p/\out=bj e2)\/(∃z,e=ae (E #[])/\cG z 0/\aG (Since F w w3) w3 p z s f/\z.D4 po f=out):=b;rcases b with⟨e2,he,h,hoe⟩|⟨z,he,n,i,o⟩
     .have HOE:=L hoe;have c:=L g;have HD:=L h;clear hoe g h;unfold bR at he;subst he;go_wp2_with fail;rw[HOE.o];exact⟨rfl,af ⟨_,_,rfl⟩,c.o,rfl,HD.o⟩
     .subst he;cases f with
      | nil=>
       obtain⟨lb2,hc2b,d⟩:=oG _ w3 p z s i;have c:=L g;have m:=L d;have v:=L n;have HPZ:=L i;have A:=L o;clear g d n i o;go_wp2_with fail;refine(m.o).mono ?_;rintro e w4 ⟨rfl,rfl⟩;go_wp2_with fail
       go_roundw
       case rel=>exact L ⟨z,0,c.o,v.o,[],HPZ.o,λ_ P=>by simp at P,by simp,af ⟨rfl,rfl,rfl,A.o.symm⟩⟩
       case measure=>exact kD HPZ.o
      | cons t2 j=>
       obtain⟨lb2,hc2b,d⟩:=oF _ w3 p z s t2 j i (by have:=HB2.o;simp at this;omega);have c:=L g;have m:=L d;have v:=L n;have A:=L o;obtain⟨T2,u2,B⟩:=mB t2;rw[B]at m;have HT2:=L B;clear g d n i o B;go_wp2_with fail;refine(m.o).mono ?_;rintro e w4 ⟨rfl,hk4,hp4⟩;have C:=L hk4;have HP4:=L hp4;clear hk4 hp4;go_wp2_with fail
       go_roundw
       case rel=>exact L ⟨z,0,c.o.B7 C.o,v.o,j,HP4.o.A6 (λk P=>P.B9 c.o.size C.o.size) (λk P=>by exact(aF HLT.o (c.o.B7 C.o).size) k P),λt P=>W.o t (bk _ P),by have:=HB2.o;simp at this;omega,ai ⟨t2,HB1.o.L6,HT2.o.symm,rfl,W.o t2 (bm ..),A.o⟩⟩
       case measure=>exact kE HPAR.o HP4.o
    | term a G l=>
     obtain⟨sv,hsv⟩:∃sv:ByteArray,(⟨l.toArray⟩:ByteArray)=sv:=⟨_,rfl⟩;have hte:bS (.term a G l)=H 309 (U #[I J a,I J G,O sv]):=by rw[<-hsv];rfl
     have hta:∀w:V,(ar (H 309 (U #[I J a,I J G,O sv])) 232 238 X).run Y w=ah (E #[U #[I J 0,I J 0,I aj 0],N S]) w:=λ_=>by kernel_rfl
     have hta2:∀w:V,(ar (H 309 (U #[I J a,I J G,O sv])) 232 241 X).run Y w=ah (E #[U #[I J 0,I J 0,O ⟨#[]⟩],N S]) w:=λ_=>by kernel_rfl
     have hta3:∀w:V,(ar (H 309 (U #[I J a,I J G,O sv])) 232 244 X).run Y w=ah (E #[H 309 (U #[I J a,I J G,O sv]),N X]) w:=λ_=>by kernel_rfl
     have hm:∀w:V,(method 565 309 (U #[I J a,I J G,O sv]) "Value").run Y w=ah (360,U #[I J a,I J G,O sv]) w:=λ_=>by kernel_rfl
     have hnv:=aEE wr a G l Q;rw[hsv]at hnv;have HNV:=L hnv;obtain⟨nv,hnve⟩:∃nv,aFJ l=nv:=⟨_,rfl⟩;rw[hnve]at HNV;have HCC:=L (λW1(R:Keeps (λ_=>False) wr W1)=>by have h1:=sA (tk:=.term a G l) HLT.o hkr R hy Q hb1.1 rfl b ((aCO _ W1 p y s f l (r.B6 R (λ_ _=>id)) hy.Q3 (by have:=hy.M1;omega)).mono λe w' P=>⟨ai P.1,P.2.1,P.1,P.2.2⟩);rw[hnve]at h1;exact h1);rw[hte];clear hsv hte hnve hnv;clear r hkr hy hokr hb1 hb2 hc2 Q b;go_wp2_with fail;refine(HNV.o).mono ?_;rintro e w2 ⟨rfl,hb2⟩;have HC:=L (HCC.o w2 (cg _ hb2));clear hb2;go_wp2_with fail;refine(HC.o).mono ?_;rintro e w3 ⟨g,b⟩;have b:(∃e2:Nat×Nat,e=bR e2.1 e2.2/\gX w3 p/\out=bj e2)\/(∃z,e=ae (E #[])/\cG z 0/\aG (Since F w w3) w3 p z s f/\z.D4 po f=out):=b;rcases b with⟨e2,he,h,hoe⟩|⟨z,he,n,i,o⟩
     .have HOE:=L hoe;have c:=L g;have HD:=L h;clear hoe g h;unfold bR at he;subst he;go_wp2_with fail;rw[HOE.o];exact⟨rfl,af ⟨_,_,rfl⟩,c.o,rfl,HD.o⟩
     .subst he;cases f with
      | nil=>
       obtain⟨lb2,hc2b,d⟩:=oG _ w3 p z s i;have c:=L g;have m:=L d;have v:=L n;have HPZ:=L i;have A:=L o;clear g d n i o;go_wp2_with fail;refine(m.o).mono ?_;rintro e w4 ⟨rfl,rfl⟩;go_wp2_with fail
       go_roundw
       case rel=>exact L ⟨z,0,c.o,v.o,[],HPZ.o,λ_ P=>by simp at P,by simp,af ⟨rfl,rfl,rfl,A.o.symm⟩⟩
       case measure=>exact kD HPZ.o
      | cons t2 j=>
       obtain⟨lb2,hc2b,d⟩:=oF _ w3 p z s t2 j i (by have:=HB2.o;simp at this;omega);have c:=L g;have m:=L d;have v:=L n;have A:=L o;obtain⟨T2,u2,B⟩:=mB t2;rw[B]at m;have HT2:=L B;clear g d n i o B;go_wp2_with fail;refine(m.o).mono ?_;rintro e w4 ⟨rfl,hk4,hp4⟩;have C:=L hk4;have HP4:=L hp4;clear hk4 hp4;go_wp2_with fail
       go_roundw
       case rel=>exact L ⟨z,0,c.o.B7 C.o,v.o,j,HP4.o.A6 (λk P=>P.B9 c.o.size C.o.size) (λk P=>by exact(aF HLT.o (c.o.B7 C.o).size) k P),λt P=>W.o t (bk _ P),by have:=HB2.o;simp at this;omega,ai ⟨t2,HB1.o.L6,HT2.o.symm,rfl,W.o t2 (bm ..),A.o⟩⟩
       case measure=>exact kE HPAR.o HP4.o
    | num a G bt=>
     have hta:∀w:V,(ar (H 271 (U #[I J a,I J G,I au bt])) 232 238 X).run Y w=ah (E #[U #[I J 0,I J 0,I aj 0],N S]) w:=λ_=>by kernel_rfl
     have hta2:∀w:V,(ar (H 271 (U #[I J a,I J G,I au bt])) 232 241 X).run Y w=ah (E #[U #[I J 0,I J 0,O ⟨#[]⟩],N S]) w:=λ_=>by kernel_rfl
     have hta3:∀w:V,(ar (H 271 (U #[I J a,I J G,I au bt])) 232 244 X).run Y w=ah (E #[H 271 (U #[I J a,I J G,I au bt]),N X]) w:=λ_=>by kernel_rfl
     have hm:∀w:V,(method 565 271 (U #[I J a,I J G,I au bt]) "Value").run Y w=ah (357,U #[I J a,I J G,I au bt]) w:=λ_=>by kernel_rfl
     rw[show bS (.num a G bt)=H 271 (U #[I J a,I J G,I au bt])from rfl];have HNV:=L (aG9 wr a G bt);have HCC:=L (λW1(R:Keeps (λ_=>False) wr W1)=>sA (tk:=.num a G bt) HLT.o hkr R hy Q hb1.1 rfl b ((aEC _ W1 p y s f bt Q (r.B6 R (λ_ _=>id)) hy.Q3 (by have:=hy.M1;omega)).mono λe w' P=>⟨ai P.1,P.2.1,P.1,P.2.2⟩));clear r hkr hy hokr hb1 hb2 hc2 Q b;go_wp2_with fail;refine(HNV.o).mono ?_;rintro e w2 ⟨rfl,hb2⟩;have HC:=L (HCC.o w2 (cg _ hb2));clear hb2;go_wp2_with fail;refine(HC.o).mono ?_;rintro e w3 ⟨g,b⟩;have b:(∃e2:Nat×Nat,e=bR e2.1 e2.2/\gX w3 p/\out=bj e2)\/(∃z,e=ae (E #[])/\cG z 0/\aG (Since F w w3) w3 p z s f/\z.D4 po f=out):=b;rcases b with⟨e2,he,h,hoe⟩|⟨z,he,n,i,o⟩
     .have HOE:=L hoe;have c:=L g;have HD:=L h;clear hoe g h;unfold bR at he;subst he;go_wp2_with fail;rw[HOE.o];exact⟨rfl,af ⟨_,_,rfl⟩,c.o,rfl,HD.o⟩
     .subst he;cases f with
      | nil=>
       obtain⟨lb2,hc2b,d⟩:=oG _ w3 p z s i;have c:=L g;have m:=L d;have v:=L n;have HPZ:=L i;have A:=L o;clear g d n i o;go_wp2_with fail;refine(m.o).mono ?_;rintro e w4 ⟨rfl,rfl⟩;go_wp2_with fail
       go_roundw
       case rel=>exact L ⟨z,0,c.o,v.o,[],HPZ.o,λ_ P=>by simp at P,by simp,af ⟨rfl,rfl,rfl,A.o.symm⟩⟩
       case measure=>exact kD HPZ.o
      | cons t2 j=>
       obtain⟨lb2,hc2b,d⟩:=oF _ w3 p z s t2 j i (by have:=HB2.o;simp at this;omega);have c:=L g;have m:=L d;have v:=L n;have A:=L o;obtain⟨T2,u2,B⟩:=mB t2;rw[B]at m;have HT2:=L B;clear g d n i o B;go_wp2_with fail;refine(m.o).mono ?_;rintro e w4 ⟨rfl,hk4,hp4⟩;have C:=L hk4;have HP4:=L hp4;clear hk4 hp4;go_wp2_with fail
       go_roundw
       case rel=>exact L ⟨z,0,c.o.B7 C.o,v.o,j,HP4.o.A6 (λk P=>P.B9 c.o.size C.o.size) (λk P=>by exact(aF HLT.o (c.o.B7 C.o).size) k P),λt P=>W.o t (bk _ P),by have:=HB2.o;simp at this;omega,ai ⟨t2,HB1.o.L6,HT2.o.symm,rfl,W.o t2 (bm ..),A.o⟩⟩
       case measure=>exact kE HPAR.o HP4.o
    | str a G l=>
     obtain⟨sv,hsv⟩:∃sv:ByteArray,(⟨l.toArray⟩:ByteArray)=sv:=⟨_,rfl⟩;have hte:bS (.str a G l)=H 241 (U #[I J a,I J G,O sv]):=by rw[<-hsv];rfl
     have hta:∀w:V,(ar (H 241 (U #[I J a,I J G,O sv])) 232 238 X).run Y w=ah (E #[U #[I J 0,I J 0,I aj 0],N S]) w:=λ_=>by kernel_rfl
     have hta2:∀w:V,(ar (H 241 (U #[I J a,I J G,O sv])) 232 241 X).run Y w=ah (E #[U #[I J a,I J G,O sv],N X]) w:=λ_=>by kernel_rfl
     have R:Keeps (λ_=>False) wr (wr.alloc (Z #[I J a,I J G,O sv] 241)):=(bx _ wr).A4 _;have T:=aJh _ _ p y s f a G l Q.1 Q.2 (r.B6 R (λ_ _=>id)) hy;rw[hsv]at T;have HC:=L (sA (tk:=.str a G l) HLT.o hkr R hy Q hb1.1 rfl b T);rw[hte];clear hsv hte;clear r hkr hy hokr hb1 hb2 hc2 T Q b R;go_wp2_with fail;refine(HC.o).mono ?_;rintro e w3 ⟨g,b⟩;have b:(∃e2:Nat×Nat,e=bR e2.1 e2.2/\gX w3 p/\out=bj e2)\/(∃z,e=ae (E #[])/\cG z 0/\aG (Since F w w3) w3 p z s f/\z.D4 po f=out):=b;rcases b with⟨e2,he,h,hoe⟩|⟨z,he,n,i,o⟩
     .have HOE:=L hoe;have c:=L g;have HD:=L h;clear hoe g h;unfold bR at he;subst he;go_wp2_with fail;rw[HOE.o];exact⟨rfl,af ⟨_,_,rfl⟩,c.o,rfl,HD.o⟩
     .subst he;cases f with
      | nil=>
       obtain⟨lb2,hc2b,d⟩:=oG _ w3 p z s i;have c:=L g;have m:=L d;have v:=L n;have HPZ:=L i;have A:=L o;clear g d n i o;go_wp2_with fail;refine(m.o).mono ?_;rintro e w4 ⟨rfl,rfl⟩;go_wp2_with fail
       go_roundw
       case rel=>exact L ⟨z,0,c.o,v.o,[],HPZ.o,λ_ P=>by simp at P,by simp,af ⟨rfl,rfl,rfl,A.o.symm⟩⟩
       case measure=>exact kD HPZ.o
      | cons t2 j=>
       obtain⟨lb2,hc2b,d⟩:=oF _ w3 p z s t2 j i (by have:=HB2.o;simp at this;omega);have c:=L g;have m:=L d;have v:=L n;have A:=L o;obtain⟨T2,u2,B⟩:=mB t2;rw[B]at m;have HT2:=L B;clear g d n i o B;go_wp2_with fail;refine(m.o).mono ?_;rintro e w4 ⟨rfl,hk4,hp4⟩;have C:=L hk4;have HP4:=L hp4;clear hk4 hp4;go_wp2_with fail
       go_roundw
       case rel=>exact L ⟨z,0,c.o.B7 C.o,v.o,j,HP4.o.A6 (λk P=>P.B9 c.o.size C.o.size) (λk P=>by exact(aF HLT.o (c.o.B7 C.o).size) k P),λt P=>W.o t (bk _ P),by have:=HB2.o;simp at this;omega,ai ⟨t2,HB1.o.L6,HT2.o.symm,rfl,W.o t2 (bm ..),A.o⟩⟩
       case measure=>exact kE HPAR.o HP4.o
   .clear r hkr hy hokr hb2 hc2;have c:=L b;clear b;go_wp2_with fail
    go_end0
    rw[c.o];exact⟨ai rfl,HKR.o,rfl,HPAR.o⟩
end Go.Proofs.YtakkmiomhackiaaGreatDoor
