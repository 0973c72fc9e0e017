/-
  The program, one part of its walk. Conditions: none.
-/
import Derived.Test.YtakkmiomhackiaaGreatDoorTd15
set_option linter.all false
set_option maxRecDepth 100000
set_option maxHeartbeats 16000000
open Go.Proofs.Tryz
open Bool renaming false->U,true->ae
open Go renaming Calls->E,Ending->bc,Value->Y,World->V,heap_alloc_new->cr,lt_of_block->ao
open Go.Ending renaming returned->ag
open Go.Fn renaming func->aj
open Go.IntKind renaming i32->ak,i64->O,u8->ac,wrap_i64->cv
open Go.Obj renaming cells->X
open Go.Proofs.Tryz renaming func104->av,func138->az,ntmps104->aw,ntmps138->ba,prog->H
open Go.Proofs.YtakkmiomhackiaaGreatDoor.Keeps renaming A1->bp,A3->ah
open Go.RowKit renaming Below->bk
open Go.RowKit.Below renaming heap_alloc->bh,refl->co
open Go.Value renaming agg->bm,bool->af,func->ai,iface->cg,int->I,nilIface->ar,pointer->W,slice->Z,string->bz
open Go.World renaming setCell->bg
open Int renaming natCast_zero->ck
open List renaming append_nil->bj,nil_append->cj,setIfInBounds_toArray->bs,set_cons_succ->bw,set_cons_zero->bu
open Nat renaming le_of_lt->ct,le_refl->cu,le_trans->au,lt_of_lt_of_le->bx
open Option renaming none->J,some->N
open Or renaming inl->S,inr->K
namespace Go.Proofs.YtakkmiomhackiaaGreatDoor
open Go.RowKit
theorem yH(w:V)(b:Nat)(a:UInt8)(d:aX a=ae):E H 104 #[W (N ⟨b,0,J⟩),I ac ((a.toNat:Nat):Int)] w λe w'=>e=ag (I O 0)/\w'=w:=by
 have c:=L (iD a);rw[d]at c;clear d;go_enter av,aw;go_wp2_with fail;refine(c.o _).mono ?_;rintro e w1 ⟨rfl,rfl⟩;go_wp2_with fail;go_ret;exact⟨rfl,rfl⟩
theorem aEo{c:UInt8}(h:48<=c.toNat):aX c=U:=by
 have d:¬c=32:=by intro e;subst e;simp at h
 have a:¬c=9:=by intro e;subst e;simp at h
 have f:¬c=10:=by intro e;subst e;simp at h
 have b:¬c=13:=by intro e;subst e;simp at h
 simp[aX,d,a,f,b]
def eG(w:V)(b pl:Nat):V:=(((w.setCell ⟨b,4,J⟩ (af ae)).setCell ⟨b,5,J⟩ (I O pl)).setCell ⟨b,6,J⟩ (Z J 0 0)).setCell ⟨b,7,J⟩ (I O 0)
theorem l6{w:V}{b pl:Nat}{l f g c r p n q m d i e k j:Y}(h:w.heap[b]?=N (X #[l,f,g,c,r,p,n,q,m,d,i,e,k,j] 228 (0,0))):
 (eG w b pl).heap[b]?=N (X #[l,f,g,c,af ae,I O pl,Z J 0 0,I O 0,m,d,i,e,k,j] 228 (0,0)):=by
 have a:=aB (aB (aB (aB h (o:=4) (af ae)) (o:=5) (I O pl)) (o:=6) (Z J 0 0)) (o:=7) (I O 0);simp only[bs,bu,bw]at a;exact a
theorem gB(w:V)(b pl:Nat):Keeps (λk=>k=b) w (eG w b pl):=
 ((((ah (λk=>k=b) w).A2 (p:=⟨b,4,J⟩) (S rfl) _).A2 (p:=⟨b,5,J⟩) (S rfl) _).A2 (p:=⟨b,6,J⟩) (S rfl) _).A2 (p:=⟨b,7,J⟩) (S rfl) _
theorem iB(w:V)(b pl:Nat):(eG w b pl).heap.size=w.heap.size:=by simp[eG,bg]
theorem jF.S9{w w':V}{b pl:Nat}{a t v:Y}{toks:List Y}{c:Y->Array Y}{e:bc}(h:jF (eG w b pl) b a toks t c v e w'):jF w b a toks t c v e w':=by
 obtain⟨j,g,off,cap,f,m,d,l⟩:=h;refine⟨j,g,off,cap,f,m,?_,((gB w b pl).A6 (λk i=>S i)).B8 l⟩;rw[iB]at d;exact d
theorem aAU(w:V)(b pl:Nat)(t u G P Q R T x y z A B a:Y)(m:UInt8)(C:m=123\/m=125\/m=91\/m=93\/m=58\/m=44)(toks:List Y)(s:w.heap[b]?=N (X #[I O pl,t,u,G,P,Q,R,T,x,y,z,A,B,a] 228 (0,0)))
 (h:Win 232 id w a toks)(i:toks.length<=1000)(hpl:pl<=1073741823):
 E H 104 #[W (N ⟨b,0,J⟩),I ac ((m.toNat:Nat):Int)] w λe w'=>jF w b a toks (bS (.mark pl m)) (λv=> #[I O pl,t,u,ai (aj 104) #[] #[],af U,I O pl,Z J 0 0,I O 0,x,y,z,A,B,v]) (I O 0) e w':=by
 obtain⟨c0,c1,c2,c3,c4,c5,c6,c7,c8,c9,ca,cb,cc,cd,cf⟩:=aM s;have j:=L (iD m);rw[show aX m=U by rcases C with rfl|rfl|rfl|rfl|rfl|rfl<;>rfl]at j;have c:=l6 (pl:=pl) s;have l:=L (h.ne s (by decide));have f:=h.A0 (gB w b pl) (λk e hk=>l.o (e.trans (congrArg N hk)));have n:=L (qK (eG w b pl) b _ pl (pl+1) c rfl (by omega) (by omega));have D:=L (λw'(d:bk (eG w b pl).heap.size (eG w b pl) w')=>qL w' b _ _ _ _ _ _ _ _ _ _ _ _ _ a 238 (bm #[I O pl,I O 1,I ac ((m.toNat:Nat):Int)]) toks (keep c d) (f.A0 (bp (λ_=>False) d) (λ_ _=>id)) i);rw[show pl+1-pl=1 by omega,show((pl+1:Nat):Int)=(pl:Int)+1 by omega]at n;unfold eG at n;rcases C with rfl|rfl|rfl|rfl|rfl|rfl
 all_goals
  clear s c h f;simp only[UInt8.reduceToNat,Int.cast_ofNat_Int]at j D⊢;go_enter av,aw;go_wp2_with fail;refine(j.o _).mono ?_;rintro e w1 ⟨rfl,rfl⟩;go_wp2_with fail;refine(n.o).mono ?_;rintro e w2 ⟨rfl,d⟩;have o:=L (D.o w2 d);have c:=L d;clear d;go_wp2_with fail;refine(o.o).mono ?_;rintro e w3 ⟨rfl,g,off,cap,F,d,f,h⟩;have H3:=L F;have p:=L d;have q:=L f;have r:=L h;clear F d f h;go_wp2_with fail;go_ret;exact jF.S9 (pl:=pl) ⟨rfl,g,off,cap,H3.o,p.o,q.o.elim S (λs=>K (au c.o.size s)),(bp _ c.o).B8 r.o⟩
theorem yI(w:V)(b pl:Nat)(r s v x y z A B C D F G t:Y)(j:w.heap[b]?=N (X #[I O pl,r,s,v,x,y,z,A,B,C,D,F,G,t] 228 (0,0))):
 E H 104 #[W (N ⟨b,0,J⟩),I ac 34] w λe w'=>e=ag (I O 0)/\∃f,w.heap.size<=f/\f<w'.heap.size/\w'.heap[b]?=N (X #[I O pl,r,s,ai (aj 138) #[] #[],af ae,I O pl,Z J 0 0,I O 0,W (N ⟨f,0,J⟩),Z J 0 0,I O 0,I ak 0,I ak 0,t] 228 (0,0))/\
  Feeds w' f 0 []/\Keeps (λk=>k=b) w w':=by
 obtain⟨P,c1,c2,Q,R,T,c6,c7,c8,c9,ca,cb,cc,cd,cf⟩:=aM j;have u:=L (iD 34);rw[show(((34:UInt8).toNat:Nat):Int)=34 from rfl,show aX 34=U from rfl]at u;have a:=l6 (pl:=pl) j;have m:=L a;obtain⟨f,h⟩:∃f,w.heap.size=f:=⟨_,rfl⟩;have i:=newFeeder_any (eG w b pl);rw[iB,h]at i;have d:=L (iB w b pl);have g:=L h;have c:=ao j;rw[h]at c;have n:=L (gB w b pl);unfold eG at i;have HF:=L i;clear j a h i;go_enter av,aw;go_wp2_with fail;refine(u.o _).mono ?_;rintro e w1 ⟨rfl,rfl⟩;go_wp2_with fail;refine(HF.o).mono ?_;rintro e w2 ⟨rfl,h,i,-⟩;have a:bk (eG w1 b pl).heap.size (eG w1 b pl) w2:=by rw[d.o,g.o];exact i
 have j:=keep m.o a;obtain⟨-,-,-,d3,-,-,-,-,d8,d9,da,db,dc,-,df⟩:=aM j;have H2:=L j;have l:=L h;have o:=L a;have q:=L c;clear j h i a c P c1 c2 Q R T c6 c7 c8 c9 ca cb cc cd cf;go_wp2_with fail;go_ret;have a:f≠b:=by have:=q.o;omega
 have c:Keeps (λk=>k=b) w2 _:=((((((ah (λk=>k=b) w2).A2 (p:=⟨b,8,J⟩) (S rfl) (W (N ⟨f,0,J⟩))).A2 (p:=⟨b,9,J⟩) (S rfl) (Z J 0 0)).A2 (p:=⟨b,10,J⟩) (S rfl) (I O 0)).A2 (p:=⟨b,11,J⟩) (S rfl) (I ak 0)).A2 (p:=⟨b,12,J⟩) (S rfl) (I ak 0)).A2 (p:=⟨b,3,J⟩) (S rfl) (ai (aj 138) #[] #[]);have h:f<w2.heap.size:=by obtain⟨_,i,a1,a2,a3,j,_⟩:=l.o;exact ao j
 exact⟨rfl,f,Nat.le_of_eq g.o,bx h c.size,aB (aB (aB (aB (aB (aB H2.o _) _) _) _) _) _,l.o.A0 c a,((n.o.A5 (by have:=o.o;rwa[d.o]at this)).B8 c)⟩
theorem aAV(w:V)(b pl:Nat)(A B v3 v4 v5 v6 v7 C D F P Q R:Y)(a:UInt8)(f:a=110\/a=116\/a=102)(z:w.heap[b]?=N (X #[I O pl,A,B,v3,v4,v5,v6,v7,C,D,F,P,Q,R] 228 (0,0))):
 E H 104 #[W (N ⟨b,0,J⟩),I ac ((a.toNat:Nat):Int)] w λe w'=>n8 w b (Z J 0 0) [a] (λv=> #[I O pl,A,B,ai (aj 141) #[] #[],af ae,I O pl,v,I O 0,C,D,F,P,Q,R]) e w':=by
 obtain⟨c0,c1,c2,c3,c4,c5,c6,c7,c8,c9,ca,cb,cc,cd,cf⟩:=aM z;have r:=L (iD a);rw[show aX a=U by rcases f with rfl|rfl|rfl<;>rfl]at r;obtain⟨T,m123,k123⟩:=aD (c:=a) (d:=123) (n:=123) (by rintro rfl;revert f;decide) rfl;obtain⟨n125,m125,k125⟩:=aD (c:=a) (d:=125) (n:=125) (by rintro rfl;revert f;decide) rfl;obtain⟨n91,m91,k91⟩:=aD (c:=a) (d:=91) (n:=91) (by rintro rfl;revert f;decide) rfl;obtain⟨n93,m93,k93⟩:=aD (c:=a) (d:=93) (n:=93) (by rintro rfl;revert f;decide) rfl;obtain⟨n58,m58,k58⟩:=aD (c:=a) (d:=58) (n:=58) (by rintro rfl;revert f;decide) rfl;obtain⟨n44,m44,k44⟩:=aD (c:=a) (d:=44) (n:=44) (by rintro rfl;revert f;decide) rfl;obtain⟨n34,m34,k34⟩:=aD (c:=a) (d:=34) (n:=34) (by rintro rfl;revert f;decide) rfl;obtain⟨n45,m45,k45⟩:=aD (c:=a) (d:=45) (n:=45) (by rintro rfl;revert f;decide) rfl;have f48:(48:Int)<=((a.toNat:Nat):Int):=by rcases f with rfl|rfl|rfl<;>decide
 have f57:¬((a.toNat:Nat):Int)<=57:=by rcases f with rfl|rfl|rfl<;>decide
 have m:=L (lF a);obtain⟨s,h⟩:∃s:ByteArray,(⟨(aN a).toArray⟩:ByteArray)=s:=⟨_,rfl⟩;have hse:s.toList.isEmpty=U:=by rw[<-h,Lib.toList_data];rcases f with rfl|rfl|rfl<;>decide
 have hsl:(s==⟨#[]⟩)=U:=by rw[<-h];rcases f with rfl|rfl|rfl<;>decide
 have hsn:(s !=⟨#[]⟩)=ae:=by rw[<-h];rcases f with rfl|rfl|rfl<;>decide
 rw[h]at m;have i:=l6 (pl:=pl) z;have a0:=L i;have t:=L (gB w b pl);have u:=L (iB w b pl);have hlt:=ao z;have HR:=L (show Win 5 cC ((eG w b pl).alloc (X #[cC a] 5)) (Z J 0 0) []from .E0 _ _ _);unfold eG at HR;clear z i h f;go_enter av,aw;go_wp2_with fail;refine(r.o _).mono ?_;rintro e w1 ⟨rfl,rfl⟩;go_wp2_with fail;refine(m.o _).mono ?_;rintro e w1 ⟨rfl,rfl⟩
 go_wp2_with (at_builtin;refine cW nF rfl _ _ rfl rfl HR.o ⟨w1.heap.size,0,J⟩ 1 a rfl ?_ rfl ?_ ?_ ?_)
 .exact fN (iB w1 b pl).symm
 .first|decide|simp
 .first|decide|simp[maxLen]
 intro g off cap w' h j l;have i:=(l.block b (by rw[World.size_alloc];have:=u.o;unfold eG at this;omega) (λe=>by cases e)).trans ((bh _ _ _ (ao a0.o)).trans a0.o);have x:=L (h.ne i (by decide));have o:w1.heap.size<=g:=j.elim (λe=>by cases e) (λz=>au (by simp[bg]) z.1);have y:=L o;have HK:=L (((t.o.A6 (G:=λk=>k=b\/(Z J 0 0).ownBlock=N k) (λk f=>S f)).A4 (X #[cC a] 5)).F9 l (λk e=>by cases e));have q:=L h;obtain⟨-,-,-,d3,-,-,d6,-,-,-,-,-,-,-,df⟩:=aM i;have r:=L i;clear i h o j l c0 c1 c2 c3 c4 c5 c6 c7 c8 c9 ca cb cc cd cf;go_wp2_with fail;go_ret;refine⟨rfl,g,off,cap,?_,?_,K y.o,(HK.o.A2 (p:=⟨b,6,J⟩) (S (S rfl)) _).A2 (p:=⟨b,3,J⟩) (S (S rfl)) _⟩
 .exact aB (aB r.o _) _
 .exact q.o.A0 (((ah (λk=>k=b) w').A2 (p:=⟨b,6,J⟩) (S rfl) _).A2 (p:=⟨b,3,J⟩) (S rfl) _) (λk e f=>x.o (e.trans (congrArg N f)))
theorem yJ(w:V)(b pl f:Nat)(m n B C D F G q r s t u x:Y)(y:w.heap[b]?=N (X #[I O pl,m,n,B,C,D,F,G,q,r,s,t,u,x] 228 (0,0)))(i:aQ 0 45=N f):
 E H 104 #[W (N ⟨b,0,J⟩),I ac 45] w λe w'=>n8 w b (Z J 0 0) [45] (λv=> #[I O pl,m,n,ai (aj 139) #[] #[],af ae,I O pl,v,I O f,q,r,s,t,u,x]) e w':=by
 obtain⟨T,c1,c2,c3,c4,c5,c6,c7,c8,c9,ca,cb,cc,cd,cf⟩:=aM y;have z:=L (iD 45);rw[show(((45:UInt8).toNat:Nat):Int)=45 from rfl,show aX 45=U from rfl]at z;have c:=l6 (pl:=pl) y;have a:=aB c (o:=3) (ai (aj 139) #[] #[]);simp only[bs,bu,bw]at a;have d:=pX _ b 0 f _ _ _ _ _ _ _ _ _ _ _ _ (Z J 0 0) 45 [] a (by decide) i (.E0 _ _ _) (by decide);simp only[cj,ck]at d;rw[show(((45:UInt8).toNat:Nat):Int)=45 from rfl]at d;have h:=L ((gB w b pl).A2 (p:=⟨b,3,J⟩) (S rfl) (ai (aj 139) #[] #[]));have P:=L (iB w b pl);unfold eG at d;have Q:=L d;clear y c a d i;go_enter av,aw;go_wp2_with fail;refine(z.o _).mono ?_;rintro e w1 ⟨rfl,rfl⟩;go_wp2_with fail;refine(Q.o).mono ?_;rintro e w2 ⟨rfl,g,off,cap,A,a,c,d⟩;have R:=L A;have i:=L a;have j:=L c;have l:=L d;clear A a c d;go_wp2_with fail;go_ret;refine⟨rfl,g,off,cap,R.o,i.o,j.o.elim S (λy=>K (au (by simp[bg]) y)),(h.o.A6 (λk a=>S a)).B8 l.o⟩
theorem aAW(w:V)(b pl m:Nat)(s t v3 v4 v5 v6 v7 u x y z A B:Y)(h:UInt8)(C:w.heap[b]?=N (X #[I O pl,s,t,v3,v4,v5,v6,v7,u,x,y,z,A,B] 228 (0,0)))(a:48<=h.toNat)(f:h.toNat<=57)(r:aQ 0 h=N m):
 E H 104 #[W (N ⟨b,0,J⟩),I ac ((h.toNat:Nat):Int)] w λe w'=>n8 w b (Z J 0 0) [h] (λv=> #[I O pl,s,t,ai (aj 139) #[] #[],af ae,I O pl,v,I O m,u,x,y,z,A,B]) e w':=by
 obtain⟨c0,c1,c2,c3,c4,c5,c6,c7,c8,c9,ca,cb,cc,cd,cf⟩:=aM C;have D:=L (iD h);rw[aEo a]at D;obtain⟨F,G,P⟩:=aD (c:=h) (d:=123) (n:=123) (by intro e;subst e;simp at a f) rfl;obtain⟨Q,R,T⟩:=aD (c:=h) (d:=125) (n:=125) (by intro e;subst e;simp at a f) rfl;obtain⟨n91,m91,k91⟩:=aD (c:=h) (d:=91) (n:=91) (by intro e;subst e;simp at a f) rfl;obtain⟨n93,m93,k93⟩:=aD (c:=h) (d:=93) (n:=93) (by intro e;subst e;simp at a f) rfl;obtain⟨n58,m58,k58⟩:=aD (c:=h) (d:=58) (n:=58) (by intro e;subst e;simp at a f) rfl;obtain⟨n44,m44,k44⟩:=aD (c:=h) (d:=44) (n:=44) (by intro e;subst e;simp at a f) rfl;obtain⟨n34,m34,k34⟩:=aD (c:=h) (d:=34) (n:=34) (by intro e;subst e;simp at a f) rfl;obtain⟨-,m45,-⟩:=aD (c:=h) (d:=45) (n:=45) (by intro e;subst e;simp at a f) rfl;have f48:(48:Int)<=((h.toNat:Nat):Int):=by omega
 have f57:((h.toNat:Nat):Int)<=57:=by omega
 have j:=l6 (pl:=pl) C;have i:=aB j (o:=3) (ai (aj 139) #[] #[]);simp only[bs,bu,bw]at i;have l:=pX _ b 0 m _ _ _ _ _ _ _ _ _ _ _ _ (Z J 0 0) h [] i (by decide) r (.E0 _ _ _) (by decide);simp only[cj,ck]at l;clear a f;have q:=L ((gB w b pl).A2 (p:=⟨b,3,J⟩) (S rfl) (ai (aj 139) #[] #[]));have HBZ:=L (iB w b pl);unfold eG at l;have HN:=L l;clear C j i l r;go_enter av,aw;go_wp2_with fail;refine(D.o _).mono ?_;rintro e w1 ⟨rfl,rfl⟩;go_wp2_with fail;refine(HN.o).mono ?_;rintro e w2 ⟨rfl,g,off,cap,h2,a,f,i⟩;have H2:=L h2;have j:=L a;have l:=L f;have r:=L i;clear h2 a f i;go_wp2_with fail;go_ret;refine⟨rfl,g,off,cap,H2.o,j.o,l.o.elim S (λC=>K (au (by simp[bg]) C)),(q.o.A6 (λk a=>S a)).B8 r.o⟩
theorem wY(w:V)(b pl:Nat)(t u v x y z A B C D F G P:Y)(f:UInt8)(a0:w.heap[b]?=N (X #[I O pl,t,u,v,x,y,z,A,B,C,D,F,G,P] 228 (0,0)))(k:aX f=U)(g:bJ f=U)(h:f≠34)(a:f≠45)(Q:f.toNat<48)(i:aN f= []):
 E H 104 #[W (N ⟨b,0,J⟩),I ac ((f.toNat:Nat):Int)] w λe w'=>e=ag (I O 94)/\w'=eG w b pl:=by
 obtain⟨c0,c1,c2,c3,c4,c5,c6,c7,c8,c9,ca,cb,cc,cd,cf⟩:=aM a0;have l:=L (iD f);rw[k]at l;have j:=L (lF f);rw[i]at j;obtain⟨m,o,p⟩:=aD (c:=f) (d:=123) (n:=123) (by intro e;subst e;simp[bJ]at g h a) rfl;obtain⟨q,r,s⟩:=aD (c:=f) (d:=125) (n:=125) (by intro e;subst e;simp[bJ]at g h a) rfl;obtain⟨R,T,k91⟩:=aD (c:=f) (d:=91) (n:=91) (by intro e;subst e;simp[bJ]at g h a) rfl;obtain⟨n93,m93,k93⟩:=aD (c:=f) (d:=93) (n:=93) (by intro e;subst e;simp[bJ]at g h a) rfl;obtain⟨n58,m58,k58⟩:=aD (c:=f) (d:=58) (n:=58) (by intro e;subst e;simp[bJ]at g h a) rfl;obtain⟨n44,m44,k44⟩:=aD (c:=f) (d:=44) (n:=44) (by intro e;subst e;simp[bJ]at g h a) rfl;obtain⟨n34,m34,k34⟩:=aD (c:=f) (d:=34) (n:=34) (by intro e;subst e;simp[bJ]at g h a) rfl;obtain⟨-,m45,-⟩:=aD (c:=f) (d:=45) (n:=45) (by intro e;subst e;simp[bJ]at g h a) rfl;have f48:¬(48:Int)<=((f.toNat:Nat):Int):=by omega
 clear a0 k g h a Q i;go_enter av,aw;go_wp2_with fail;refine(l.o _).mono ?_;rintro e w1 ⟨rfl,rfl⟩;go_wp2_with fail;refine(j.o _).mono ?_;rintro e w1 ⟨rfl,rfl⟩;go_wp2_with fail;go_ret;exact⟨rfl,rfl⟩
theorem yK(w:V)(b pl:Nat)(t u v x y z A B C D F G P:Y)(a:UInt8)(a0:w.heap[b]?=N (X #[I O pl,t,u,v,x,y,z,A,B,C,D,F,G,P] 228 (0,0)))(k:aX a=U)(g:bJ a=U)(h:a≠34)(f:a≠45)(Q:57<a.toNat)(i:aN a= []):
 E H 104 #[W (N ⟨b,0,J⟩),I ac ((a.toNat:Nat):Int)] w λe w'=>e=ag (I O 94)/\w'=eG w b pl:=by
 obtain⟨c0,c1,c2,c3,c4,c5,c6,c7,c8,c9,ca,cb,cc,cd,cf⟩:=aM a0;have l:=L (iD a);rw[k]at l;have j:=L (lF a);rw[i]at j;obtain⟨m,o,p⟩:=aD (c:=a) (d:=123) (n:=123) (by intro e;subst e;simp[bJ]at g h f) rfl;obtain⟨q,r,s⟩:=aD (c:=a) (d:=125) (n:=125) (by intro e;subst e;simp[bJ]at g h f) rfl;obtain⟨R,T,k91⟩:=aD (c:=a) (d:=91) (n:=91) (by intro e;subst e;simp[bJ]at g h f) rfl;obtain⟨n93,m93,k93⟩:=aD (c:=a) (d:=93) (n:=93) (by intro e;subst e;simp[bJ]at g h f) rfl;obtain⟨n58,m58,k58⟩:=aD (c:=a) (d:=58) (n:=58) (by intro e;subst e;simp[bJ]at g h f) rfl;obtain⟨n44,m44,k44⟩:=aD (c:=a) (d:=44) (n:=44) (by intro e;subst e;simp[bJ]at g h f) rfl;obtain⟨n34,m34,k34⟩:=aD (c:=a) (d:=34) (n:=34) (by intro e;subst e;simp[bJ]at g h f) rfl;obtain⟨-,m45,-⟩:=aD (c:=a) (d:=45) (n:=45) (by intro e;subst e;simp[bJ]at g h f) rfl;have f48:(48:Int)<=((a.toNat:Nat):Int):=by omega
 have f57:¬((a.toNat:Nat):Int)<=57:=by omega
 clear a0 k g h f Q i;go_enter av,aw;go_wp2_with fail;refine(l.o _).mono ?_;rintro e w1 ⟨rfl,rfl⟩;go_wp2_with fail;refine(j.o _).mono ?_;rintro e w1 ⟨rfl,rfl⟩;go_wp2_with fail;go_ret;exact⟨rfl,rfl⟩
theorem yL(w:V)(b f pl:Nat)(r g l t n s a i c m d q o:Y)(h:w.heap[b]?=N (X #[r,g,l,t,n,s,a,i,W (N ⟨f,0,J⟩),c,m,d,q,o] 228 (0,0)))
 (j:Feeds w f pl []):
 E H 138 #[W (N ⟨b,0,J⟩),I ac 92] w λe w'=>qP w b 0 #[r,g,l,ai (aj 168) #[] #[],n,s,a,i,W (N ⟨f,0,J⟩),c,m,d,q,o] e w':=by
 obtain⟨B,c1,c2,F,C,G,Q,z,x,y,A,D,v,cd,P⟩:=aM h;have R:=L h;have u:=L (held_any w f pl [] j);clear h j;go_enter az,ba;go_wp2_with fail;refine(u.o).mono ?_;rintro e w1 ⟨rfl,rfl⟩;go_wp2_with fail;go_ret;exact⟨rfl,aB R.o _,(ah (λk=>k=b) w1).A2 (p:=⟨b,3,J⟩) (S rfl) _⟩
theorem wZ(w:V)(b f pl:Nat)(i j k l m o p q r s t u v:Y)(a:UInt8)(z:w.heap[b]?=N (X #[i,j,k,l,m,o,p,q,W (N ⟨f,0,J⟩),r,s,t,u,v] 228 (0,0)))
 (h:Feeds w f pl [])(g:a.toNat<32):
 E H 138 #[W (N ⟨b,0,J⟩),I ac ((a.toNat:Nat):Int)] w λe w'=>e=ag (I O 91)/\w'=w:=by
 obtain⟨A,c1,c2,B,C,D,F,G,P,Q,R,T,cc,cd,cf⟩:=aM z;have x:=L (held_any w f pl [] h);obtain⟨n1,n2,n3⟩:=aD (c:=a) (d:=34) (n:=34) (by intro e;subst e;exact absurd g (by decide)) rfl;obtain⟨-,m2,-⟩:=aD (c:=a) (d:=92) (n:=92) (by intro e;subst e;exact absurd g (by decide)) rfl;have y:((a.toNat:Nat):Int)<32:=by omega
 clear z h g;go_enter az,ba;go_wp2_with fail;refine(x.o).mono ?_;rintro e w1 ⟨rfl,rfl⟩;go_wp2_with fail;go_ret;exact⟨rfl,rfl⟩
theorem aEp(w:V)(b f A pl st:Nat)(B C v3 v4 D F G P Q a d:Y)(l:List UInt8)(toks:List Y)(n:w.heap[b]?=N (X #[I O pl,B,C,v3,v4,I O st,D,F,W (N ⟨f,0,J⟩),a,G,P,Q,d] 228 (0,0)))
 (x:Feeds w f A [])(m:Win 5 cC w a l)(o:Win 232 id w d toks)(p:toks.length<=1000)(hle:st<=pl+1)(hpl:pl<=1073741823):
 E H 138 #[W (N ⟨b,0,J⟩),I ac 34] w λe w'=>jF w b d toks (bS (.str st (pl+1-st) l)) (λv=> #[I O pl,B,C,ai (aj 104) #[] #[],af U,I O st,D,F,W (N ⟨f,0,J⟩),a,G,P,Q,v]) (I O 0) e w':=by
 obtain⟨c0,c1,c2,c3,c4,c5,c6,c7,c8,c9,ca,cb,cc,cd,cf⟩:=aM n;have HF:=L (held_any w f A [] x);have a0:=L n;have HW:=L o;have HR:=L m;have c:∀w1,bk w.heap.size w w1->(convert 22 9 a).run H w1=.ok (bz ⟨l.toArray⟩) w1:=λw1 h=>fH (m.A0 (bp (λ_=>False) h) (λ_ _=>id))
 have q:=c w.drew (co _ _).drew;have R:=L c;obtain⟨s,r⟩:∃s:ByteArray,(⟨l.toArray⟩:ByteArray)=s:=⟨_,rfl⟩;rw[r]at q R;have t:=L (qK w.drew b _ st (pl+1) n rfl (by omega) (by omega));rw[show((pl+1:Nat):Int)=(pl:Int)+1 by omega]at t;obtain⟨i,j⟩:∃i,pl+1-st=i:=⟨_,rfl⟩;rw[j]at t⊢;have HT:=L (λw'(h:bk w.heap.size w w')=>qL w' b _ _ _ _ _ _ _ _ _ _ _ _ _ d 241 (bm #[I O st,I O (i:Int),bz s]) toks (keep n h) (o.A0 (bp (λ_=>False) h) (λ_ _=>id)) p);have hlt:=ao n;have k:∀w1,bk w.heap.size w w1->w1.cell? ⟨b,9,J⟩=N a:=λw1 h=>aA (keep n h)
 have HD:=L k;have u:=L r;have T:O.wrap ((pl:Int)+1)=(pl:Int)+1:=by rw[cv];omega
 clear n x m o c r j k;go_enter az,ba;go_wp2_with fail;refine(HF.o).mono ?_;rintro e w1 ⟨rfl,rfl⟩;go_wp2_with fail
 go_region_with (first|(go_at_call 136;refine(t.o).mono ?_;rintro e w2 ⟨rfl,h⟩;have c:=(co w1.heap.size w1).drew.trans h;have o:=HD.o w2 c;have r:=R.o w2 c)|(go_at_call 135;refine(HT.o _ c).mono ?_;rintro e w3 ⟨rfl,g,off,cap,h3,j,k,m⟩;have H3:=L h3;have x:=L j;have y:=L k;have z:=L m;clear h3 j k m))
 all_goals
  have j:=L c;clear h c o r;go_wp2_with fail;go_ret;have c:bS (.str st i l)=cg 241 (bm #[I O st,I O (i:Int),bz s]):=by rw[<-u.o];rfl
  rw[c];exact⟨rfl,g,off,cap,H3.o,x.o,y.o.elim S (λn=>K (au j.o.size n)),(bp _ j.o).B8 z.o⟩
theorem aCC(w:V)(f b:Nat)(held:List UInt8)(a:UInt8)(g:Nat)(h:Feeds w f b held)(d:w.heap[g]?=N (X #[cC a] 5 (0,0)))(j:b<=1073741824):
 E H 169 #[W (N ⟨f,0,J⟩),Z (N ⟨g,0,J⟩) 1 1] w λe w'=>feedRet w' f b 1 (aK held a) e/\Keeps (λk=>k=f) w w':=by
 have c:g≠f:=by
  obtain⟨_,m,a1,a2,a3,l,_⟩:=h;intro e;subst e;rw[d]at l;simp at l
 have:=feed_any w f b held [a] (N ⟨g,0,J⟩) 1 h (K ⟨g,0,rfl,c,ao d,λi x hi=>by
  rw[aA d];cases i with
  | zero=>simp at hi;subst hi;rfl
  | succ i=>simp at hi⟩) (by simp) j
 rw[show aP held [a]=aK held a from rfl]at this;exact this
def oR(held:List UInt8)(a:UInt8):Prop:=held≠ []\/(a≠34/\a≠92/\32<=a.toNat)
theorem aEq(w:V)(b f l:Nat)(v x y z A B C D G P Q R T:Y)(a:UInt8)(held:List UInt8)(o:w.heap[b]?=N (X #[v,x,y,z,A,B,C,D,W (N ⟨f,0,J⟩),G,P,Q,R,T] 228 (0,0)))
 (j:Feeds w f l held)(s:l<=1073741824)(r:oR held a)(g:aK held a=J):
 E H 138 #[W (N ⟨b,0,J⟩),I ac ((a.toNat:Nat):Int)] w λe w'=>e=ag (I O 90)/\Keeps (λk=>k=f) w w':=by
 obtain⟨c0,c1,c2,c3,c4,c5,c6,c7,c8,c9,ca,cb,cc,cd,cf⟩:=aM o;have m:=L (held_any w f l held j);have i:Feeds (w.alloc (X #[cC a] 5)) f l held:=j.A0 (F:=λ_=>False) ((ah _ w).A4 _) id;have h:=L (aCC _ f l held a w.heap.size i (cr w _) s);rw[g]at h;clear o j i g;unfold oR at r;rcases r with r|⟨i,j,o⟩
 .have t:(((held.length:Nat):Int)==0)=U:=by cases held<;>simp_all;omega
  obtain⟨n,q⟩:∃n,held.length=n:=⟨_,rfl⟩;rw[q]at t m;clear r q;go_enter az,ba;go_wp2_with fail;refine(m.o).mono ?_;rintro e w1 ⟨rfl,rfl⟩;go_wp2_with fail;refine(h.o).mono ?_;rintro e w2 ⟨⟨p,rfl,-⟩,g⟩;have r:=L g;clear g;go_wp2_with fail;go_ret;exact⟨rfl,((ah (λk=>k=f) w1).A4 (X #[cC a] 5)).B8 r.o⟩
 .by_cases u:held= []
  .subst u;obtain⟨-,n2,-⟩:=aD (c:=a) (d:=34) (n:=34) i rfl;obtain⟨-,m2,-⟩:=aD (c:=a) (d:=92) (n:=92) j rfl;have hlt:¬((a.toNat:Nat):Int)<32:=by omega
   clear i j o;go_enter az,ba;go_wp2_with fail;refine(m.o).mono ?_;rintro e w1 ⟨rfl,rfl⟩;go_wp2_with fail;refine(h.o).mono ?_;rintro e w2 ⟨⟨p,rfl,-⟩,g⟩;have r:=L g;clear g;go_wp2_with fail;go_ret;exact⟨rfl,((ah (λk=>k=f) w1).A4 (X #[cC a] 5)).B8 r.o⟩
  .have t:(((held.length:Nat):Int)==0)=U:=by cases held<;>simp_all;omega
   obtain⟨n,q⟩:∃n,held.length=n:=⟨_,rfl⟩;rw[q]at t m;clear i j o u q;go_enter az,ba;go_wp2_with fail;refine(m.o).mono ?_;rintro e w1 ⟨rfl,rfl⟩;go_wp2_with fail;refine(h.o).mono ?_;rintro e w2 ⟨⟨p,rfl,-⟩,g⟩;have r:=L g;clear g;go_wp2_with fail;go_ret;exact⟨rfl,((ah (λk=>k=f) w1).A4 (X #[cC a] 5)).B8 r.o⟩
theorem aCD(w:V)(b f G:Nat)(v0 v1 v2 v3 v4 v5 v6 v7 va vb vc vd a:Y)(j:UInt8)(held h l:List UInt8)(a4:w.heap[b]?=N (X #[v0,v1,v2,v3,v4,v5,v6,v7,W (N ⟨f,0,J⟩),a,va,vb,vc,vd] 228 (0,0)))
 (x:Feeds w f G held)(y:Win 5 cC w a l)(hl:l.length<=1073741824)(hfp:G<=1073741824)(A:oR held j)(i:aK held j=N h):
 E H 138 #[W (N ⟨b,0,J⟩),I ac ((j.toNat:Nat):Int)] w λe w'=>e=ag (I O 0)/\∃g off cap,w'.heap[b]?=N (X #[v0,v1,v2,v3,v4,v5,v6,v7,W (N ⟨f,0,J⟩),Z (N ⟨g,off,J⟩) (l.length+1) cap,va,vb,vc,vd] 228 (0,0))/\
  Win 5 cC w' (Z (N ⟨g,off,J⟩) (l.length+1) cap) (l++ [j])/\(a.ownBlock=N g\/w.heap.size<=g)/\Feeds w' f (G+1) h/\Keeps (λk=>k=b\/k=f\/a.ownBlock=N k) w w':=by
 obtain⟨c0,c1,c2,c3,c4,c5,c6,c7,c8,c9,ca,cb,cc,cd,cf⟩:=aM a4;have HF:=L (held_any w f G held x);have z:Feeds (w.alloc (X #[cC j] 5)) f G held:=x.A0 (F:=λ_=>False) ((ah _ w).A4 _) id;have q:=aCC _ f G held j w.heap.size z (cr w _) hfp;rw[i]at q
 have r:b≠f:=by
  obtain⟨_,a0,a1,a2,a3,u,_⟩:=x;intro e;subst e;rw[a4]at u;simp at u
 have v:∀k,a.ownBlock=N k->k≠f:=by
  obtain⟨_,a0,a1,a2,a3,u,_⟩:=x;intro k t e;subst e;exact y.ne u (by decide) t
 have HNE:=L (y.ne a4 (by decide));have HSF:=L v;have HBF:=L r;have P:=ao a4;have m:(w.alloc (X #[cC j] 5)).heap[b]?=_:=(bh w _ _ P).trans a4;have o:Win 5 cC (w.alloc (X #[cC j] 5)) a l:=y.A0 (F:=λ_=>False) ((ah _ w).A4 _) (λ_ _=>id)
 have HFD:=L (q.mono (R':=λe w2=>e=ag ar/\Feeds w2 f (G+1) h/\w2.heap[b]?=N (X #[v0,v1,v2,v3,v4,v5,v6,v7,W (N ⟨f,0,J⟩),a,va,vb,vc,vd] 228 (0,0))/\Win 5 cC (w2.alloc (X #[cC j] 5)) a l/\Keeps (λk=>k=f) w w2/\w.heap.size<w2.heap.size)
  λe w2 ⟨⟨B,s⟩,t⟩=>⟨B,s,t.C4 m r,(o.A0 t (λk e=>v k e)).A0 (F:=λ_=>False) ((ah _ w2).A4 _) (λ_ _=>id),((ah (λk=>k=f) w).A4 (X #[cC j] 5)).B8 t,bx (by simp) t.size⟩)
 obtain⟨ta,tc,htv⟩:=y.A8;clear a4 x z i q r v m o y;subst htv
 have hway:(((held.length:Nat):Int)==0)=U\/(held= []/\j≠34/\j≠92/\32<=j.toNat):=by
  unfold oR at A
  by_cases i:held= []
  .exact K ⟨i,(A.resolve_left (λa4=>a4 i))⟩
  .left;cases held<;>simp_all;omega
 clear A;rcases hway with E1|⟨rfl,hc1,hc2,hc3⟩
 .obtain⟨n,i⟩:∃n,held.length=n:=⟨_,rfl⟩;rw[i]at E1 HF;clear i;go_enter az,ba;go_wp2_with fail;refine(HF.o).mono ?_;rintro e w1 ⟨rfl,rfl⟩;go_wp2_with fail;refine(HFD.o).mono ?_;rintro e w2 ⟨rfl,s,m,v,x,y⟩;obtain⟨-,-,-,-,-,-,-,-,-,d9,-,-,-,-,-⟩:=aM m;have Q:=L v;have R:=L s;have T:=L m;have HK2:=L x;have HS2:=L y;have z:=L (ao m);clear s m v x y c0 c1 c2 c3 c4 c5 c6 c7 c8 c9 ca cb cc cd cf P
  go_wp2_with (at_builtin;refine cW nF rfl _ _ rfl rfl Q.o ⟨w2.heap.size,0,J⟩ 1 j rfl ?_ rfl ?_ ?_ ?_)
  .exact fN rfl
  .omega
  .unfold maxLen;omega
  intro g off cap w' i r o;have q:=(o.block b (by have:=z.o;simp;omega) (λe=>HNE.o e.symm)).trans ((bh w2 _ _ z.o).trans T.o);have HNG:=L (i.ne q (by decide));have HGB:=L (show(Z ta l.length tc).ownBlock=N g\/w1.heap.size<=g from r.elim S (λa4=>K (au (ct HS2.o) (au (by simp) a4.1))))
  have A:Feeds w' f (G+1) h:=by
   obtain⟨hok,a0,a1,a2,a3,u,h9⟩:=R.o;exact⟨hok,a0,a1,a2,a3,(o.block f (by have:=ao u;simp;omega) (λe=>HSF.o f e.symm rfl)).trans ((bh w2 _ _ (ao u)).trans u),h9⟩
  have HFA:=L A;have B:Keeps (λk=>k=b\/k=f\/(Z ta l.length tc).ownBlock=N k) w1 w':=((HK2.o.A6 (λk t=>K (S t))).A4 (X #[cC j] 5)).F9 o (λk e=>S (K (K e)));have HKK:=L B;have C:=L i;obtain⟨-,-,-,-,-,-,-,-,-,e9,-,-,-,-,ef⟩:=aM q;have HB3:=L q;clear q i r o A B d9;go_wp2_with fail;go_ret;have D:Keeps (λk=>k=b) w' (w'.setCell ⟨b,9,J⟩ (Z (N ⟨g,off,J⟩) (l.length+1) cap)):=(ah (λk=>k=b) w').A2 (p:=⟨b,9,J⟩) (S rfl) _;exact⟨rfl,g,off,cap,aB HB3.o _,C.o.A0 D (λk e t=>HNG.o (e.trans (congrArg N t))),HGB.o,HFA.o.A0 D (λe=>HBF.o e.symm),HKK.o.A2 (p:=⟨b,9,J⟩) (S (S rfl)) _⟩
 .obtain⟨-,n2,-⟩:=aD (c:=j) (d:=34) (n:=34) hc1 rfl;obtain⟨-,m2,-⟩:=aD (c:=j) (d:=92) (n:=92) hc2 rfl;have hlt2:¬((j.toNat:Nat):Int)<32:=by omega
  clear hc1 hc2 hc3;go_enter az,ba;go_wp2_with fail;refine(HF.o).mono ?_;rintro e w1 ⟨rfl,rfl⟩;go_wp2_with fail;refine(HFD.o).mono ?_;rintro e w2 ⟨rfl,s,m,v,x,y⟩;obtain⟨-,-,-,-,-,-,-,-,-,d9,-,-,-,-,-⟩:=aM m;have Q:=L v;have R:=L s;have T:=L m;have HK2:=L x;have HS2:=L y;have z:=L (ao m);clear s m v x y c0 c1 c2 c3 c4 c5 c6 c7 c8 c9 ca cb cc cd cf P
  go_wp2_with (at_builtin;refine cW nF rfl _ _ rfl rfl Q.o ⟨w2.heap.size,0,J⟩ 1 j rfl ?_ rfl ?_ ?_ ?_)
  .exact fN rfl
  .omega
  .unfold maxLen;omega
  intro g off cap w' i r o;have q:=(o.block b (by have:=z.o;simp;omega) (λe=>HNE.o e.symm)).trans ((bh w2 _ _ z.o).trans T.o);have HNG:=L (i.ne q (by decide));have HGB:=L (show(Z ta l.length tc).ownBlock=N g\/w1.heap.size<=g from r.elim S (λa4=>K (au (ct HS2.o) (au (by simp) a4.1))))
  have A:Feeds w' f (G+1) h:=by
   obtain⟨hok,a0,a1,a2,a3,u,h9⟩:=R.o;exact⟨hok,a0,a1,a2,a3,(o.block f (by have:=ao u;simp;omega) (λe=>HSF.o f e.symm rfl)).trans ((bh w2 _ _ (ao u)).trans u),h9⟩
  have HFA:=L A;have B:Keeps (λk=>k=b\/k=f\/(Z ta l.length tc).ownBlock=N k) w1 w':=((HK2.o.A6 (λk t=>K (S t))).A4 (X #[cC j] 5)).F9 o (λk e=>S (K (K e)));have HKK:=L B;have C:=L i;obtain⟨-,-,-,-,-,-,-,-,-,e9,-,-,-,-,ef⟩:=aM q;have HB3:=L q;clear q i r o A B d9;go_wp2_with fail;go_ret;have D:Keeps (λk=>k=b) w' (w'.setCell ⟨b,9,J⟩ (Z (N ⟨g,off,J⟩) (l.length+1) cap)):=(ah (λk=>k=b) w').A2 (p:=⟨b,9,J⟩) (S rfl) _;exact⟨rfl,g,off,cap,aB HB3.o _,C.o.A0 D (λk e t=>HNG.o (e.trans (congrArg N t))),HGB.o,HFA.o.A0 D (λe=>HBF.o e.symm),HKK.o.A2 (p:=⟨b,9,J⟩) (S (S rfl)) _⟩
section
section
variable {F G:Nat->Prop} {w w':V} {b:Nat} {x:Lx} {dn:Bool} {toks:List Tok}
theorem cE.A6(h:cE F w b x dn toks)(g:∀k,F k->G k)(e:∀k,G k->k<w.heap.size):cE G w b x dn toks:=by
 obtain⟨j,_,d,f,a,c,i,l,m⟩:=h;exact⟨g _ j,e,d,f,a,c,i,l.A6 g,m.A6 g⟩
theorem dR.A6{pl st:Nat}{a:Y}(h:dR F w b pl st a toks)(e:∀k,F k->G k)(d:∀k,G k->k<w.heap.size):dR G w b pl st a toks:=by
 obtain⟨n,_,p,f,r,g,m,t,i,q,l,s,c,j,o⟩:=h;exact⟨e _ n,d,p,f,r,g,m,t,i,q,l,s,c,j,o.A6 e⟩
theorem cE.H8(h:cE F w b x dn toks):dR F w b x.place x.start ar toks:=by
 obtain⟨j,c,e,g,d,a,i,f,-⟩:=h;exact⟨j,c,_,_,_,_,_,_,_,_,_,_,a,i,f⟩
theorem cE.lt(h:cE F w b x dn toks):∀k,F k->k<w.heap.size:=h.2.1
end
def eQ(F:Nat->Prop)(w:V)(b:Nat)(pl:Nat)(toks:List Tok)(r:mW)(e:bc)(w':V):Prop:=
 e=ag (I O r.no)/\Keeps F w w'/\(r.no=0->cE (Since F w w') w' b r.lx U (toks++r.toks))/\(r.no≠0->dR (Since F w w') w' b pl r.lx.start ar (toks++r.toks))
theorem eQ.I1{F:Nat->Prop}{w w':V}{b pl:Nat}{toks:List Tok}{y:Lx}{a:List Tok}{e:bc}(d:e=ag (I O 0))(c:Keeps F w w')(h:cE (Since F w w') w' b y U (toks++a)):eQ F w b pl toks ⟨y,a,0⟩ e w':=
 ⟨d,c,λ_=>h,λf=>absurd rfl f⟩
theorem eQ.M2{F:Nat->Prop}{w w':V}{b pl no:Nat}{toks:List Tok}{y:Lx}{c:List Tok}{e:bc}(a:no≠0)(f:e=ag (I O no))(d:Keeps F w w')(h:dR (Since F w w') w' b pl y.start ar (toks++c)):eQ F w b pl toks ⟨y,c,no⟩ e w':=
 ⟨f,d,λg=>absurd g a,λ_=>h⟩
theorem aAX{F:Nat->Prop}{w w':V}{b:Nat}{d t v:Y}{toks:List Tok}{tok:Tok}{e:bc}{y:Lx}{i m a:Y}(s:F b)(o:∀k,F k->k<w.heap.size)(x:fC F 232 id w d (toks.map bS))(z:t=bS tok)(j:y.st=.outside){c:Y->Array Y}
 (D:∀u,c u= #[I O y.place,ar,af U,ai (aj 104) #[] #[],af y.isIn,I O y.start,i,I O y.number,m,a,I O y.digits,I ak y.code,I ak y.high,u])
 (h:jF w b d (toks.map bS) t c v e w'):e=ag v/\Keeps F w w'/\cE (Since F w w') w' b y U (toks++ [tok]):=by
 obtain⟨C,g,off,cap,A,f,B,p⟩:=h;have l:Keeps F w w':=p.A6 λk p=>p.elim (λe=>e▸s) (λe=>x.2 k e)
 refine⟨C,l,S s,aF o l.size,i,m,a,_,by rw[A,D,j];rfl,⟨?_,?_⟩,⟨λn=>?_,λn=>?_⟩⟩
 .rw[List.map_append,List.map_cons,List.map_nil,<-z];exact f
 .intro k q;cases q;exact B.elim (λe=>S (x.2 _ e)) (λr=>K ⟨r,f.lt rfl⟩)
 .rw[j]at n;exact absurd n (by decide)
 .rw[j]at n;exact absurd n (by decide)
theorem aAY{F:Nat->Prop}{w w':V}{b:Nat}{a i:Y}{toks:List Tok}{l:List UInt8}{e:bc}{y:Lx}{p f:Y}(B:F b)(r:∀k,F k->k<w.heap.size)(t:fC F 232 id w a (toks.map bS))(C:∀k,i.ownBlock=N k->F k)(j:y.st=.letter\/y.st=.numeral)(Q:y.raw=l){c:Y->Array Y}
 (s:∃A,w.heap[b]?=N (X A 228 (0,0)))(x:∀k,i.ownBlock=N k->a.ownBlock≠N k)
 (T:∀u,c u= #[I O y.place,ar,af U,ai (aj (pC y.st)) #[] #[],af y.isIn,I O y.start,u,I O y.number,p,f,I O y.digits,I ak y.code,I ak y.high,a])
 (h:n8 w b i l c e w'):e=ag (I O 0)/\Keeps F w w'/\cE (Since F w w') w' b y U toks:=by
 obtain⟨R,g,off,cap,G,m,P,q⟩:=h;have o:Keeps F w w':=q.A6 λk q=>q.elim (λe=>e▸B) (λe=>C k e)
 obtain⟨A,v⟩:=s;refine⟨R,o,S B,aF r o.size,_,p,f,a,by rw[G,T],⟨t.1.A0 q ?_,λk d=>S (t.2 k d)⟩,⟨λ_=>⟨by rw[Q];exact m,?_⟩,λD=>?_⟩⟩
 .intro k d n;rcases n with rfl|n
  .exact t.1.ne v (by decide) d
  .exact x k n d
 .intro k d;cases d;exact P.elim (λe=>S (C _ e)) (λz=>K ⟨z,m.lt rfl⟩)
 .rcases j with j|j<;>(rw[j]at D;exact absurd D (by decide))
theorem aEr{c:UInt8}(h:aN c≠ []):c=110\/c=116\/c=102:=by
 unfold aN at h;split at h
 .exact S ‹_›
 .split at h
  .exact K (S ‹_›)
  .split at h
   .exact K (K ‹_›)
   .exact absurd rfl h
theorem aEs{c:UInt8}(h:bJ c=ae):c=123\/c=125\/c=91\/c=93\/c=58\/c=44:=by
 simpa[bJ,or_assoc]using h
theorem rU(F:Nat->Prop)(w:V)(b:Nat)(x:Lx)(toks:List Tok)(c:UInt8)(a0:cE F w b x U toks)(hst:x.st=.outside)(hpl:x.place<=16777216)(R:toks.length<=1000):
 E H 104 #[W (N ⟨b,0,J⟩),I ac ((c.toNat:Nat):Int)] w λe w'=>eQ F w b x.place toks (aO x c) e w':=by
 have h0:=a0;obtain⟨t,j,T,z,h,a,l,q,hs⟩:=a0;have A:(toks.map bS).length<=1000:=by simpa using R
 unfold aO
 by_cases m:aX c=ae
 .rw[if_pos m];refine(yH w b c m).mono ?_;rintro e w' ⟨rfl,rfl⟩;exact .I1 rfl (ah _ _) (by rw[bj];exact h0.A6 (λk g=>S g) (aF j (cu _)))
 rw[if_neg m];simp only[]
 by_cases P:bJ c=ae
 .rw[if_pos P]
  have i:E H 104 #[W (N ⟨b,0,J⟩),I ac ((c.toNat:Nat):Int)] w λe w'=>jF w b a (toks.map bS) (bS (.mark x.place c)) (λv=> #[I O x.place,ar,af U,ai (aj 104) #[] #[],af U,I O x.place,Z J 0 0,I O 0,z,h,I O x.digits,I ak x.code,I ak x.high,v]) (I O 0) e w':=by
   exact aAU w b x.place _ _ _ _ _ _ _ _ _ _ _ _ a c (aEs P) _ l q.1 A (by omega)
  refine i.mono λe w' s=>?_
  obtain⟨B,g,C⟩:=aAX (y:=Lx.F3 {x with isIn:=ae,start:=x.place,raw:= [],number:=0}) (tok:=.mark x.place c) t j q rfl rfl (λu=>rfl) s;exact .I1 B g C
 rw[if_neg P]
 by_cases D:c=34
 .rw[if_pos D];subst D;refine(yI w b x.place _ _ _ _ _ _ _ _ _ _ _ _ a l).mono ?_;rintro e w' ⟨rfl,f,d,n,o,p,g⟩;have r:Keeps F w w':=g.A6 (λk e=>e▸t);exact .I1 rfl r ⟨S t,aF j g.size,_,_,_,a,o,by rw[bj];exact q.A0 (G:=λk=>k=b) g (λk e g=>q.1.ne l (by decide) (e.trans (congrArg N g))),⟨λhs=>absurd hs (by simp),λ_=>⟨.E0 _ _ _ _,f,0,rfl,p,K ⟨d,n⟩,Nat.zero_le _⟩⟩⟩
 rw[if_neg D]
 by_cases d:c=45\/isD c=ae
 .rw[if_pos d]
  obtain⟨r,p⟩:∃r,aQ 0 c=N r:=by
   rcases d with rfl|Q
   .exact⟨1,rfl⟩
   .by_cases n:c=48
    .subst n;exact⟨2,rfl⟩
    .have o:c≠45:=by intro e;subst e;exact absurd Q (by decide)
     exact⟨3,by simp[aQ,n,o,Q]⟩
  unfold kO;rw[p]
  have i:E H 104 #[W (N ⟨b,0,J⟩),I ac ((c.toNat:Nat):Int)] w λe w'=>n8 w b (Z J 0 0) [c] (λv=> #[I O x.place,ar,af U,ai (aj 139) #[] #[],af ae,I O x.place,v,I O r,z,h,I O x.digits,I ak x.code,I ak x.high,a]) e w':=by
   rcases d with rfl|Q
   .exact yJ w b x.place r _ _ _ _ _ _ _ _ _ _ _ _ _ l p
   .have:48<=c.toNat/\c.toNat<=57:=by simpa[isD]using Q
    exact aAW w b x.place r _ _ _ _ _ _ _ _ _ _ _ _ _ c l this.1 this.2 p
  refine i.mono λe w' s=>?_
  obtain⟨B,g,C⟩:=aAY (y:={x with isIn:=ae,start:=x.place,st:=.numeral,number:=r,raw:= [c]}) t j q (λk e=>by cases e) (K rfl) rfl ⟨_,l⟩ (λk e=>by cases e) (λu=>rfl) s;exact .I1 B g (by rw[bj];exact C)
 rw[if_neg d]
 by_cases p:aN c≠ []
 .rw[if_pos p]
  have i:E H 104 #[W (N ⟨b,0,J⟩),I ac ((c.toNat:Nat):Int)] w λe w'=>n8 w b (Z J 0 0) [c] (λv=> #[I O x.place,ar,af U,ai (aj 141) #[] #[],af ae,I O x.place,v,I O 0,z,h,I O x.digits,I ak x.code,I ak x.high,a]) e w':=by
   exact aAV w b x.place _ _ _ _ _ _ _ _ _ _ _ _ _ c (aEr p) l
  refine i.mono λe w' s=>?_
  obtain⟨B,g,C⟩:=aAY (y:={x with isIn:=ae,start:=x.place,number:=0,st:=.letter,raw:= [c]}) t j q (λk e=>by cases e) (S rfl) rfl ⟨_,l⟩ (λk e=>by cases e) (λu=>rfl) s;exact .I1 B g (by rw[bj];exact C)
 rw[if_neg p];have r:aN c= []:=by simpa using p
 have s:aX c=U:=by simpa using m
 have B:bJ c=U:=by simpa using P
 have o:c≠45:=λe=>d (S e)
 have i:E H 104 #[W (N ⟨b,0,J⟩),I ac ((c.toNat:Nat):Int)] w λe w'=>e=ag (I O 94)/\w'=eG w b x.place:=by
  by_cases n:c.toNat<48
  .exact wY w b x.place _ _ _ _ _ _ _ _ _ _ _ _ _ c l s B D o n r
  .have C:57<c.toNat:=by
    apply Nat.lt_of_not_le;intro Q;exact d (K (by simp[isD];omega))
   exact yK w b x.place _ _ _ _ _ _ _ _ _ _ _ _ _ c l s B D o C r
 refine i.mono ?_;rintro e w' ⟨rfl,rfl⟩;have g:Keeps (λk=>k=b) w (eG w b x.place):=gB w b x.place;exact .M2 (by decide) rfl (g.A6 (λk e=>e▸t)) ⟨S t,aF j g.size,_,_,_,_,_,_,_,_,_,_,a,l6 l,by rw[bj];exact q.A0 (G:=λk=>k=b) g (λk e g=>q.1.ne l (by decide) (e.trans (congrArg N g)))⟩
end
def oA(F:Nat->Prop)(w:V)(b:Nat)(toks:List Tok)(t:Lx×List Tok×Nat×Nat)(a:Nat->Nat->Y)(e:bc)(w':V):Prop:=
 Keeps F w w'/\(t.2.2.1=0->e=ag ar/\cE (Since F w w') w' b t.1 U (toks++t.2.1))/\
 (t.2.2.1≠0->e=ag (cg 151 (bm #[I O t.2.2.1,I O t.2.2.2]))/\∃pl st,dR (Since F w w') w' b pl st (a t.2.2.1 t.2.2.2) (toks++t.2.1))
theorem lM(x:Lx)(c:UInt8):(aO x c).lx.place=x.place:=by
 unfold aO;split
 .rfl
 .simp only[];split
  .rfl
  .split
   .rfl
   .split
    .unfold kO;split<;>rfl
    .split<;>rfl
theorem aEt(x:Lx)(c:UInt8):(x.B4 c).lx.place=x.place:=by
 unfold Lx.B4;split
 .exact lM x c
 .unfold cJ;simp only[];split
  .split<;>rfl
  .rfl
 .unfold bV;split
  .rfl
  .split
   .unfold Lx.C0;cases bitsOf x.raw with
    | none=>rfl
    | some b=>exact lM x.F3 c
   .rfl
 .unfold bW;split
  .rfl
  .split
   .rfl
   .split
    .rfl
    .split<;>rfl
 .unfold dK;split
  .rfl
  .split<;>rfl
 .unfold dC;split
  .rfl
  .split
   .rfl
   .simp only[];split
    .unfold Lx.F5;split
     .rfl
     .split<;>rfl
    .rfl
 .unfold fA;split<;>rfl
 .unfold dO;split<;>rfl
theorem cE.P3{F:Nat->Prop}{w:V}{b:Nat}{x:Lx}{s:Bool}{toks:List Tok}(h:cE F w b x s toks)(n:Nat):cE F (w.setCell ⟨b,0,J⟩ (I O (n:Int))) b {x with place:=n} s toks:=by
 obtain⟨A,j,i,o,c,g,d,q,u⟩:=h;have a:Keeps (λk=>k=b) w (w.setCell ⟨b,0,J⟩ (I O (n:Int))):=(ah (λk=>k=b) w).A2 (p:=⟨b,0,J⟩) (S rfl) _;refine⟨A,λk l=>bx (j k l) a.size,i,o,c,g,aB d _,⟨q.1.A0 a (λk e a=>q.1.ne d (by decide) (e.trans (congrArg N a))),q.2⟩,⟨λh=>?_,λh=>?_⟩⟩
 .have r:=u.raw h;exact⟨r.1.A0 a (λk e a=>r.1.ne d (by decide) (e.trans (congrArg N a))),r.2⟩
 .obtain⟨m,f,pl,v,t,y,z⟩:=u.text h;refine⟨⟨m.1.A0 a (λk e a=>m.1.ne d (by decide) (e.trans (congrArg N a))),m.2⟩,f,pl,v,t.A0 a (λe=>?_),y,z⟩;subst e;obtain⟨_,C,a1,a2,a3,B,_⟩:=t;rw[B]at d;simp at d
theorem aKf(k:Nat)(l:k=104\/k=141\/k=139\/k=138\/k=168\/k=188\/k=223\/k=241)(F:Nat->Prop)(w:V)(b:Nat)(x:Lx)(toks:List Tok)(c:UInt8)(g:pC x.st=k)(a0:cE F w b x U toks)(Q:x.place<=16777216)
 (d:x.place<16777216->E H k #[W (N ⟨b,0,J⟩),I ac ((c.toNat:Nat):Int)] w λe w'=>eQ F w b x.place toks (x.B4 c) e w'):
 E H 115 #[W (N ⟨b,0,J⟩),I ac ((c.toNat:Nat):Int)] w λe w'=>oA F w b toks (x.B0 c) (λ_ _=>ar) e w':=by
 have q:=a0;obtain⟨s,h,rawV,chV,R,tokV,u,-,-⟩:=a0;obtain⟨T,-,-,C,c4,c5,c6,c7,c8,c9,ca,cb,cc,cd,cf⟩:=aM u;rw[g]at C;have HL:=L q;have HLT:=L h;have HF:=L s;obtain⟨pl,a⟩:∃pl,x.place=pl:=⟨_,rfl⟩;have m:=L a;rw[a]at T Q d;unfold Lx.B0
 by_cases i:x.place=16777216
 .rw[if_pos i];rw[a]at i;subst i;clear q u s h d a C g;go_enter func115,ntmps115;go_wp2_with fail;go_ret;exact⟨ah _ _,λe=>absurd e (show ¬(3:Nat)=0 by decide),λ_=>⟨by show ag _=ag (cg 151 (bm #[I O ((3:Nat):Int),I O (x.place:Int)]));rw[m.o];rfl,x.place,x.start,by rw[bj];exact HL.o.H8.A6 (λk l=>S l) (aF HLT.o (cu _))⟩⟩
 .rw[if_neg i];have v:pl<16777216:=by omega
  have hpl1:((pl:Int)==16777216)=U:=by simp;omega
  obtain⟨r,z⟩:∃r,x.B4 c=r:=⟨_,rfl⟩;have A:=d v;rw[z]at A⊢;simp only[];obtain⟨t,o⟩:∃t,(if r.no=0 then(({r.lx with place:=x.place+1}:Lx),r.toks,0,0)else(r.lx,r.toks,r.no,if r.no=41 then r.lx.start else x.place))=t:=⟨_,rfl⟩;rw[o];have HT0:=L (λ(f:r.no=0)=>o.symm.trans (if_pos f));have y:=L (λ(f:r.no≠0)=>o.symm.trans (if_neg f));have HS:=L A;have j:r.lx.place=pl:=by rw[<-z,aEt,a]
  have HX:=L j;clear q u s h d a i A z g j o;rcases l with rfl|rfl|rfl|rfl|rfl|rfl|rfl|rfl
  all_goals
   go_enter func115,ntmps115;go_wp2_with fail;refine(HS.o).mono ?_;rintro e w2 ⟨rfl,i,D,G⟩
   by_cases f:r.no=0
   .have a:=D f;obtain⟨o,-,j,z,h,q,g,s,d⟩:=D f;rw[HX.o]at g;obtain⟨d0,-,-,-,-,-,-,-,-,-,-,-,-,-,df⟩:=aM g;have A:=L a;have P:=L i;have u:=L f;rw[f];clear o g s d D G a i f T C c4 c5 c6 c7 c8 c9 ca cb cc cd cf;go_wp2_with fail;go_ret;have d:=HT0.o u.o;subst d;refine⟨P.o.A2 (p:=⟨b,0,J⟩) (S HF.o) _,λ_=>⟨rfl,?_⟩,λe=>?_⟩
    .have:=A.o.P3 (x.place+1);rw[show((pl:Int)+1)=((x.place+1:Nat):Int) by rw[m.o];omega];exact this.A6 (λk l=>l.E7 (by simp[bg])) (λk l=>this.lt k (l.E7 (by simp[bg])))
    .exact absurd rfl e
   .obtain⟨n,j⟩:∃n,r.no=n:=⟨_,rfl⟩;have z:=G f;obtain⟨o,A,v2,v3,v4,v6,v7,v8,v9,va,vb,vc,q,g,s⟩:=G f;obtain⟨d0,d1,d2,d3,d4,d5,d6,d7,d8,d9,da,db,dc,dd,df⟩:=aM g;have HD:=L z;have P:=L i;have u:=L f;have h:=L j;rw[j]at f;rw[j];have n0:((n:Int)==0)=U:=by simp;omega
    have B:(((n:Int)==41)=ae/\n=41)\/(((n:Int)==41)=U/\n≠41):=by
     by_cases a:n=41
     .exact S ⟨by simp;omega,a⟩
     .exact K ⟨by simp;omega,a⟩
    clear o A g s D G z i f j T C c4 c5 c6 c7 c8 c9 ca cb cc cd cf;rcases B with⟨g,a⟩|⟨g,a⟩
    .have f:=L a;clear a;go_wp2_with fail;go_ret;have d:=y.o u.o;rw[if_pos (h.o.trans f.o),h.o]at d;subst d;exact⟨P.o,λe=>absurd (h.o.trans e) u.o,λ_=>⟨rfl,_,_,HD.o⟩⟩
    .have f:=L a;clear a;go_wp2_with fail;go_ret;have d:=y.o u.o;rw[if_neg (λe=>f.o (h.o.symm.trans e)),h.o,m.o]at d;subst d;exact⟨P.o,λe=>absurd (h.o.trans e) u.o,λ_=>⟨rfl,_,_,HD.o⟩⟩
end Go.Proofs.YtakkmiomhackiaaGreatDoor
