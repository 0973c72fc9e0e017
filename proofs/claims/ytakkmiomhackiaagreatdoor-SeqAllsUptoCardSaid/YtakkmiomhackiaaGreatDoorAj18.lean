/-
  The program, one part of its walk. Conditions: none.
-/
import Derived.Test.YtakkmiomhackiaaGreatDoorAj14
import Derived.Test.YtakkmiomhackiaaGreatDoorAj16
set_option linter.all false
set_option maxRecDepth 100000
set_option maxHeartbeats 16000000
open Go.Proofs.Tryz
open Bool renaming false->D,true->af,true_and->fw
open Go renaming Addr->ct,Calls->ac,Ending->cz,Value->R,World->U,lt_of_block->dy,maxLen->bz
open Go.Proofs.Tryz renaming func112->cg,func113->dw,func114->fe,func117->dt,func147->co,func151->et,func80->eh,func84->eo,ntmps112->cj,ntmps113->dx,ntmps114->fg,ntmps117->du,ntmps147->cr,ntmps151->eu,ntmps80->ei,ntmps84->ep,prog->Z
open Nat renaming lt_irrefl->ft
open Option renaming none->N,some->I
open Or renaming inl->V,inr->K
open UInt8 renaming toNat_inj->ee
namespace Go.Proofs.YtakkmiomhackiaaGreatDoor
open Go.RowKit
open Calls renaming quiet_of_same->cw
open Ending renaming returned->ai
open FloatKind renaming f64->dm
open Instr renaming typeAssert->au
open IntKind renaming i64->O,u8->E
open Obj renaming cells->S,map->cu
open Fr renaming list->bj,object->bh
open Keeps renaming A2->bx,A4->ah
open Ps renaming C5->bu,C9->fd,D6->fk,E2->fq,E7->fh,F0->dj
open Since renaming trans->fj
open eY renaming S5->ga
open Result renaming ok->ao
open RowKit renaming Below->az
open Value renaming agg->ar,bool->ak,float->dl,iface->ae,int->J,map->bs,nilIface->dh,pointer->Y,slice->X,string->ag,tuple->aj
open World renaming setCell->gc
variable {a:List R}{v:R}
def bT(no a:Nat):cz:=.panicked [{v:=cU no a,recovered:=D}]
def gZ(w:U)(no a:Nat):ac Z 81 #[no,a] w λe w'=>e=bT no a/\w'=w:=by
 go_enter func81,ntmps81;go_wp2;exact⟨rfl,rfl,rfl⟩
def b8{w:U}{b:Nat}{g f d c i j e l a k:R}{T:TypeId}(h:w.heap[b]?=I (S #[g,f,d,c,i,j,e,l,a,k] T (0,0))):
 w.cell? b=I g/\w.cell? ⟨b,1,N⟩=I f/\w.cell? ⟨b,2,N⟩=I d/\w.cell? ⟨b,3,N⟩=I c/\w.cell? ⟨b,4,N⟩=I i/\w.cell? ⟨b,5,N⟩=I j/\w.cell? ⟨b,6,N⟩=I e/\w.cell? ⟨b,7,N⟩=I l/\
 w.cell? ⟨b,8,N⟩=I a/\w.cell? ⟨b,9,N⟩=I k/\∀o,w.frozen? ⟨b,o,N⟩=D:=
 ⟨aA h,aA h,aA h,aA h,aA h,aA h,aA h,aA h,aA h,aA h,free_at h⟩
def mH(w:U):ac Z 80 #[dh] w λe w'=>e=ai (aj #[])/\w'=w:=by
 go_enter eh,ei;go_wp2
 first
  | (go_end0;exact⟨rfl,rfl⟩)
  | exact bb (md rfl _ _ _) rfl ⟨rfl,rfl⟩
def zF(w:U)(no a:Nat):ac Z 80 #[cU no a] w λe w'=>e=bT (nO no) a/\az w w w':=by
 have b:∀w:U,(au (ae 151 (ar #[no,a])) 26 151 D).run Z w=ao (ar #[no,a]) w:=λ_=>by kernel_rfl
 unfold cU;by_cases h:no=94
 .subst h;simp only[Int.cast_ofNat_Int]at b⊢;go_enter eh,ei;go_wp2;exact⟨rfl,rfl,(dk _ _).alloc (hU _) _⟩
 .have d:((no:Int)==94)=D:=by simp;omega
  have c:nO no=no:=py h;rw[c];clear c h;go_enter eh,ei;go_wp2;exact⟨rfl,rfl,(dk _ _).alloc (hU _) _⟩
def aKt(w:U)(p d want b c n cap:Nat)(a:Option ct)(i l f j m g:R)(h:w.heap[p]?=I (S #[d,i,l,f,X a n cap,want,b,j,m,g] 136 (0,0)))(q:want=0\/want=1)(r:n≠d)(o:b<65536):
 ac Z 117 #[Y p,c] w λe w'=>e=ai (aj #[])/\w'.heap[p]?=I (S #[d,i,l,f,X a n cap,want,J O (b+1:Nat),j,m,g] 136 (0,0))/\Keeps (λk=>k=p) w w':=by
 obtain⟨s,-,-,-,u,x,z,-,-,-,v⟩:=b8 h;have H:=A h;have y:((n:Int)==(d:Int))=D:=by simp;omega
 have t:((b:Int)==65536)=D:=by simp;omega
 clear h r;rcases q with rfl|rfl
 all_goals
  go_enter dt,du;go_wp2;go_region;go_wp2;go_end0;exact⟨rfl,aB (w:=w.drew) H.o _,((ah (λk=>k=p) w).B0).A3 (p:=⟨p,6,N⟩) (V rfl) _⟩
def aB8(w:U)(p want a:Nat)(n i l c m d j o f:R)(h:w.heap[p]?=I (S #[n,i,l,c,m,want,d,j,o,f] 136 (0,0)))(k:want≠0/\want≠1):
 ac Z 117 #[Y p,a] w λe w'=>e=bT 120 a/\az w w w':=by
 obtain⟨t,c1,c2,x,u,y,C,s,q,r,v⟩:=b8 h;have z:((want:Int)!=0)=af:=by simp;omega
 have B:((want:Int)!=1)=af:=by simp;omega
 have g:=A (λw=>gZ w 120 a);clear h k;go_enter dt,du;go_wp2_with fail;refine(g.o _).mono ?_;rintro e w1 ⟨b,rfl⟩;unfold bT at b;subst b;go_wp2_with fail;exact⟨rfl,rfl,dk _ _⟩
def aDO(w:U)(p d want b cap:Nat)(a:Option ct)(k n f g l o i:R)(h:w.heap[p]?=I (S #[d,k,n,f,X a d cap,want,g,l,o,i] 136 (0,0)))(m:want=0\/want=1):
 ac Z 117 #[Y p,b] w λe w'=>e=bT 121 b/\az w w w':=by
 obtain⟨q,-,-,-,r,s,-,-,-,-,-⟩:=b8 h;have j:=A (λw=>gZ w 121 b);clear h;rcases m with rfl|rfl
 all_goals
  go_enter dt,du;go_wp2;go_region;go_wp2_with fail;refine(j.o _).mono ?_;rintro e w1 ⟨c,rfl⟩;unfold bT at c;subst c;go_wp2_with fail;exact⟨rfl,rfl,(dk _ _).drew⟩
def aFK(w:U)(p d want b n cap:Nat)(a:Option ct)(j m f k q g:R)(h:w.heap[p]?=I (S #[d,j,m,f,X a n cap,want,J O 65536,k,q,g] 136 (0,0)))(l:want=0\/want=1)(o:n≠d):
 ac Z 117 #[Y p,b] w λe w'=>e=bT 3 b/\az w w w':=by
 obtain⟨r,-,-,-,s,t,v,-,-,-,-⟩:=b8 h;have u:((n:Int)==(d:Int))=D:=by simp;omega
 have i:=A (λw=>gZ w 3 b);clear h o;rcases l with rfl|rfl
 all_goals
  go_enter dt,du;go_wp2;go_region;go_wp2_with fail;refine(i.o _).mono ?_;rintro e w1 ⟨c,rfl⟩;unfold bT at c;subst c;go_wp2_with fail;exact⟨rfl,rfl,(dk _ _).drew⟩
def aIk(w:U)(p bytes b:Nat)(s:ByteArray)(x l m f r i g y j:R)(h:w.heap[p]?=I (S #[x,l,m,f,r,i,g,bytes,y,j] 136 (0,0)))(F:bytes<=1073741824)(B:s.size<=1073741824):
 ac Z 149 #[Y p,s,b] w λe w'=>(bytes+s.size<=2097152->e=ai (aj #[]))/\(2097152<bytes+s.size->e=bT 3 b)/\w'.heap[p]?=I (S #[x,l,m,f,r,i,g,J O (bytes+s.size:Nat),y,j] 136 (0,0))/\Keeps (λk=>k=p) w w':=by
 obtain⟨-,-,-,-,-,-,-,G,-,-,H⟩:=b8 h;have z:=A (λw=>gZ w 3 b);obtain⟨n,u⟩:∃n,s.size=n:=⟨_,rfl⟩;rw[u]at B;have q:=A u;have a:=aB (o:=7) h (J O ((bytes+n:Nat):Int));simp only[jy,kL,la]at a;have t:=A a;clear h a;by_cases d:bytes+n<=2097152
 .have C:(bytes:Int)+(n:Int)<=2097152:=by omega
  have c:=A d;clear d;go_enter func149,ntmps149;go_wp2;go_end0;rw[q.o];exact⟨λ_=>rfl,λh=>absurd c.o (Nat.not_le.2 h),t.o,(ah (λk=>k=p) w).A3 (p:=⟨p,7,N⟩) (V rfl) _⟩
 .have C:¬(bytes:Int)+(n:Int)<=2097152:=by omega
  have c:=A d;clear d;go_enter func149,ntmps149;go_wp2_with fail;refine(z.o _).mono ?_;rintro e w1 ⟨v,rfl⟩;unfold bT at v;subst v;go_wp2_with fail;rw[q.o];exact⟨rfl,λh=>absurd h c.o,λ_=>rfl,t.o,(ah (λk=>k=p) w).A3 (p:=⟨p,7,N⟩) (V rfl) _⟩
def cI(e:cz):Prop:=e=ai (aj #[])\/∃no a,e=bT no a
def aB9(w:U)(p pl want:Nat)(v t o u q s x r:R)(c:UInt8)(Q:cz->U->Prop)(h:w.heap[p]?=I (S #[v,pl,t,o,u,want,q,s,x,r] 136 (0,0)))(m:c≠34\/(want≠2/\want≠3))
 (k:ac Z 117 #[Y p,pl] w λe w'=>cI e/\Q e w'):
 ac Z 84 #[Y p,J E c.toNat] w Q:=by
 obtain⟨-,c1,-,-,-,B,-,-,-,-,-⟩:=b8 h;have l:=A k
 have i:¬c=34\/(c=34/\((want:Int)==2)=D/\((want:Int)==3)=D):=by
  by_cases a:c=34
  .right;have:=m.resolve_left (λh=>h a);exact⟨a,by simp;omega,by simp;omega⟩
  .exact V a
 clear h k m;rcases i with a|⟨a,z,C⟩
 .obtain⟨-,y,-⟩:=aD (c:=c) (d:=34) (n:=34) a rfl;clear a;go_enter eo,ep;go_wp2_with fail;refine(l.o).mono ?_;rintro e w1 ⟨rfl|⟨no,j,g⟩,f⟩
  .have b:=A f;clear f;go_wp2_with fail
   first
    | (go_end0;exact b.o)
    | exact b.o
  .have b:=A f;clear f;have F:=A g;unfold bT at g;subst g;go_wp2_with fail;exact⟨rfl,b.o⟩
 .have k:(c.toNat:Int)=34:=by rw[a];rfl
  clear a;go_enter eo,ep;go_wp2_with fail;refine(l.o).mono ?_;rintro e w1 ⟨rfl|⟨no,j,g⟩,f⟩
  .have b:=A f;clear f;go_wp2_with fail
   first
    | (go_end0;exact b.o)
    | exact b.o
  .have b:=A f;clear f;unfold bT at g;subst g;go_wp2_with fail;exact⟨rfl,b.o⟩
def aIl(w:U)(p cap:Nat)(a:Option ct)(j f i b m c g l d:R)(h:w.heap[p]?=I (S #[j,f,i,b,X a 0 cap,m,c,g,l,d] 136 (0,0))):
 ac Z 151 #[Y p] w λe w'=>e=ai (aj #[])/\w'.heap[p]?=I (S #[j,f,i,b,X a 0 cap,J O 6,c,g,l,d] 136 (0,0))/\Keeps (λk=>k=p) w w':=by
 obtain⟨-,-,-,-,n,q,-,-,-,-,o⟩:=b8 h;have H:=A h;clear h;go_enter et,eu;go_wp2_with fail
 first
  | (go_end0;exact⟨rfl,aB (aB H.o _) _,((Keeps.refl (λk=>k=p) w).setCell (p:=⟨p,5,none⟩) (.inl rfl) _).setCell (p:=⟨p,5,none⟩) (.inl rfl) _⟩)
  | exact bb (md rfl _ _ _) rfl ⟨rfl,aB (aB H.o _) _,((ah (λk=>k=p) w).A3 (p:=⟨p,5,N⟩) (V rfl) _).A3 (p:=⟨p,5,N⟩) (V rfl) _⟩
def aKu(w:U)(p g off n cap a m:Nat)(r s t u G v x y z:R)(F:w.heap[p]?=I (S #[r,s,t,u,X (g,off) (n+1) cap,G,v,x,y,z] 136 (0,0)))
 (B:w.cell? ⟨g,off+n,N⟩=I (ae 272 (Y a)))(o:g≠p)(l:w.heap[a]?=I (S #[m] 274 (0,0)))(T:n<=1048576)(W:m<=1073741824):
 ac Z 151 #[Y p] w λe w'=>e=ai (aj #[])/\w'.heap[p]?=I (S #[r,s,t,u,X (g,off) (n+1) cap,J O 5,v,x,y,z] 136 (0,0))/\w'.heap[a]?=I (S #[J O (m+1:Nat)] 274 (0,0))/\Keeps (λk=>k=p\/k=a) w w':=by
 have H:∀w:U,(au (ae 272 (Y a)) 281 272 af).run Z w=ao (aj #[Y a,ak af]) w:=λ_=>by kernel_rfl
 obtain⟨-,-,-,-,L,P,-,-,-,-,Q⟩:=b8 F
 have c:p≠a:=by
  intro e;subst e;rw[F]at l;simp at l
 have d:(w.setCell ⟨p,5,N⟩ (J O 5)).heap[p]?=_:=aB F _;have h:(w.setCell ⟨p,5,N⟩ (J O 5)).heap[a]?=_:=(aE _ (λe=>c e.symm)).trans l;have i:(w.setCell ⟨p,5,N⟩ (J O 5)).cell? ⟨g,off+n,N⟩=_:=((ah (λk=>k=p) w).A3 (p:=⟨p,5,N⟩) (V rfl) _).B6 B o;have C:=A ((ah (λk=>k=p\/k=a) w).A3 (p:=⟨p,5,N⟩) (V (V rfl)) (J O 5));simp only[jy,kL,la]at d;have f:=A d;have b:=A h;have j:=A i;have q:=A c;clear F B l d h i c;go_enter et,eu;go_wp2_with fail;obtain⟨w2,c⟩:∃w2,w.setCell ⟨p,5,N⟩ (J O 5)=w2:=⟨_,rfl⟩;rw[c]at C f b j⊢;obtain⟨-,-,-,-,B,-,-,-,-,-,-⟩:=b8 f.o;have d:=j.o;have h:=cell_of_one b.o;have i:=free_of_one b.o;have l:O.wrap ((n:Int)+1-1)=(n:Int):=by rw[b9];omega
 clear c L P Q;go_region;go_wp2;go_end0;exact⟨rfl,(aE (w:=w2.drew) _ q.o).trans f.o,aB (w:=w2.drew) b.o _,(C.o.B0).A3 (p:=a) (V (K rfl)) _⟩
def aFL(w:U)(p g off n cap t:Nat)(v q s j y l r x m:R)(h:w.heap[p]?=I (S #[v,q,s,j,X (g,off) (n+1) cap,y,l,r,x,m] 136 (0,0)))
 (o:w.cell? ⟨g,off+n,N⟩=I (ae 275 (Y t)))(i:g≠p)(L:n<=1048576):
 ac Z 151 #[Y p] w λe w'=>e=ai (aj #[])/\w'.heap[p]?=I (S #[v,q,s,j,X (g,off) (n+1) cap,J O 5,l,r,x,m] 136 (0,0))/\Keeps (λk=>k=p) w w':=by
 have H:∀w:U,(au (ae 275 (Y t)) 281 272 af).run Z w=ao (aj #[Y N,ak D]) w:=λ_=>by kernel_rfl
 obtain⟨-,-,-,-,B,F,-,-,-,-,C⟩:=b8 h;have a:(w.setCell ⟨p,5,N⟩ (J O 5)).heap[p]?=_:=aB h _;have f:(w.setCell ⟨p,5,N⟩ (J O 5)).cell? ⟨g,off+n,N⟩=_:=((ah (λk=>k=p) w).A3 (p:=⟨p,5,N⟩) (V rfl) _).B6 o i;have u:=A ((ah (λk=>k=p) w).A3 (p:=⟨p,5,N⟩) (V rfl) (J O 5));simp only[jy,kL,la]at a;have b:=A a;have d:=A f;clear h o a f;go_enter et,eu;go_wp2_with fail;obtain⟨w2,c⟩:∃w2,w.setCell ⟨p,5,N⟩ (J O 5)=w2:=⟨_,rfl⟩;rw[c]at u b d⊢;obtain⟨-,-,-,-,P,-,-,-,-,-,-⟩:=b8 b.o;have z:=d.o;have G:O.wrap ((n:Int)+1-1)=(n:Int):=by rw[b9];omega
 clear c B F C;go_region;go_wp2;go_end0;exact⟨rfl,b.o,u.o.B0⟩
def aFM(w:U)(p want:Nat)(n i l d m f j o g:R)(c:UInt8)(h:w.heap[p]?=I (S #[n,i,l,d,m,want,f,j,o,g] 136 (0,0)))(b:c=34)(k:want=2\/want=3):
 ac Z 84 #[Y p,J E c.toNat] w λe w'=>e=ai (aj #[])/\az w w w':=by
 obtain⟨-,-,-,-,-,q,-,-,-,-,-⟩:=b8 h;have a:(c.toNat:Int)=34:=by rw[b];rfl
 rw[a];clear h b a;rcases k with rfl|rfl
 all_goals
  go_enter eo,ep;go_wp2_with fail
  first
   | (go_end0;exact⟨rfl,Below.refl _ _⟩)
   | exact bb (md rfl _ _ _) rfl ⟨rfl,dk _ _⟩
section
inductive LS|at_(x:Lx)(dn:Bool)|dead(pl st:Nat)(errV:R)
def lI(F:Nat->Prop)(w:U)(b:Nat)(toks:List Tok):LS->Prop
 | .at_ x c=>cG F w b x c toks
 | .dead pl d a=>dU F w b pl d a toks
section
variable {F G:Nat->Prop} {w w':U} {b:Nat} {toks:List Tok} {s:LS}
def lI.block(h:lI F w b toks s):F b:=by cases s<;>exact h.1
def lI.lt(h:lI F w b toks s):∀k,F k->k<w.heap.size:=by cases s<;>exact h.2.1
def lI.B8(h:lI F w b toks s)(c:Keeps G w w')(a:∀k,F k->¬G k):lI F w' b toks s:=by
 cases s with
 | at_ x e=>exact cG.B8 h c a
 | dead pl f d=>exact dU.B8 h c a
end
def aDT(F:Nat->Prop)(w:U)(b:Nat)(t:Tok)(toks:List Tok)(s:LS)(C:lI F w b (t::toks) s)(W:toks.length<=999):
 ac Z 111 #[Y b] w λe w'=>e=ai (aj #[bU t,ak af])/\lI F w' b toks s/\Keeps (λk=>k=b) w w':=by
 have o:(toks.map bU).length<=1000:=by simp;omega
 obtain⟨T,r,u⟩:∃T r,bU t=ae T r:=by cases t<;>exact⟨_,_,rfl⟩
 cases s with
 | at_ x dn=>
  obtain⟨v,h,p,y,i,c,n,q,G⟩:=C;have d:=q.1;rw[pq,u]at d;rw[u];refine(aBa w b _ _ _ _ _ _ _ _ _ _ _ _ _ c T r (toks.map bU) n d o).mono ?_;rintro e w' ⟨rfl,g,off,cap,j,l,z,a⟩;refine⟨rfl,⟨v,λk m=>a7 (h k m) a.size,p,y,i,_,j,⟨by simpa using l,λk e=>by cases e;exact q.2 _ z⟩,⟨λC=>?_,λC=>?_⟩⟩,a⟩
  .have B:=G.d C;exact⟨B.1.A0 a (λk e a=>B.1.ne n (by decide) (e.trans (congrArg I a))),B.2⟩
  .obtain⟨B,f,pl,L,H,P,Q⟩:=G.text C;exact⟨⟨B.1.A0 a (λk e a=>B.1.ne n (by decide) (e.trans (congrArg I a))),B.2⟩,f,pl,L,H.A0 a (oZ H n (by decide)),P,Q⟩
 | dead pl p i=>
  obtain⟨v,h,y,B,G,H,L,P,Q,va,vb,vc,c,n,q⟩:=C;have d:=q.1;rw[pq,u]at d;rw[u];refine(aBa w b _ _ _ _ _ _ _ _ _ _ _ _ _ c T r (toks.map bU) n d o).mono ?_;rintro e w' ⟨rfl,g,off,cap,j,l,z,a⟩;exact⟨rfl,⟨v,λk m=>a7 (h k m) a.size,_,_,_,_,_,_,_,_,_,_,_,j,⟨by simpa using l,λk e=>by cases e;exact q.2 _ z⟩⟩,a⟩
def aCd(F:Nat->Prop)(w:U)(b:Nat)(s:LS)(h:lI F w b [] s):
 ac Z 111 #[Y b] w λe w'=>e=ai (aj #[dh,ak D])/\w'=w:=by
 cases s with
 | at_ x r=>
  obtain⟨-,-,k,l,i,d,f,g,-⟩:=h;obtain⟨a,c,rfl⟩:=g.1.A8;exact aA9 w b _ _ _ _ _ _ _ _ _ _ _ _ _ a c f
 | dead pl y j=>
  obtain⟨-,-,t,m,v,n,q,B,o,u,p,z,d,f,g⟩:=h;obtain⟨a,c,rfl⟩:=g.1.A8;exact aA9 w b _ _ _ _ _ _ _ _ _ _ _ _ _ a c f
def jU(Q:Nat->Prop)(w:U)(v:R):Fr->Prop
 | .list m=>∃b,v=ae 272 (Y (I ⟨b,0,N⟩))/\w.heap[b]?=I (S #[m] 274 (0,0))/\Q b
 | .object keys=>∃b c a,v=ae 275 (Y (I ⟨b,0,N⟩))/\w.heap[b]?=I (S #[a,bs (I c)] 278 (0,0))/\Q b/\eK Q 9 encS w a keys/\(keys= []->a=X N 0 0)/\eY w c keys.reverse/\Q c
structure eO(F:Nat->Prop)(w:U)(v:R)(pile:List Fr)(vals:List R):Prop where
 lt:∀k,F k->k<w.heap.size
 a:eK F 281 id w v vals
 d:vals.length=pile.length
 b:∃Q:Nat->Nat->Prop,(∀i k,Q i k->F k/\v.ownBlock≠I k)/\(∀i j k,Q i k->Q j k->i=j)/\∀(i:Nat)(u:R)(fr:Fr),vals[i]?=I u->pile[i]?=I fr->jU (Q i) w u fr
def jU.A0{Q G:Nat->Prop}{w w':U}{j:Fr}(h:jU Q w v j)(d:Keeps G w w')(c:∀k,Q k->¬G k):jU Q w' v j:=by
 cases j with
 | list m=>obtain⟨b,i,f,a⟩:=h;exact⟨b,i,d.B4 f (c b a),a⟩
 | object k=>
  obtain⟨b,l,q,i,f,a,g,o,p,n⟩:=h;exact⟨b,l,q,i,d.B4 f (c b a),a,⟨g.1.A0 d (λk e=>c k (g.2 k e)),g.2⟩,o,p.A0 d (c l n),n⟩
def eO.A0{F G:Nat->Prop}{w w':U}{b:List Fr}(h:eO F w v b a)(c:Keeps G w w')(f:∀k,F k->¬G k):eO F w' v b a:=by
 obtain⟨Q,g,j,p⟩:=h.b;exact⟨λk d=>a7 (h.lt k d) c.size,⟨h.a.1.A0 c λk e=>f k (h.a.2 k e),h.a.2⟩,h.d,Q,g,j,λi u m o n=>(p i u m o n).A0 c (λk l=>f k (g i k l).1)⟩
def eO.nil(w:U):eO (λ_=>False) w (X N 0 0) [] []:=⟨λ_ h=>h.elim,.nil _ _ _ _,rfl,λ_ _=>False,λ_ _ h=>h.elim,λ_ _ _ h=>h.elim,λi u b a=>by simp at a⟩
def eO.M3{F:Nat->Prop}{w:U}{a:List Fr}{r:Fr}{b:List R}(h:eO F w v (a++ [r]) b):
 ∃(Q:Nat->Prop)(u:R),(∀k,Q k->F k/\v.ownBlock≠I k)/\b[a.length]?=I u/\jU Q w u r/\
  ∀(w':U)(G:Nat->Prop)(l:Fr),Keeps G w w'->(∀k,G k->F k->Q k)->jU (Since Q w w') w' u l->eO (Since F w w') w' v (a++ [l]) b:=by
 obtain⟨Q,f,q,H⟩:=h.b;have o:b.length=a.length+1:=by rw[h.d];simp
 obtain⟨u,B⟩:∃u,b[a.length]?=I u:=⟨_,List.getElem?_eq_getElem (by omega)⟩;refine⟨Q a.length,u,f _,B,H _ u r B (by simp),λw' G l y L t=>?_⟩;refine⟨aF h.lt y.size,⟨h.a.1.A0 y λk e x=>(f _ k (L k x (h.a.2 k e))).2 e,λk e=>V (h.a.2 k e)⟩,by simp[o],λi k=>if i=a.length then Since (Q a.length) w w' k else Q i k,?_,?_,?_⟩
 .intro i k c;try simp only[]at c
  split at c
  .rcases c with c|c
   .exact⟨V (f _ k c).1,(f _ k c).2⟩
   .exact⟨K c,λe=>absurd (h.a.1.lt e) (me.2 c.1)⟩
  .exact⟨V (f i k c).1,(f i k c).2⟩
 .intro i j k hi d;try simp only[]at hi d
  split at hi
  .split at d
   .omega
   .rcases hi with hi|hi
    .rename_i P C;rw[P];exact q _ _ k hi d
    .exact absurd (h.lt k (f j k d).1) (me.2 hi.1)
  .split at d
   .rcases d with d|d
    .rename_i P C;rw[C];exact q _ _ k hi d
    .exact absurd (h.lt k (f i k hi).1) (me.2 d.1)
   .exact q i j k hi d
 .intro i T m g s;by_cases hi:i=a.length
  .subst hi;rw[B]at g;cases g;rw[cL (hU _),mw]at s;cases s;simp only[if_pos];exact t
  .have p:i<a.length:=by
    have:=(bt.1 g).1;omega
   rw[ec p]at s;have z:(a++ [r])[i]?=I m:=(by rw[ec p];exact s);have n:=(H i T m g z).A0 y (λk c x=>hi (q i a.length k c (L k x (f i k c).1)));simpa only[py hi]using n
def eO.O3{F G:Nat->Prop}{w w':U}{m:R}{d:List Fr}{u:R}{y:Fr}(h:eO F w v d a)(x:Keeps G w w')(P:∀k,G k->F k->v.ownBlock=I k)(z:Win 281 id w' m (a++ [u]))
 (c:∀k,m.ownBlock=I k->v.ownBlock=I k\/w.heap.size<=k)(q:jU (λk=>w.heap.size<=k/\k<w'.heap.size/\m.ownBlock≠I k) w' u y):eO (Since F w w') w' m (d++ [y]) (a++ [u]):=by
 obtain⟨Q,g,B,L⟩:=h.b;have f:=h.d;refine⟨aF h.lt x.size,⟨z,λk e=>(c k e).elim (λe=>V (h.a.2 k e)) (λt=>K ⟨t,z.lt e⟩)⟩,by simp[f],λi k=>if i=a.length then(w.heap.size<=k/\k<w'.heap.size/\m.ownBlock≠I k)else Q i k,?_,?_,?_⟩
 .intro i k b;try simp only[]at b
  split at b
  .exact⟨K ⟨b.1,b.2.1⟩,b.2.2⟩
  .refine⟨V (g i k b).1,λe=>?_⟩;rcases c k e with e|e
   .exact(g i k b).2 e
   .exact absurd (h.lt k (g i k b).1) (me.2 e)
 .intro i j k hi l;try simp only[]at hi l
  split at hi
  .split at l
   .omega
   .exact absurd (h.lt k (g j k l).1) (me.2 hi.1)
  .split at l
   .exact absurd (h.lt k (g i k hi).1) (me.2 l.1)
   .exact B i j k hi l
 .intro i H r o p;by_cases hi:i=a.length
  .subst hi;rw[cL (hU _),mw]at o;rw[f,cL (hU _),mw]at p;cases o;cases p;simp only[if_pos];exact q
  .have s:i<a.length:=by
    have:=(bt.1 o).1;simp at this;omega
   rw[ec s]at o;rw[ec (by omega)]at p;have n:=(L i H r o p).A0 x (λk b C=>(g i k b).2 (P k C (g i k b).1));simpa only[py hi]using n
def eO.X8{F:Nat->Prop}{w:U}{g off n cap:Nat}{b:List Fr}{q:Fr}(h:eO F w (X (g,off) (n+1) cap) (b++ [q]) a)(s:n=b.length):eO F w (X (g,off) n cap) b (a.take n):=by
 obtain⟨Q,j,p,r⟩:=h.b;have l:a.length=b.length+1:=by rw[h.d];simp
 subst s;refine⟨h.lt,⟨h.a.1.B3 (by omega),λk e=>h.a.2 k (by cases e;rfl)⟩,by rw[List.length_take];omega,Q,λi k f=>⟨(j i k f).1,λe=>(j i k f).2 (by cases e;rfl)⟩,p,λi u d o m=>?_⟩;have c:=(bt.1 m).1;rw[List.getElem?_take,pz c]at o;exact r i u d o (by rw[ec c];exact m)
structure kG(F:Nat->Prop)(p:Nat)(FL FM FP:Nat->Prop):Prop where
 d:∀k,FL k->F k
 b:∀k,FM k->F k
 e:∀k,FP k->F k
 a:F p/\¬FL p/\¬FM p/\¬FP p
 g:∀k,FL k->¬FM k
 f:∀k,FL k->¬FP k
 c:∀k,FM k->¬FP k
section
variable {F FL FM FP:Nat->Prop} {p:Nat} {w w':U}
def kG.P2(h:kG F p FL FM FP)(d:p<w.heap.size)(e:∀k,FM k->k<w.heap.size)(f:∀k,FP k->k<w.heap.size):kG (Since F w w') p (Since FL w w') FM FP:=
 ⟨λk a=>a.elim (λc=>V (h.d k c)) K,λk a=>V (h.b k a),λk a=>V (h.e k a),⟨V h.a.1,λa=>a.elim h.a.2.1 (λh=>absurd d (me.2 h.1)),h.a.2.2.1,h.a.2.2.2⟩,
  λk a b=>a.elim (λc=>h.g k c b) (λc=>absurd (e k b) (me.2 c.1)),λk a b=>a.elim (λc=>h.f k c b) (λc=>absurd (f k b) (me.2 c.1)),h.c⟩
def kG.R3(h:kG F p FL FM FP)(d:p<w.heap.size)(f:∀k,FL k->k<w.heap.size)(e:∀k,FP k->k<w.heap.size):kG (Since F w w') p FL (Since FM w w') FP:=
 ⟨λk a=>V (h.d k a),λk a=>a.elim (λb=>V (h.b k b)) K,λk a=>V (h.e k a),⟨V h.a.1,h.a.2.1,λa=>a.elim h.a.2.2.1 (λh=>absurd d (me.2 h.1)),h.a.2.2.2⟩,
  λk a c=>c.elim (λb=>h.g k a b) (λb=>absurd (f k a) (me.2 b.1)),h.f,λk a c=>a.elim (λb=>h.c k b c) (λb=>absurd (e k c) (me.2 b.1))⟩
def kG.L6(h:kG F p FL FM FP)(d:p<w.heap.size)(f:∀k,FL k->k<w.heap.size)(e:∀k,FM k->k<w.heap.size):kG (Since F w w') p FL FM (Since FP w w'):=
 ⟨λk a=>V (h.d k a),λk a=>V (h.b k a),λk a=>a.elim (λb=>V (h.e k b)) K,⟨V h.a.1,h.a.2.1,h.a.2.2.1,λa=>a.elim h.a.2.2.2 (λh=>absurd d (me.2 h.1))⟩,
  h.g,λk a c=>c.elim (λb=>h.f k a b) (λb=>absurd (f k a) (me.2 b.1)),λk a c=>c.elim (λb=>h.c k a b) (λb=>absurd (e k a) (me.2 b.1))⟩
def kG.N6(h:kG F p FL FM FP):kG (Since F w w') p FL FM FP:=
 ⟨λk a=>V (h.d k a),λk a=>V (h.b k a),λk a=>V (h.e k a),⟨V h.a.1,h.a.2⟩,h.g,h.f,h.c⟩
end
def dM(x:Ps)(lb b:Nat)(a:R):Array R:= #[x.h,x.a,Y lb,Y b,a,x.b,x.g,x.bytes,dh,ak D]
def aG(F:Nat->Prop)(w:U)(p:Nat)(x:Ps)(s:LS)(toks:List Tok):Prop:=
 (∀k,F k->k<w.heap.size)/\∃c f e lb d a b,kG F p c f e/\w.heap[p]?=I (S (dM x lb d a) 136 (0,0))/\lI c w lb toks s/\cN f w d x.c/\eO e w a x.e b
def iA(w:U)(p:Nat):Prop:=∃f e c b g h d i a j,w.heap[p]?=I (S #[f,e,c,b,g,h,d,i,a,j] 136 (0,0))
def aG.H8{F:Nat->Prop}{w:U}{p:Nat}{x:Ps}{s:LS}{toks:List Tok}(h:aG F w p x s toks):iA w p:=by
 obtain⟨_,_,_,_,_,_,_,_,_,a,_⟩:=h;exact⟨_,_,_,_,_,_,_,_,_,_,a⟩
def dL(F:Nat->Prop)(w:U)(p:Nat)(s:LS)(toks:List Tok)(o:Out)(e:cz)(w':U):Prop:=
 Keeps F w w'/\match o with
 | .error (no,a)=>e=bT no a/\iA w' p
 | .ok y=>e=ai (aj #[])/\aG (Since F w w') w' p y s toks
end
section
section
variable {F FL FM FP:Nat->Prop} {w w':U} {p lb mb:Nat} {x y:Ps} {s:LS} {toks:List Tok} {pileV:R} {vals:List R}
def o5(c:∀k,F k->k<w.heap.size)(b:kG F p FL FM FP)(j:lI FL w lb toks s)(g:cN FM w mb x.c)(l:eO FP w pileV x.e vals)(a:Keeps (λk=>k=p) w w')(i:w'.heap[p]?=I (S (dM y lb mb pileV) 136 (0,0)))
 (hi:y.c=x.c)(d:y.e=x.e):Keeps F w w'/\aG (Since F w w') w' p y s toks:=by
 have f:Keeps F w w':=a.mono λk e=>e▸b.a.1;refine⟨f,aF c a.size,FL,FM,FP,lb,mb,pileV,vals,b.N6,i,j.B8 a (λk h e=>b.a.2.1 (e▸h)),?_,?_⟩
 .rw[hi];exact g.B8 a (λk h e=>b.a.2.2.1 (e▸h))
 .rw[d];exact l.A0 a (λk h e=>b.a.2.2.2 (e▸h))
def nG(b:eO FP w pileV x.e vals):∃a cap,pileV=X a x.e.length cap:=by
 obtain⟨a,c,h⟩:=b.a.1.A8;exact⟨a,c,by rw[h,b.d]⟩
def iA.A0{G:Nat->Prop}(h:iA w p)(a:Keeps G w w')(m:¬G p):iA w' p:=by
 obtain⟨g,f,d,c,i,j,e,k,b,l,n⟩:=h;exact⟨g,f,d,c,i,j,e,k,b,l,a.B4 n m⟩
end
def aG.B8{F G:Nat->Prop}{w w':U}{p:Nat}{x:Ps}{s:LS}{toks:List Tok}(h:aG F w p x s toks)(c:Keeps G w w')(e:∀k,F k->¬G k):aG F w' p x s toks:=by
 obtain⟨f,i,r,o,lb,m,a,b,d,l,n,j,q⟩:=h;exact⟨λk g=>a7 (f k g) c.size,i,r,o,lb,m,a,b,d,c.B4 l (e p d.a.1),n.B8 c (λk h=>e k (d.d k h)),j.B8 c (λk h=>e k (d.b k h)),q.A0 c (λk h=>e k (d.e k h))⟩
def aG.mono{F G:Nat->Prop}{w:U}{p:Nat}{x:Ps}{s:LS}{toks:List Tok}(h:aG F w p x s toks)(d:∀k,F k->G k)(e:∀k,G k->k<w.heap.size):aG G w p x s toks:=by
 obtain⟨_,f,o,m,lb,j,b,c,a,i,l,g,n⟩:=h;exact⟨e,f,o,m,lb,j,b,c,⟨λk h=>d k (a.d k h),λk h=>d k (a.b k h),λk h=>d k (a.e k h),⟨d p a.a.1,a.a.2⟩,a.g,a.f,a.c⟩,i,l,g,n⟩
def aG.lt{F:Nat->Prop}{w:U}{p:Nat}{x:Ps}{s:LS}{toks:List Tok}(h:aG F w p x s toks):∀k,F k->k<w.heap.size:=h.1
def aG.O5{F:Nat->Prop}{w:U}{p:Nat}{x:Ps}{s:LS}{toks:List Tok}(h:aG F w p x s toks):F p:=by
 obtain⟨_,_,_,_,_,_,_,_,a,_⟩:=h;exact a.a.1
def aG.A7{F:Nat->Prop}{w w':U}{p:Nat}{x:Ps}{s:LS}{toks:List Tok}(h:aG F w p x s toks)(a:az w w w'):aG F w' p x s toks:=h.B8 (bx (λ_=>False) a) (λ_ _=>id)
def uQ(F:Nat->Prop)(w:U)(p:Nat)(x:Ps)(s:LS)(toks:List Tok)(d:Nat)(h:aG F w p x s toks)(G:x.g<=65536):
 ac Z 117 #[Y p,d] w λe w'=>cI e/\dL F w p s toks (x.C9 d) e w':=by
 have k:=h;obtain⟨i,z,H,C,lb,B,j,o,v,g,u,r,q⟩:=h;obtain⟨a,cap,rfl⟩:=nG q;unfold fd;by_cases l:x.b≠0/\x.b≠1
 .rw[pz l];refine(aB8 w p x.b d _ _ _ _ _ _ _ _ _ g l).mono ?_;rintro e w' ⟨rfl,c⟩;exact⟨K ⟨_,_,rfl⟩,bx F c,rfl,k.H8.A0 (bx (λ_=>False) c) id⟩
 rw[py l];have m:x.b=0\/x.b=1:=by omega
 by_cases f:x.e.length=x.h
 .rw[pz f];have b:=g;unfold dM at b;rw[f]at b;refine(aDO w p x.h x.b d cap a _ _ _ _ _ _ _ b m).mono ?_;rintro e w' ⟨rfl,c⟩;exact⟨K ⟨_,_,rfl⟩,bx F c,rfl,k.H8.A0 (bx (λ_=>False) c) id⟩
 rw[py f];by_cases n:x.g=65536
 .rw[pz n];have b:=g;unfold dM at b;rw[n]at b;refine(aFK w p x.h x.b d x.e.length cap a _ _ _ _ _ _ b m f).mono ?_;rintro e w' ⟨rfl,c⟩;exact⟨K ⟨_,_,rfl⟩,bx F c,rfl,k.H8.A0 (bx (λ_=>False) c) id⟩
 rw[py n];refine(aKt w p x.h x.b x.g d x.e.length cap a _ _ _ _ _ _ g m f (by omega)).mono ?_;rintro e w' ⟨rfl,b,t⟩;have:=o5 (y:={x with g:=x.g+1}) i v u r q t b rfl rfl;exact⟨V rfl,this.1,rfl,this.2⟩
def aFR(F:Nat->Prop)(w:U)(p:Nat)(x:Ps)(s:LS)(toks:List Tok)(c:UInt8)(h:aG F w p x s toks)(r:x.g<=65536):
 ac Z 84 #[Y p,J E c.toNat] w λe w'=>cI e/\dL F w p s toks (x.E2 c) e w':=by
 by_cases d:c=34/\(x.b=2\/x.b=3)
 .have f:x.E2 c=.ok x:=by unfold fq;rw[pz d]
  rw[f];have n:=h;obtain⟨j,m,u,q,lb,o,b,g,-,l,-,-,-⟩:=h;obtain⟨i,d⟩:=d;refine(aFM w p x.b _ _ _ _ _ _ _ _ _ c l i d).mono ?_;rintro e w' ⟨rfl,a⟩;exact⟨V rfl,bx F a,rfl,(n.A7 a).mono (λk h=>V h) (aF j a.size)⟩
 .have f:x.E2 c=x.C9 x.a:=by unfold fq;rw[py d]
  rw[f];have t:=uQ F w p x s toks x.a h r;obtain⟨-,m,u,q,lb,o,b,g,-,l,-,-,-⟩:=h;refine aB9 w p x.a x.b _ _ _ _ _ _ _ _ c _ l ?_ (t.mono λe w' h=>⟨h.1,h⟩);by_cases i:c=34
  .exact K ⟨λe=>d ⟨i,V e⟩,λe=>d ⟨i,K e⟩⟩
  .exact V i
def aBd(F:Nat->Prop)(w:U)(p:Nat)(x:Ps)(s:LS)(toks:List Tok)(l:Oo)(a:Nat)(h:aG F w p x s toks)(k:x.bytes<=1073741824)(u:l.length<=1073741824):
 ac Z 149 #[Y p,ag ⟨l.toArray⟩,a] w λe w'=>cI e/\dL F w p s toks (x.F0 l a) e w':=by
 obtain⟨f,z,G,C,lb,B,g,m,t,o,r,n,v⟩:=h;have b:(⟨l.toArray⟩:ByteArray).size=l.length:=by show l.toArray.size=_;simp
 refine(aIk w p x.bytes a ⟨l.toArray⟩ _ _ _ _ _ _ _ _ _ o k (by rw[b];exact u)).mono ?_;rintro e w' ⟨j,i,c,q⟩;rw[b]at j i c;unfold dj;have:=o5 (y:={x with bytes:=x.bytes+l.length}) f t r n v q c rfl rfl;by_cases d:2097152<x.bytes+l.length
 .rw[pz d];exact⟨K ⟨_,_,i d⟩,this.1,i d,this.2.H8⟩
 .rw[py d];exact⟨V (j (by omega)),this.1,j (by omega),this.2⟩
def qH(l:List Fr):l= []\/∃i a,l=i++ [a]:=by
 rcases List.eq_nil_or_concat l with h|⟨i,a,h⟩
 .exact V h
 .exact K ⟨i,a,by simpa using h⟩
def pT(F:Nat->Prop)(w:U)(p:Nat)(x:Ps)(s:LS)(toks:List Tok)(a0:aG F w p x s toks)(hm:∀m,bj m∈x.e->m<=1073741824)(hl:x.e.length<=1048576):
 ac Z 151 #[Y p] w λe w'=>e=ai (aj #[])/\Keeps F w w'/\aG (Since F w w') w' p x.C5 s toks:=by
 obtain⟨q,FL,FM,FP,lb,mb,g0,r,i,hb,W,hM,t⟩:=a0;rcases qH x.e with f|⟨h,fr,b⟩
 .obtain⟨a,cap,rfl⟩:=nG t;have d:=hb;unfold dM at d;rw[f,ib]at d;refine(aIl w p cap a _ _ _ _ _ _ _ _ _ d).mono ?_;rintro e w' ⟨rfl,l,j⟩
  have c:x.C5={x with b:=6}:=by
   have o:more x.e=x.e:=(by rw[f];rfl);unfold bu;rw[pz f,o]
  rw[c];have:=o5 (y:={x with b:=6}) q i W hM t j (by rw[f,ib];exact l) rfl rfl;exact⟨rfl,this.1,this.2⟩
 .have g4:r.length=h.length+1:=by rw[t.d,b];simp
  have C:=t;rw[b]at C;obtain⟨a1,u,hQ,hu,G,z⟩:=C.M3;obtain⟨a,cap,H⟩:=nG t;rw[b,List.length_append,List.length_cons,ib,Nat.zero_add]at H;subst H;have v:=t.a.1
  obtain⟨g,off,g1⟩:∃g off,a=I ⟨g,off,N⟩:=by
   rcases v with⟨l,_⟩|⟨g,off,n,B,l,_⟩
   .cases l
   .injection l with h1 _ _;exact⟨g,off,h1⟩
  subst g1;have l:w.cell? ⟨g,off+h.length,N⟩=I u:=v.B6 hu;have L:g≠p:=λe=>i.a.2.2.2 (e▸t.a.2 g rfl);have P:h.length<=1048576:=by rw[b]at hl;simp at hl;omega
  cases fr with
  | object k=>
   obtain⟨n,B,Q,rfl,-,-,-⟩:=G
   have c:x.C5={x with b:=5}:=by
    have o:more x.e=x.e:=(by rw[b];simp[more]);unfold bu;rw[py (by rw[b];simp),o]
   rw[c];refine(aFL w p g off h.length cap n _ _ _ _ _ _ _ _ _ hb l L P).mono ?_;rintro e w' ⟨rfl,d,j⟩;have:=o5 (y:={x with b:=5}) q i W hM t j d rfl rfl;exact⟨rfl,this.1,this.2⟩
  | list m=>
   obtain⟨n,rfl,g2,o⟩:=G;have B:FP n:=(hQ n o).1;have g3:m<=1073741824:=hm m (by rw[b];simp)
   have c:x.C5={x with b:=5,e:=h++ [bj (m+1)]}:=by
    unfold bu;rw[py (by rw[b];simp),b];simp[more]
   rw[c];refine(aKu w p g off h.length cap n m _ _ _ _ _ _ _ _ _ hb l L g2 P g3).mono ?_;rintro e w' ⟨rfl,d,Q,j⟩;have T:Keeps F w w':=j.mono λk e=>e.elim (λe=>e▸i.a.1) (λe=>e▸i.e n B);have hd:∀(a1:Nat->Prop),¬a1 p->¬a1 n->∀k,a1 k->¬(k=p\/k=n):=λa1 h1 h2 k j e=>e.elim (λe=>h1 (e▸j)) (λe=>h2 (e▸j));refine⟨rfl,T,aF q T.size,FL,FM,Since FP w w',lb,mb,_,r,i.L6 (q p i.a.1) W.lt hM.2.1,d,W.B8 j (hd FL i.a.2.1 (λa0=>i.f n a0 B)),hM.B8 j (hd FM i.a.2.2.1 (λa0=>i.c n a0 B)),?_⟩;exact z w' _ (bj (m+1)) j (λk hg hF=>hg.elim (λe=>absurd (e▸hF) i.a.2.2.2) (λe=>e▸o)) ⟨n,rfl,Q,V o⟩
end
section
structure rF(x:Ps)(n:Nat):Prop where
 a:∀m,bj m∈x.e->m<=n
 d:x.e.length<=1048576
section
variable {F FL FM FP:Nat->Prop} {w w':U} {p lb mb:Nat} {x y:Ps} {s:LS} {toks:List Tok} {pileV:R} {vals:List R}
def kW(b:∀k,F k->k<w.heap.size)(a:kG F p FL FM FP)(i:w.heap[p]?=I (S (dM x lb mb pileV) 136 (0,0)))(f:lI FL w lb toks s)(g:eO FP w pileV x.e vals)(c:Keeps FM w w')(j:∀k,FM k->k<w.heap.size){items:List Tr}(d:cN (Since FM w w') w' mb items):
 Keeps F w w'/\aG (Since F w w') w' p {x with c:=items} s toks:=
 ⟨c.mono a.b,aF b c.size,FL,Since FM w w',FP,lb,mb,pileV,vals,a.R3 (b p a.a.1) f.lt g.lt,c.B4 i a.a.2.2.1,f.B8 c a.g,d,g.A0 c λk h e=>a.c k e h⟩
end
def aG.F7{F:Nat->Prop}{w w1 w2:U}{p:Nat}{x:Ps}{s:LS}{toks:List Tok}(h:aG (Since (Since F w w1) w1 w2) w2 p x s toks)(g:w.heap.size<=w1.heap.size)(f:w1.heap.size<=w2.heap.size)(e:∀k,F k->k<w.heap.size):aG (Since F w w2) w2 p x s toks:=by
 obtain⟨_,i,t,q,lb,n,b,c,a,l,o,j,r⟩:=h;have d:∀k,Since (Since F w w1) w1 w2 k->Since F w w2 k:=λk m=>m.trans g f;exact⟨aF e (bo g f),i,t,q,lb,n,b,c,⟨λk h=>d k (a.d k h),λk h=>d k (a.b k h),λk h=>d k (a.e k h),⟨d p a.a.1,a.a.2⟩,a.g,a.f,a.c⟩,l,o,j,r⟩
def aFS(F:Nat->Prop)(w:U)(p:Nat)(x:Ps)(s:LS)(toks:List Tok)(b:Nat)(i:gO b)(q:aG F w p x s toks)(c:rF x 1073741824)(j:x.c.length<=1048576):
 ac Z 114 #[Y p,ae 107 (dl dm b)] w λe w'=>e=ai (aj #[])/\Keeps F w w'/\aG (Since F w w') w' p (bu {x with c:=iR x.c b}) s toks:=by
 have r:∀w:U,(au (ae 107 (dl dm b)) 39 102 af).run Z w=ao (aj #[ar #[],ak D]) w:=λ_=>by kernel_rfl
 have t:∀w:U,(au (ae 107 (dl dm b)) 39 104 af).run Z w=ao (aj #[ak D,ak D]) w:=λ_=>by kernel_rfl
 have u:∀w:U,(au (ae 107 (dl dm b)) 39 107 af).run Z w=ao (aj #[dl dm b,ak af]) w:=λ_=>by kernel_rfl
 obtain⟨a,P,y,Q,lb,z,k,o,h,f,m,g,n⟩:=q;obtain⟨-,-,-,B,-,-,-,-,-,-,-⟩:=b8 f;have C:=A ((aHk y w z x.c b i g j).mono (R':=λe w1=>(∃v,e=ai v)/\Keeps F w w1/\aG (Since F w w1) w1 p {x with c:=iR x.c b} s toks) λe w1 ⟨G,H,L⟩=>⟨G,kW a h f m n H g.2.1 L⟩);have d:=A (λw1(q:aG (Since F w w1) w1 p {x with c:=iR x.c b} s toks)=>pT (Since F w w1) w1 p _ s toks q c.a c.d);have l:=A a;clear a h f m g n;go_enter fe,fg;go_wp2_with fail;refine(C.o).mono ?_;rintro e w1 ⟨⟨v,rfl⟩,a,f⟩;have g:=A a;have m:=A (d.o w1 f);clear a f B;go_wp2_with fail;refine(m.o).mono ?_;rintro e w2 ⟨rfl,a,f⟩;have h:=A a;have n:=A f;clear a f;go_wp2;go_end0;exact⟨rfl,g.o.C3 h.o,n.o.F7 g.o.size h.o.size l.o⟩
def aFT(F:Nat->Prop)(w:U)(p:Nat)(x:Ps)(s:LS)(toks:List Tok)(a b:Nat)(l:Oo)(hr:aV l=af)(hl:l.length<=1073741824)(h:aG F w p x s toks)(B:rF x 1073741824)(C:x.c.length<=1048576)(H:x.bytes<=1073741824)(hw:x.b≠2/\x.b≠3):
 ac Z 113 #[Y p,ar #[a,b,ag ⟨l.toArray⟩]] w λe w'=>cI e/\dL F w p s toks (x.E7 a l) e w':=by
 have L:x.E7 a l=(x.F0 l a).map λp=>bu {p with c:=gE p.c l}:=by unfold fh;rw[pz hw]
 rw[L];have r:Keeps (λ_=>False) w (w.alloc (S #[a,b,ag ⟨l.toArray⟩] 241)):=(ah _ w).A5 _;have t:=h.lt;have f:=h.O5;have W:=h.B8 r (λ_ _=>id);have e2:((x.b:Int)!=2)=af:=by simp;omega
 have e3:((x.b:Int)!=3)=af:=by simp;omega
 have j:=A (aBd F _ p x s toks l a W H hl);have P:=A r;have g6:=A t;have hB:¬F w.heap.size:=λhf=>absurd (t _ hf) (ft _)
 have g7:(w.alloc (S #[a,b,ag ⟨l.toArray⟩] 241)).cell? ⟨p,5,N⟩=I (J O x.b):=by
  obtain⟨_,FL,FM,FP,lb,mb,m,y,-,Q,-,-,-⟩:=W;rw[aA Q];rfl
 have g8:∀o,(w.alloc (S #[a,b,ag ⟨l.toArray⟩] 241)).frozen? ⟨p,o,N⟩=D:=by
  obtain⟨_,FL,FM,FP,lb,mb,m,y,-,Q,-,-,-⟩:=W;exact free_at Q
 have c:=aL w (S #[a,b,ag ⟨l.toArray⟩] 241);have HB:=A hB;have z:=A c;have b0:(w.alloc (S #[a,b,ag ⟨l.toArray⟩] 241)).cell? w=I (J O a):=aA c;have b2:(w.alloc (S #[a,b,ag ⟨l.toArray⟩] 241)).cell? ⟨w.heap.size,2,N⟩=I (ag ⟨l.toArray⟩):=aA c;have HR:=A hr;have g9:=A B;have h2:=A C;have h3:=A f;obtain⟨sv,u⟩:∃sv:ByteArray,(⟨l.toArray⟩:ByteArray)=sv:=⟨_,rfl⟩;rw[u]at j P g7 g8 z b0 b2⊢;have h4:=A u;by_cases d:2097152<x.bytes+l.length
 .have n:x.F0 l a=.error (3,a):=by unfold dj;rw[pz d]
  rw[n]at j⊢;clear L r h W hw t hB c hr hl B C H f u n d;go_enter dw,dx;go_wp2_with fail;refine(j.o).mono ?_;rintro e w2 ⟨-,i,g⟩;obtain⟨T,q⟩:=g;have HK:=A ((P.o.mono (G:=F) (λ_ h=>h.elim)).same i);have HD:=A q;clear i q;have q:=A T;unfold bT at T;subst T;go_wp2_with fail;exact⟨rfl,K ⟨_,_,rfl⟩,HK.o,rfl,HD.o⟩
 .have n:x.F0 l a=.ok {x with bytes:=x.bytes+l.length}:=by unfold dj;rw[py d]
  rw[n]at j⊢;have h0:=A d;clear L r h W hw t hB c hr hl B C H f u n d;go_enter dw,dx;go_wp2_with fail;refine(j.o).mono ?_;rintro e w2 ⟨W,i,g⟩;obtain⟨T,B⟩:=g;subst T;have t:Keeps F w w2:=(P.o.mono (G:=F) (λ_ h=>h.elim)).same i;have n:=i.B4 z.o HB.o;obtain⟨-,FL,FM,FP,lb,mb,m,y,q,Q,hL,hM,hP⟩:=B;obtain⟨-,-,-,d3,-,-,-,-,-,-,-⟩:=b8 Q;have x2:w2.cell? ⟨w.heap.size,2,N⟩=I (ag sv):=aA n;have u:=aEH FM w2.drew mb x.c l HR.o (by have:=h0.o;omega) (hM.B8 ((ah (λ_=>False) w2).B0) (λ_ _=>id)) h2.o;rw[h4.o]at u;have r:∀k,Since F w w2 k->k<w2.heap.size:=aF g6.o t.size;have d:∀k,Since F (w.alloc (S #[a,b,sv] 241)) w2 k->Since F w w2 k:=λk h=>h.elim V (λh=>K ⟨bo (by simp) h.1,h.2⟩);have C:kG (Since F w w2) p FL FM FP:=⟨λk h=>d k (q.d k h),λk h=>d k (q.b k h),λk h=>d k (q.e k h),⟨V h3.o,q.a.2⟩,q.g,q.f,q.c⟩
  have h5:=A (u.mono (R':=λe f=>(∃v,e=ai v)/\Keeps (Since F w w2) w2 f/\aG (Since (Since F w w2) w2 f) f p {x with bytes:=x.bytes+l.length,c:=gE x.c l} s toks) λe f ⟨T,c,h6⟩=>by
   have H:Keeps FM w2 f:=⟨c.os,c.tape,c.output,c.size,c.block⟩;have:=kW (x:={x with bytes:=x.bytes+l.length}) r C Q hL hP H hM.2.1 h6;exact⟨T,this⟩)
  have H:=A (λf(h:aG (Since (Since F w w2) w2 f) f p {x with bytes:=x.bytes+l.length,c:=gE x.c l} s toks)=>pT _ f p _ s toks h g9.o.a g9.o.d);have L:=A t;clear W i t n q Q hL hM hP u r d C b0 b2 g7 g8;go_wp2
  go_region_with (go_at_call 150;refine(h5.o).mono ?_;rintro e f ⟨⟨v,rfl⟩,c,d⟩)
  all_goals
   have i:=A c;have r:=A (H.o f d);clear c d;go_wp2_with fail;refine(r.o).mono ?_;rintro e u ⟨rfl,c,d⟩;have n:=A c;have t:=A d;clear c d;go_wp2_with fail;refine bb (md rfl _ _ _) rfl ?_;have q:=L.o.C3 i.o;have d:∀k,Since (Since F w w2) w2 f k->Since F w f k:=λk h=>h.trans L.o.size i.o.size;have c:Keeps F w u:=q.C3 (n.o.mono d);exact⟨V rfl,c,rfl,t.o.mono (λk h=>fj (F:=F) (w:=w) (w1:=f) (w2:=u) (h.elim (λh=>V (d k h)) K) q.size n.o.size) (aF g6.o c.size)⟩
end
def aDU(F:Nat->Prop)(a:U)(p:Nat)(x:Ps)(s:LS)(toks:List Tok)(d:aG F a p x s toks)(f:rF x 1073741824)(m:x.c.length<=1048576):
 ac Z 114 #[Y p,ae 102 (ar #[])] a λe w'=>e=ai (aj #[])/\Keeps F a w'/\aG (Since F a w') w' p (bu {x with c:=bB x.c .null}) s toks:=by
 have y:∀w:U,(au (ae 102 (ar #[])) 39 102 af).run Z w=ao (aj #[ar #[],ak af]) w:=λ_=>by kernel_rfl
 have c:=d.lt;have b:Keeps (λ_=>False) a (a.alloc (S #[] 102)):=(ah _ a).A5 _;have d:=d.B8 b (λ_ _=>id);obtain⟨w,z⟩:∃w,a.alloc (S #[] 102)=w:=⟨_,rfl⟩;rw[z]at d b;have g:=A b;have h:=A c;clear b c;obtain⟨b,Q,B,T,lb,C,n,u,l,i,r,j,t⟩:=d;obtain⟨-,-,-,G,-,-,-,-,-,-,-⟩:=b8 i;have H:=A ((aEN B w C x.c j m).mono (R':=λe w1=>(∃v,e=ai v)/\Keeps F w w1/\aG (Since F w w1) w1 p {x with c:=bB x.c .null} s toks) λe w1 ⟨L,o,P⟩=>⟨L,kW b l i r t o j.2.1 P⟩);have c:=A (λw1(d:aG (Since F w w1) w1 p {x with c:=bB x.c .null} s toks)=>pT (Since F w w1) w1 p _ s toks d f.a f.d);have q:=A b;clear b l i r j t;go_enter fe,fg;go_wp2_with fail;refine(H.o).mono ?_;rintro e w1 ⟨⟨v,rfl⟩,b,i⟩;have j:=A b;have r:=A (c.o w1 i);clear b i G;go_wp2_with fail;refine(r.o).mono ?_;rintro e w2 ⟨rfl,b,i⟩;have l:=A b;have t:=A i;clear b i;go_wp2;go_end0;have o:=j.o.C3 l.o;have b:Keeps F a w2:=(g.o.mono (λ_ d=>d.elim)).same o;exact⟨rfl,b,(t.o.F7 j.o.size l.o.size q.o).mono (λk d=>d.elim V (λd=>K ⟨bo g.o.size d.1,d.2⟩)) (aF h.o b.size)⟩
def aDV(F:Nat->Prop)(w:U)(p:Nat)(x:Ps)(s:LS)(toks:List Tok)(c:Bool)(o:aG F w p x s toks)(b:rF x 1073741824)(i:x.c.length<=1048576):
 ac Z 114 #[Y p,ae 104 (ak c)] w λe w'=>e=ai (aj #[])/\Keeps F w w'/\aG (Since F w w') w' p (bu {x with c:=bB x.c (.flag c)}) s toks:=by
 have q:∀w:U,(au (ae 104 (ak c)) 39 102 af).run Z w=ao (aj #[ar #[],ak D]) w:=λ_=>by kernel_rfl
 have r:∀w:U,(au (ae 104 (ak c)) 39 104 af).run Z w=ao (aj #[c,ak af]) w:=λ_=>by kernel_rfl
 obtain⟨a,H,t,L,lb,u,j,n,h,f,l,g,m⟩:=o;obtain⟨-,-,-,y,-,-,-,-,-,-,-⟩:=b8 f;have z:=A ((aEO t w u x.c c g i).mono (R':=λe w1=>(∃v,e=ai v)/\Keeps F w w1/\aG (Since F w w1) w1 p {x with c:=bB x.c (.flag c)} s toks) λe w1 ⟨B,C,G⟩=>⟨B,kW a h f l m C g.2.1 G⟩);have d:=A (λw1(o:aG (Since F w w1) w1 p {x with c:=bB x.c (.flag c)} s toks)=>pT (Since F w w1) w1 p _ s toks o b.a b.d);have k:=A a;clear a h f l g m;go_enter fe,fg;go_wp2_with fail;refine(z.o).mono ?_;rintro e w1 ⟨⟨v,rfl⟩,a,f⟩;have g:=A a;have l:=A (d.o w1 f);clear a f y;go_wp2_with fail;refine(l.o).mono ?_;rintro e w2 ⟨rfl,a,f⟩;have h:=A a;have m:=A f;clear a f;go_wp2;go_end0;exact⟨rfl,g.o.C3 h.o,m.o.F7 g.o.size h.o.size k.o⟩
def aGZ(a:List UInt8):R:=if a= [110,117,108,108]then ae 102 (ar #[])else ae 104 (ak (decide (a= [116,114,117,101])))
def aDW(F:Nat->Prop)(w:U)(p:Nat)(x:Ps)(s:LS)(toks:List Tok)(a:Oo)(h:aG F w p x s toks)(c:rF x 1073741824)(b:x.c.length<=1048576):
 ac Z 114 #[Y p,aGZ a] w λe w'=>e=ai (aj #[])/\Keeps F w w'/\aG (Since F w w') w' p (x.F8 (jE a)) s toks:=by
 unfold aGZ jE;by_cases d:a= [110,117,108,108]
 .rw[pz d,pz d];exact aDU F w p x s toks h c b
 .rw[py d,py d];exact aDV F w p x s toks (decide (a= [116,114,117,101])) h c b
def aFU(w:U)(a n:Nat)(b:Oo)(c:b= [110,117,108,108]\/b= [116,114,117,101]\/b= [102,97,108,115,101]):
 ac Z 360 #[ar #[a,n,ag ⟨b.toArray⟩]] w λe w'=>e=ai (aGZ b)/\az w w w':=by
 rcases c with rfl|rfl|rfl
 all_goals
  go_enter func360,ntmps360;go_wp2;go_ret;exact⟨rfl,(dk _ _).alloc (hU _) _⟩
def aBe:Elem 133 281 16:=⟨underlying133,by
 have h:(Z.info? 281).map (λi=>(i.zero,i.size,i.bytes))=I (I dh,1,16):=by kernel_rfl
 obtain⟨i,c,a,d,b⟩:=info_parts h;exact⟨i,_,c,a,d,b,rfl⟩⟩
def aIn(F:Nat->Prop)(w:U)(p:Nat)(x:Ps)(s:LS)(toks:List Tok)(b:Nat)(c:aG F w p x s toks)(m:x.g<=65536)(h:x.e.length<=1048576):
 ac Z 112 #[Y (I ⟨p,0,N⟩),ar #[b,J O 1,J E 91]] w λe w'=>cI e/\dL F w p s toks ((x.C9 b).map λp=>{p with e:=p.e++ [bj 0],b:=1}) e w':=by
 have l:Keeps (λ_=>False) w (w.alloc (S #[b,J O 1,J E 91] 238)):=(ah _ w).A5 _;have n:=c.lt;have d:=c.O5;have B:=c.B8 l (λ_ _=>id);have HV:=A (uQ F _ p x s toks b B m);have C:=A l;have h5:=A n;have f:=aL w (S #[b,J O 1,J E 91] 238);have b0:(w.alloc (S #[b,J O 1,J E 91] 238)).cell? w=I (J O b):=aA f;have b2:(w.alloc (S #[b,J O 1,J E 91] 238)).cell? ⟨w.heap.size,2,N⟩=I (J E 91):=aA f;have H:=A d;cases a:x.C9 b with
 | error q=>
  obtain⟨no,a2⟩:=q;rw[a]at HV;clear l c B n f d a m h;go_enter cg,cj;go_wp2_with fail;refine(HV.o).mono ?_;rintro e w2 ⟨-,i,L,j⟩;have HK:=A ((C.o.mono (G:=F) (λ_ c=>c.elim)).same i);have r:=A j;clear i j;have j:=A L;unfold bT at L;subst L;go_wp2_with fail;exact⟨rfl,K ⟨_,_,rfl⟩,HK.o,rfl,r.o⟩
 | ok y=>
  have j:y.e=x.e:=by
   unfold fd at a;split at a
   .cases a
   .split at a
    .cases a
    .split at a
     .cases a
     .cases a;rfl
  rw[a]at HV;have h6:=A j;have h7:=A h;clear l c B n f d a m j h;go_enter cg,cj;go_wp2_with fail;refine(HV.o).mono ?_;rintro e w2 ⟨h,i,L,P⟩;subst L;have u:Keeps F w w2:=(C.o.mono (G:=F) (λ_ c=>c.elim)).same i;obtain⟨-,FL,FM,FP,lb,mb,h8,a,z,v,hL,hM,t⟩:=P;obtain⟨-,-,-,-,d4,-,-,-,-,-,-⟩:=b8 v;have j:Keeps (λ_=>False) w2 ((w2.alloc (S #[J O 0] 274)).alloc (S #[ae 272 (Y w2)] 281)):=((ah _ w2).A5 _).A5 _;have l:=t.a.1.A0 j (λ_ _=>id);have Q:=A l;have HB:=A v;have h9:=A (t.a.1.ne v (by decide));have n:p<w2.heap.size:=dy v
  have m:((w2.alloc (S #[J O 0] 274)).alloc (S #[ae 272 (Y w2)] 281)).heap[w2.heap.size]?=I (S #[J O 0] 274 (0,0)):=
   (de _ _ _ (by simp)).trans (aL w2 _)
  have i0:=A m;have T:=A (l.ne m (by decide));have i5:a.length<=1048576:=by rw[t.d,h6.o];exact h7.o
  have W:=A u;have f:=A z;have g7:=A hL;have g8:=A hM;have q:=A t;have g9:=A j;have d:∀k,Since F (w.alloc (S #[b,J O 1,J E 91] 238)) w2 k->Since F w w2 k:=λk c=>c.elim V (λc=>K ⟨bo (by simp) c.1,c.2⟩);have r:=A d;obtain⟨ta,tc,i1⟩:=t.a.1.A8;clear h i u z v hL hM t l m j d b0 b2;subst i1;go_wp2_with (at_builtin;refine dE aBe rfl _ _ rfl rfl Q.o ⟨w2.heap.size+1,0,N⟩ 1 (ae 272 (Y w2)) rfl ?_ rfl ?_ ?_ ?_)
  .exact fQ (by simp)
  .omega
  .unfold bz;omega
  intro g off cap w' h i d;have j:=(d.block p (by simp;omega) (λe=>h9.o e.symm)).trans ((g9.o.block p n id).trans HB.o);have l:=(d.block w2.heap.size (by simp;omega) (λe=>T.o e.symm)).trans i0.o;obtain⟨-,-,-,-,e4,e5,-,-,-,-,ef⟩:=b8 j;have i2:=A j;have u:=A l;have t:=A h;have h0:=A i;have HK:=A ((g9.o.mono (G:=λk=>(X ta a.length tc).ownBlock=I k) (λ_ c=>c.elim)).G0 d (λk e=>V e));clear j l h i d d4;go_wp2;go_end0;have j:Keeps (λk=>k=p) w' ((w'.setCell ⟨p,4,N⟩ (X (g,off) (a.length+1) cap)).setCell ⟨p,5,N⟩ (J O 1)):=((ah (λk=>k=p) w').A3 (p:=⟨p,4,N⟩) (V rfl) _).A3 (p:=⟨p,5,N⟩) (V rfl) _;have d:Keeps (λk=>k=p\/(X ta a.length tc).ownBlock=I k) w2 ((w'.setCell ⟨p,4,N⟩ (X (g,off) (a.length+1) cap)).setCell ⟨p,5,N⟩ (J O 1)):=(HK.o.mono (λk c=>K c)).same (j.mono (λk c=>V c));have l:=q.o.a.2;have h:Keeps F w ((w'.setCell ⟨p,4,N⟩ (X (g,off) (a.length+1) cap)).setCell ⟨p,5,N⟩ (J O 1)):=W.o.C3 (d.mono (λk c=>c.elim (λe=>e▸V H.o) (λe=>r.o k (f.o.e k (l k e)))));have h3:=aB (o:=5) (aB (o:=4) i2.o (X (g,off) (a.length+1) cap)) (J O 1);obtain⟨z,i3⟩:∃z,((w'.setCell ⟨p,4,N⟩ (X (g,off) (a.length+1) cap)).setCell ⟨p,5,N⟩ (J O 1))=z:=⟨_,rfl⟩;rw[i3]at j d h h3⊢
  have i4:g≠p:=by
   intro e;rcases h0.o with c|c
   .exact f.o.a.2.2.2 (e▸l g c)
   .have h4:=c.1;(try rw[my,World.size_alloc]at h4);omega
  have m:∀(a0:Nat->Prop),¬a0 p->(∀k,a0 k->¬FP k)->∀k,a0 k->¬(k=p\/(X ta a.length tc).ownBlock=I k):=λa0 B h2 k hk c=>c.elim (λe=>B (e▸hk)) (λe=>h2 k hk (l k e));refine⟨V rfl,h,rfl,aF h5.o h.size,FL,FM,Since FP w2 z,lb,mb,_,a++ [ae 272 (Y w2)],?_,h3,g7.o.B8 d (m FL f.o.a.2.1 (λk c=>f.o.f k c)),g8.o.B8 d (m FM f.o.a.2.2.1 (λk c=>f.o.c k c)),?_⟩
  .have i:=f.o.L6 (w:=w2) (w':=z) n g7.o.lt g8.o.2.1
   have v:∀k,Since (Since F (w.alloc (S #[b,J O 1,J E 91] 238)) w2) w2 z k->Since F w z k:=
    λk c=>fj (w1:=w2) (c.elim (λc=>V (r.o k c)) K) W.o.size d.size
   exact⟨λk c=>v k (i.d k c),λk c=>v k (i.b k c),λk c=>v k (i.e k c),⟨V H.o,i.a.2⟩,i.g,i.f,i.c⟩
  .refine q.o.O3 d (λk v hF=>v.elim (λe=>absurd (e▸hF) f.o.a.2.2.2) id) ?_ ?_ ⟨w2.heap.size,rfl,j.B4 u.o (λe=>by omega),hU _,a7 (dy u.o) j.size,t.o.ne u.o (by decide)⟩
   .have:=t.o.A0 j (λk e hk=>i4 (by cases e;exact hk));simpa using this
   .intro k i;cases i;exact h0.o.imp id (λc=>by show w2.heap.size<=g;first|omega|(rw[World.size_alloc,World.size_alloc]at h4;omega))
def aFV(F:Nat->Prop)(w:U)(p:Nat)(x:Ps)(s:LS)(toks:List Tok)(c:Nat)(b:aG F w p x s toks)(m:x.g<=65536)(h:x.e.length<=1048576):
 ac Z 112 #[Y (I ⟨p,0,N⟩),ar #[c,J O 1,J E 123]] w λe w'=>cI e/\dL F w p s toks ((x.C9 c).map λp=>{p with e:=p.e++ [bh []],b:=2}) e w':=by
 have l:Keeps (λ_=>False) w (w.alloc (S #[c,J O 1,J E 123] 238)):=(ah _ w).A5 _;have n:=b.lt;have d:=b.O5;have P:=b.B8 l (λ_ _=>id);have HV:=A (uQ F _ p x s toks c P m);have Q:=A l;have h9:=A n;have f:=aL w (S #[c,J O 1,J E 123] 238);have L:(w.alloc (S #[c,J O 1,J E 123] 238)).cell? w=I (J O c):=aA f;have b2:(w.alloc (S #[c,J O 1,J E 123] 238)).cell? ⟨w.heap.size,2,N⟩=I (J E 123):=aA f;have T:=A d;cases a:x.C9 c with
 | error q=>
  obtain⟨no,a2⟩:=q;rw[a]at HV;clear l b P n f d a m h;go_enter cg,cj;go_wp2_with fail;refine(HV.o).mono ?_;rintro e w2 ⟨-,i,W,j⟩;have HK:=A ((Q.o.mono (G:=F) (λ_ b=>b.elim)).same i);have r:=A j;clear i j;have j:=A W;unfold bT at W;subst W;go_wp2_with fail;exact⟨rfl,K ⟨_,_,rfl⟩,HK.o,rfl,r.o⟩
 | ok y=>
  have j:y.e=x.e:=by
   unfold fd at a;split at a
   .cases a
   .split at a
    .cases a
    .split at a
     .cases a
     .cases a;rfl
  rw[a]at HV;have i0:=A j;have i1:=A h;clear l b P n f d a m j h;go_enter cg,cj;go_wp2_with fail;refine(HV.o).mono ?_;rintro e w2 ⟨h,i,W,g7⟩;subst W;have u:Keeps F w w2:=(Q.o.mono (G:=F) (λ_ b=>b.elim)).same i;obtain⟨-,FL,FM,FP,lb,mb,z,a,B,v,C,H,j⟩:=g7;obtain⟨-,-,-,-,d4,-,-,-,-,-,-⟩:=b8 v;have l:Keeps (λ_=>False) w2 (((w2.alloc (cu #[] 0)).alloc (S #[(),bs (I w2.heap.size)] 278)).alloc (S #[ae 275 (Y (I ⟨w2.heap.size+1,0,N⟩))] 281)):=(((ah _ w2).A5 _).A5 _).A5 _;have m:=j.a.1.A0 l (λ_ _=>id);have g8:=A m;have HB:=A v;have i2:=A (j.a.1.ne v (by decide));have q:p<w2.heap.size:=dy v
  have n:(((w2.alloc (cu #[] 0)).alloc (S #[(),bs (I w2.heap.size)] 278)).alloc (S #[ae 275 (Y (I ⟨w2.heap.size+1,0,N⟩))] 281)).heap[w2.heap.size+1]?=I (S #[(),bs (I w2.heap.size)] 278 (0,0)):=by
   refine(de _ _ _ (by simp)).trans ?_;have:=aL (w2.alloc (cu #[] 0)) (S #[(),bs (I w2.heap.size)] 278);rwa[my]at this
  have i3:eY (((w2.alloc (cu #[] 0)).alloc (S #[(),bs (I w2.heap.size)] 278)).alloc (S #[ae 275 (Y (I ⟨w2.heap.size+1,0,N⟩))] 281)) w2.heap.size []:=((eY.R1 w2).A0 (F:=λ_=>False) ((ah _ (w2.alloc (cu #[] 0))).A5 _) id).A0 (F:=λ_=>False) ((ah _ _).A5 _) id;have i4:=A i3
  have i5:z.ownBlock≠I w2.heap.size:=by
   intro e;have:=j.a.1.lt e;omega
  have g9:=A i5;have j3:(Instr.makeMap 276 N).run Z w2=ao (bs (I w2.heap.size)) (w2.alloc (cu #[] 0)):=by kernel_rfl
  have i6:=A n;have h0:=A (m.ne n (by decide));have j4:a.length<=1048576:=by rw[j.d,i0.o];exact i1.o
  have h3:=A u;have f:=A B;have h5:=A C;have h6:=A H;have r:=A j;have h7:=A l;have d:∀k,Since F (w.alloc (S #[c,J O 1,J E 123] 238)) w2 k->Since F w w2 k:=λk b=>b.elim V (λb=>K ⟨bo (by simp) b.1,b.2⟩);have t:=A d;obtain⟨ta,tc,i7⟩:=j.a.1.A8;clear h i u B v C H j m n l d L b2;subst i7;go_wp2_with (at_builtin;refine dE aBe rfl _ _ rfl rfl g8.o ⟨w2.heap.size+2,0,N⟩ 1 (ae 275 (Y (I ⟨w2.heap.size+1,0,N⟩))) rfl ?_ rfl ?_ ?_ ?_)
  .exact fQ (by simp)
  .omega
  .unfold bz;omega
  intro g off cap w' h i d;have j:=(d.block p (by simp;omega) (λe=>i2.o e.symm)).trans ((h7.o.block p q id).trans HB.o);have m:=(d.block (w2.heap.size+1) (by simp) (λe=>h0.o e.symm)).trans i6.o;obtain⟨-,-,-,-,e4,e5,-,-,-,-,ef⟩:=b8 j;have i8:=A j;have B:=A m;have u:=A h;have C:=A i;have l:=A d;have HK:=A ((h7.o.mono (G:=λk=>(X ta a.length tc).ownBlock=I k) (λ_ b=>b.elim)).G0 d (λk e=>V e));clear j m h i d d4;go_wp2;go_end0;have h:Keeps (λk=>k=p) w' ((w'.setCell ⟨p,4,N⟩ (X (g,off) (a.length+1) cap)).setCell ⟨p,5,N⟩ (J O 2)):=((ah (λk=>k=p) w').A3 (p:=⟨p,4,N⟩) (V rfl) _).A3 (p:=⟨p,5,N⟩) (V rfl) _;have d:Keeps (λk=>k=p\/(X ta a.length tc).ownBlock=I k) w2 ((w'.setCell ⟨p,4,N⟩ (X (g,off) (a.length+1) cap)).setCell ⟨p,5,N⟩ (J O 2)):=(HK.o.mono (λk b=>K b)).same (h.mono (λk b=>V b));have m:=r.o.a.2;have i:Keeps F w ((w'.setCell ⟨p,4,N⟩ (X (g,off) (a.length+1) cap)).setCell ⟨p,5,N⟩ (J O 2)):=h3.o.C3 (d.mono (λk b=>b.elim (λe=>e▸V T.o) (λe=>t.o k (f.o.e k (m k e)))));have h8:=aB (o:=5) (aB (o:=4) i8.o (X (g,off) (a.length+1) cap)) (J O 2);obtain⟨v,i9⟩:∃v,((w'.setCell ⟨p,4,N⟩ (X (g,off) (a.length+1) cap)).setCell ⟨p,5,N⟩ (J O 2))=v:=⟨_,rfl⟩;rw[i9]at h d i h8⊢
  have j0:g≠p:=by
   intro e;rcases C.o with b|b
   .exact f.o.a.2.2.2 (e▸m g b)
   .have h4:=b.1;(try simp at h4);omega
  have n:∀(a0:Nat->Prop),¬a0 p->(∀k,a0 k->¬FP k)->∀k,a0 k->¬(k=p\/(X ta a.length tc).ownBlock=I k):=λa0 P h2 k L b=>b.elim (λe=>P (e▸L)) (λe=>h2 k L (m k e));refine⟨V rfl,i,rfl,aF h9.o i.size,FL,FM,Since FP w2 v,lb,mb,_,a++ [ae 275 (Y (I ⟨w2.heap.size+1,0,N⟩))],?_,h8,h5.o.B8 d (n FL f.o.a.2.1 (λk b=>f.o.f k b)),h6.o.B8 d (n FM f.o.a.2.2.1 (λk b=>f.o.c k b)),?_⟩
  .have j:=f.o.L6 (w:=w2) (w':=v) q h5.o.lt h6.o.2.1
   have H:∀k,Since (Since F (w.alloc (S #[c,J O 1,J E 123] 238)) w2) w2 v k->Since F w v k:=
    λk b=>fj (w1:=w2) (b.elim (λb=>V (t.o k b)) K) h3.o.size d.size
   exact⟨λk b=>H k (j.d k b),λk b=>H k (j.b k b),λk b=>H k (j.e k b),⟨V T.o,j.a.2⟩,j.g,j.f,j.c⟩
  .have j:eY v w2.heap.size []:=(i4.o.A0 (F:=λk=>(X ta a.length tc).ownBlock=I k) ⟨l.o.os,l.o.tape,l.o.output,l.o.size,λk L hn=>l.o.block k L (λe=>hn e.symm)⟩ g9.o).A0 h (λe=>by omega);have H:w2.heap.size<v.heap.size:=a7 (a7 (by simp;omega) l.o.size) h.size
   have j1:g≠w2.heap.size:=by
    intro e;rcases C.o with b|b
    .exact g9.o (e▸b)
    .have h4:=b.1;(try simp at h4);omega
   refine r.o.O3 d (λk hg hF=>hg.elim (λe=>absurd (e▸hF) f.o.a.2.2.2) id) ?_ ?_ ⟨w2.heap.size+1,w2.heap.size,X N 0 0,rfl,h.B4 B.o (λe=>by omega),⟨Nat.le_succ _,a7 (dy B.o) h.size,u.o.ne B.o (by decide)⟩,.nil _ _ _ _,λ_=>rfl,j,hU _,H,λe=>j1 (by cases e;rfl)⟩
   .have:=u.o.A0 h (λk e L=>j0 (by cases e;exact L));simpa using this
   .intro k j2;cases j2;exact C.o.imp id (λb=>by have h4:=b.1;(try simp at h4);show w2.heap.size<=g;omega)
def o6{i:Nat->Prop}{w:U}{a:R}{b:List Fr}{m:Fr}{d:List R}(f:eO i w a (b++ [m]) d):
 ∃g off cap u,a=X (I ⟨g,off,N⟩) (b.length+1) cap/\w.cell? ⟨g,off+b.length,N⟩=I u/\i g/\b.length+1<=cap/\cap<=bz/\∃Q:Nat->Prop,(∀k,Q k->i k/\k≠g)/\jU Q w u m:=by
 obtain⟨Q,u,j,q,h,_⟩:=f.M3;have c:d.length=b.length+1:=by rw[f.d];simp
 rcases f.a.1 with⟨rfl,n⟩|⟨g,off,cap,p,rfl,o,s,-,r,hi⟩
 .rw[n]at c;simp at c
 .refine⟨g,off,cap,u,by rw[c],?_,f.a.2 g rfl,by omega,r,Q,λk l=>⟨(j k l).1,λe=>(j k l).2 (by rw[e];rfl)⟩,h⟩;rw[aA o];exact hi _ u q
def boxed{F:Nat->Prop}{w:U}{p:Nat}{x:Ps}{s:LS}{toks:List Tok}(h:aG F w p x s toks)(o:Obj):aG F (w.alloc o) p x s toks:=h.B8 ((ah (λ_=>False) w).A5 o) (λ_ _=>id)
def tL{F:Nat->Prop}{w:U}{o:Obj}{p:Nat}{s:LS}{toks:List Tok}{a:Out}{e:cz}{w':U}(c:∀k,F k->k<w.heap.size)(h:dL F (w.alloc o) p s toks a e w'):dL F w p s toks a e w':=by
 obtain⟨i,d⟩:=h;have b:Keeps F w w':=((ah F w).A5 o).same i;refine⟨b,?_⟩;cases a with
 | error g=>obtain⟨no,f⟩:=g;exact d
 | ok y=>exact⟨d.1,d.2.mono (λk h=>h.elim V (λh=>K ⟨bo (by simp) h.1,h.2⟩)) (aF c b.size)⟩
def aG.B0{F:Nat->Prop}{w:U}{p:Nat}{x:Ps}{s:LS}{toks:List Tok}(h:aG F w p x s toks):aG F w.drew p x s toks:=h.B8 ((ah (λ_=>False) w).B0) (λ_ _=>id)
def o7{F:Nat->Prop}{w:U}{p:Nat}{x:Ps}{s:LS}{toks:List Tok}(h:aG F w p x s toks)(n:Nat):Keeps F w (w.setCell ⟨p,5,N⟩ (J O n))/\aG (Since F w (w.setCell ⟨p,5,N⟩ (J O n))) (w.setCell ⟨p,5,N⟩ (J O n)) p {x with b:=n} s toks:=by
 obtain⟨a,j,o,m,lb,l,b,c,g,e,f,d,i⟩:=h;exact o5 (y:={x with b:=n}) a g f d i ((ah (λk=>k=p) w).A3 (p:=⟨p,5,N⟩) (V rfl) _) (aB e _) rfl rfl
def aFW(F:Nat->Prop)(w:U)(p:Nat)(x:Ps)(s:LS)(toks:List Tok)(a:Nat)(h:aG F w p x s toks)(m:x.b=4):
 ac Z 112 #[Y p,ar #[a,J O 1,J E 58]] w λe w'=>cI e/\dL F w p s toks (.ok {x with b:=0}) e w':=by
 have d:=h.lt;have l:=boxed h (S #[a,J O 1,J E 58] 238);have b:=aL w (S #[a,J O 1,J E 58] 238);have u:(w.alloc (S #[a,J O 1,J E 58] 238)).cell? w=I (J O a):=aA b;have b2:(w.alloc (S #[a,J O 1,J E 58] 238)).cell? ⟨w.heap.size,2,N⟩=I (J E 58):=aA b;have g:=A d;have B:=A l;obtain⟨W,j⟩:∃W,w.alloc (S #[a,J O 1,J E 58] 238)=W:=⟨_,rfl⟩;have n:=A j;obtain⟨_,C,L,H,lb,G,i,k,z,f,v,r,q⟩:=l;rw[j]at f u b2 q;have t:W.cell? ⟨p,5,N⟩=I (J O 4):=by rw[aA f];show I (J O x.b)=_;rw[m];rfl
 have y:∀o,W.frozen? ⟨p,o,N⟩=D:=free_at f;clear h d b f v r q z m;go_enter cg,cj;go_wp2;go_end0;have c:=o7 B.o 0;rw[j]at c;exact⟨V rfl,tL (o:=S #[a,J O 1,J E 58] 238) g.o ⟨by rw[n.o];exact c.1,rfl,by rw[n.o];exact c.2⟩⟩
def wE(F:Nat->Prop)(w:U)(p:Nat)(x:Ps)(s:LS)(toks:List Tok)(a:Nat)(a0:aG F w p x s toks)(G:x.b=5)(b:List Fr)(m:Nat)(c:x.e=b++ [bj m])(t:b.length<=1048576):
 ac Z 112 #[Y p,ar #[a,J O 1,J E 44]] w λe w'=>cI e/\dL F w p s toks (.ok {x with b:=0}) e w':=by
 have j:=a0.lt;have H:=boxed a0 (S #[a,J O 1,J E 44] 238);have d:=aL w (S #[a,J O 1,J E 44] 238);have b0:(w.alloc (S #[a,J O 1,J E 44] 238)).cell? w=I (J O a):=aA d;have b2:(w.alloc (S #[a,J O 1,J E 44] 238)).cell? ⟨w.heap.size,2,N⟩=I (J E 44):=aA d;have v:=A j;have H1:=A H;obtain⟨W,y⟩:∃W,w.alloc (S #[a,J O 1,J E 44] 238)=W:=⟨_,rfl⟩;have HW:=A y;obtain⟨_,FL,FM,FP,lb,mb,h,L,P,i,hL,hM,r⟩:=H;rw[y]at i b0 b2 r;have g3:W.cell? ⟨p,5,N⟩=I (J O 5):=by rw[aA i];show I (J O x.b)=_;rw[G];rfl
 have g4:∀o,W.frozen? ⟨p,o,N⟩=D:=free_at i;have c4:W.cell? ⟨p,4,N⟩=I h:=by rw[aA i];rfl
 rw[c]at r;obtain⟨g,off,cap,u,rfl,l,q,f,-,a1,-,z⟩:=o6 r;obtain⟨fb,rfl,-,-⟩:=z;have g5:∀w:U,(au (ae 272 (Y fb)) 281 275 af).run Z w=ao (aj #[Y N,ak D]) w:=λ_=>by kernel_rfl
 have B:g≠p:=λe=>P.a.2.2.2 (e▸q);have C:O.wrap ((b.length:Int)+1-1)=(b.length:Int):=by rw[b9];omega
 obtain⟨n,Q⟩:∃n,b.length=n:=⟨_,rfl⟩;rw[Q]at t c4 l C f;have T:(W.setCell ⟨p,5,N⟩ (J O 0)).cell? ⟨g,off+n,N⟩=_:=((ah (λk=>k=p) W).A3 (p:=⟨p,5,N⟩) (V rfl) (J O 0)).B6 l B;have g6:(W.setCell ⟨p,5,N⟩ (J O 0)).cell? ⟨p,4,N⟩=I (X (g,off) (n+1) cap):=by rw[aA (aB i _)];show I (X _ _ _)=_;rw[Q]
 clear a0 j d i hL hM r P G c q f;go_enter cg,cj;go_wp2;go_region;go_wp2;go_end0;rw[<-y];have c:=o7 H1.o 0;exact⟨V rfl,tL (o:=S #[a,J O 1,J E 44] 238) v.o ⟨c.1.B0,rfl,c.2.B0⟩⟩
def tM(F:Nat->Prop)(w:U)(p:Nat)(x:Ps)(s:LS)(toks:List Tok)(a:Nat)(C:aG F w p x s toks)(G:x.b=5)(b:List Fr)(ks:List Oo)(c:x.e=b++ [bh ks])(t:b.length<=1048576):
 ac Z 112 #[Y p,ar #[a,J O 1,J E 44]] w λe w'=>cI e/\dL F w p s toks (.ok {x with b:=3}) e w':=by
 have j:=C.lt;have H:=boxed C (S #[a,J O 1,J E 44] 238);have d:=aL w (S #[a,J O 1,J E 44] 238);have b0:(w.alloc (S #[a,J O 1,J E 44] 238)).cell? w=I (J O a):=aA d;have b2:(w.alloc (S #[a,J O 1,J E 44] 238)).cell? ⟨w.heap.size,2,N⟩=I (J E 44):=aA d;have l:=A j;have H1:=A H;obtain⟨W,v⟩:∃W,w.alloc (S #[a,J O 1,J E 44] 238)=W:=⟨_,rfl⟩;have HW:=A v;obtain⟨_,FL,FM,FP,lb,mb,i,L,P,f,hL,hM,r⟩:=H;rw[v]at f b0 b2 r;have g5:W.cell? ⟨p,5,N⟩=I (J O 5):=by rw[aA f];show I (J O x.b)=_;rw[G];rfl
 have g6:∀o,W.frozen? ⟨p,o,N⟩=D:=free_at f;have c4:W.cell? ⟨p,4,N⟩=I i:=by rw[aA f];rfl
 rw[c]at r;obtain⟨g,off,cap,u,rfl,m,q,h,-,a0,-,y⟩:=o6 r;obtain⟨Q,mp,kV,rfl,-,-,-⟩:=y;have g7:∀w:U,(au (ae 275 (Y Q)) 281 275 af).run Z w=ao (aj #[Y Q,ak af]) w:=λ_=>by kernel_rfl
 have z:g≠p:=λe=>P.a.2.2.2 (e▸q);have B:O.wrap ((b.length:Int)+1-1)=(b.length:Int):=by rw[b9];omega
 obtain⟨n,T⟩:∃n,b.length=n:=⟨_,rfl⟩;rw[T]at t c4 m B h;have g3:(W.setCell ⟨p,5,N⟩ (J O 0)).cell? ⟨g,off+n,N⟩=_:=((ah (λk=>k=p) W).A3 (p:=⟨p,5,N⟩) (V rfl) (J O 0)).B6 m z;have g8:(W.setCell ⟨p,5,N⟩ (J O 0)).cell? ⟨p,4,N⟩=I (X (g,off) (n+1) cap):=by rw[aA (aB f _)];show I (X _ _ _)=_;rw[T]
 have g9:(W.setCell ⟨p,5,N⟩ (J O 0)).cell? ⟨p,5,N⟩=I (J O 0):=by rw[aA (aB f _)];rfl
 have g4:∀o,(W.setCell ⟨p,5,N⟩ (J O 0)).frozen? ⟨p,o,N⟩=D:=free_at (aB f _);clear C j d f hL hM r P G c q h;go_enter cg,cj;go_wp2;go_region;go_wp2;go_end0;rw[<-v];have c:=o7 H1.o 0;have d:=o7 c.2.B0 3;exact⟨V rfl,tL (o:=S #[a,J O 1,J E 44] 238) l.o ⟨c.1.B0.C3 d.1,rfl,d.2.F7 c.1.size d.1.size (λk C=>a7 (l.o k C) (by simp))⟩⟩
def below_drewN(w:U)(n:Nat):az w w (w.drewN n):=⟨rfl,rfl,rfl,hU _,λ_ _=>rfl⟩
def aIo(w:U)(a:Nat):ac Z 358 #[Y a] w λe w'=>e=ai (J E 93)/\w'=w:=by
 go_enter func358,ntmps358;go_wp2;go_ret;exact⟨rfl,rfl⟩
def aDX(w:U)(a:Nat):ac Z 359 #[Y a] w λe w'=>e=ai (J E 125)/\w'=w:=by
 go_enter func359,ntmps359;go_wp2;go_ret;exact⟨rfl,rfl⟩
def aIp(w:U)(p c want:Nat)(a:Option ct)(m:UInt8)(g i d b f k j l:R)(h:w.heap[p]?=I (S #[g,i,d,b,X a 0 c,want,f,k,j,l] 136 (0,0))):
 ac Z 147 #[Y p,J E m.toNat] w λe w'=>e=ai (ak D)/\az w w w':=by
 obtain⟨-,-,-,-,n,-,-,-,-,-,-⟩:=b8 h;clear h;go_enter co,cr;go_wp2;go_region;go_wp2;go_ret;exact⟨rfl,(dk _ _).drew⟩
def aIq(w:U)(p g off n cap j want:Nat)(b:UInt8)(C u y r s v F t:R)(h:w.heap[p]?=I (S #[C,u,y,r,X (g,off) (n+1) cap,want,s,v,F,t] 136 (0,0)))
 (H:w.cell? ⟨g,off+n,N⟩=I (ae 272 (Y j)))(Q:n<=1048576):
 ac Z 147 #[Y p,J E b.toNat] w λe w'=>e=ai (ak (decide ((93:UInt8)=b)&&(decide (want=5)||decide (want=1)||decide (want=2))))/\az w w w':=by
 have T:∀w:U,(method 565 272 (Y j) "affidavit/parse.sign").run Z w=ao (358,Y j) w:=λ_=>by kernel_rfl
 obtain⟨-,-,-,-,L,P,-,-,-,-,-⟩:=b8 h;have z:O.wrap ((n:Int)+1-1)=(n:Int):=by rw[b9];omega
 have G:((n:Int)+1==0)=D:=by simp;omega
 have B:(0:Int)<=(n:Int):=by omega
 have x:(n:Int)<(n:Int)+1:=by omega
 have o:=A (λw=>aIo w j);clear h
 have c:((93:UInt8)≠b/\((93:Int)!=(b.toNat:Int))=af/\¬((93:Int)=(b.toNat:Int)))\/b=93:=by
  by_cases e:b=93
  .exact K e
  .refine V ⟨λh=>e h.symm,?_,?_⟩
   .have:b.toNat≠93:=λh=>e (by rw[<-ee];exact h);simp;omega
   .have:b.toNat≠93:=λh=>e (by rw[<-ee];exact h);omega
 rcases c with⟨i,W,-⟩|rfl
 .have f:(decide ((93:UInt8)=b)&&(decide (want=5)||decide (want=1)||decide (want=2)))=D:=by rw[decide_eq_false i];rfl
  rw[f];clear i f;go_enter co,cr;go_wp2;go_quiet (first|(go_at_call 358;refine cw (o.o _)));go_wp2;go_ret;exact⟨rfl,below_drewN _ _⟩
 .have l:((((93:UInt8)).toNat:Nat):Int)=93:=rfl;rw[l]
  have d:want=5\/want=1\/want=2\/(decide (want=5)||decide (want=1)||decide (want=2))=D/\((want:Int)==5)=D/\((want:Int)==1)=D/\((want:Int)==2)=D:=by
   by_cases k:want=5
   .exact V k
   by_cases q:want=1
   .exact K (V q)
   by_cases m:want=2
   .exact K (K (V m))
   exact K (K (K ⟨by simp[k,q,m],by simp;omega,by simp;omega,by simp;omega⟩))
  have a:decide ((93:UInt8)=93)=af:=rfl;rw[a,fw];rcases d with rfl|rfl|rfl|⟨f,k,q,m⟩;rotate_left 3
  .rw[f];clear f a l;go_enter co,cr;go_wp2;go_quiet (first|(go_at_call 358;refine cw (o.o _)));go_wp2;go_ret;exact⟨rfl,below_drewN _ _⟩
  all_goals
   clear a l;go_enter co,cr;go_wp2;go_quiet (first|(go_at_call 358;refine cw (o.o _)));go_wp2;go_ret;exact⟨rfl,below_drewN _ _⟩
def aDY(w:U)(p g off n cap j want:Nat)(b:UInt8)(C u y r s v F t:R)(h:w.heap[p]?=I (S #[C,u,y,r,X (g,off) (n+1) cap,want,s,v,F,t] 136 (0,0)))
 (H:w.cell? ⟨g,off+n,N⟩=I (ae 275 (Y j)))(Q:n<=1048576):
 ac Z 147 #[Y p,J E b.toNat] w λe w'=>e=ai (ak (decide ((125:UInt8)=b)&&(decide (want=5)||decide (want=1)||decide (want=2))))/\az w w w':=by
 have T:∀w:U,(method 565 275 (Y j) "affidavit/parse.sign").run Z w=ao (359,Y j) w:=λ_=>by kernel_rfl
 obtain⟨-,-,-,-,L,P,-,-,-,-,-⟩:=b8 h;have z:O.wrap ((n:Int)+1-1)=(n:Int):=by rw[b9];omega
 have G:((n:Int)+1==0)=D:=by simp;omega
 have B:(0:Int)<=(n:Int):=by omega
 have x:(n:Int)<(n:Int)+1:=by omega
 have o:=A (λw=>aDX w j);clear h
 have c:((125:UInt8)≠b/\((125:Int)!=(b.toNat:Int))=af/\¬((125:Int)=(b.toNat:Int)))\/b=125:=by
  by_cases e:b=125
  .exact K e
  .refine V ⟨λh=>e h.symm,?_,?_⟩
   .have:b.toNat≠125:=λh=>e (by rw[<-ee];exact h);simp;omega
   .have:b.toNat≠125:=λh=>e (by rw[<-ee];exact h);omega
 rcases c with⟨i,W,-⟩|rfl
 .have f:(decide ((125:UInt8)=b)&&(decide (want=5)||decide (want=1)||decide (want=2)))=D:=by rw[decide_eq_false i];rfl
  rw[f];clear i f;go_enter co,cr;go_wp2;go_quiet (first|(go_at_call 359;refine cw (o.o _)));go_wp2;go_ret;exact⟨rfl,below_drewN _ _⟩
 .have l:((((125:UInt8)).toNat:Nat):Int)=125:=rfl;rw[l]
  have d:want=5\/want=1\/want=2\/(decide (want=5)||decide (want=1)||decide (want=2))=D/\((want:Int)==5)=D/\((want:Int)==1)=D/\((want:Int)==2)=D:=by
   by_cases k:want=5
   .exact V k
   by_cases q:want=1
   .exact K (V q)
   by_cases m:want=2
   .exact K (K (V m))
   exact K (K (K ⟨by simp[k,q,m],by simp;omega,by simp;omega,by simp;omega⟩))
  have a:decide ((125:UInt8)=125)=af:=rfl;rw[a,fw];rcases d with rfl|rfl|rfl|⟨f,k,q,m⟩;rotate_left 3
  .rw[f];clear f a l;go_enter co,cr;go_wp2;go_quiet (first|(go_at_call 359;refine cw (o.o _)));go_wp2;go_ret;exact⟨rfl,below_drewN _ _⟩
  all_goals
   clear a l;go_enter co,cr;go_wp2;go_quiet (first|(go_at_call 359;refine cw (o.o _)));go_wp2;go_ret;exact⟨rfl,below_drewN _ _⟩
def mK(F:Nat->Prop)(w:U)(p:Nat)(x:Ps)(s:LS)(toks:List Tok)(c:UInt8)(H:aG F w p x s toks)(v:x.e.length<=1048576):
 ac Z 147 #[Y p,J E c.toNat] w λe w'=>e=ai (ak (x.D6 c))/\az w w w':=by
 obtain⟨-,L,P,Q,lb,T,q,y,-,i,-,-,r⟩:=H;rcases qH x.e with d|⟨f,B,b⟩
 .obtain⟨a,cap,rfl⟩:=nG r;unfold dM at i;rw[d,ib]at i;have j:x.D6 c=D:=by unfold fk;rw[d];rfl
  rw[j];exact aIp w p cap x.b a c _ _ _ _ _ _ _ _ i
 .rw[b]at r;obtain⟨g,off,cap,u,rfl,l,C,z,G,a0,W,n⟩:=o6 r;have o:f.length<=1048576:=by rw[b]at v;simp at v;omega
  cases B with
  | list m=>
   obtain⟨t,rfl,-,-⟩:=n
   have j:x.D6 c=(decide ((93:UInt8)=c)&&(decide (x.b=5)||decide (x.b=1)||decide (x.b=2))):=by
    have h:x.e.getLast?=I (bj m):=(by rw[b];simp);unfold fk;rw[h];rfl
   rw[j];exact aIq w p g off f.length cap t x.b c _ _ _ _ _ _ _ _ i l o
  | object k=>
   obtain⟨t,mp,kV,rfl,-,-,-⟩:=n
   have j:x.D6 c=(decide ((125:UInt8)=c)&&(decide (x.b=5)||decide (x.b=1)||decide (x.b=2))):=by
    have h:x.e.getLast?=I (bh k):=(by rw[b];simp);unfold fk;rw[h];rfl
   rw[j];exact aDY w p g off f.length cap t x.b c _ _ _ _ _ _ _ _ i l o
def aKv(F:Nat->Prop)(w:U)(p:Nat)(x:Ps)(s:LS)(toks:List Tok)(a:List Fr)(m:Nat)(r:aG F w p x s toks)(d:x.e=a++ [bj m])(y:∀t∈x.c,t.A9.B9=af)(z:x.c.length<=65536)(hm:∀m,bj m∈x.e->m<=1073741824)(g3:a.length<=1048576):
 ac Z 148 #[Y p] w λe w'=>e=ai (aj #[])/\Keeps F w w'/\aG (Since F w w') w' p (bu {x with e:=a,c:=eI x.c m}) s toks:=by
 obtain⟨h,FL,FM,FP,lb,mb,g4,h2,q,W,hL,hM,hP⟩:=r;rw[d]at hP;obtain⟨g,off,cap,u,rfl,B,g5,C,g6,a0,hQ,g7⟩:=o6 hP;obtain⟨G,rfl,H,L⟩:=g7;have h3:∀w:U,(au (ae 272 (Y G)) 281 272 af).run Z w=ao (aj #[Y G,ak af]) w:=λ_=>by kernel_rfl
 have i:=hP.X8 rfl;have P:G≠p:=λe=>q.a.2.2.2 (e▸(hQ G L).1)
 have HM:=A (λ(w1:U)(b:Keeps (λk=>k=p) w w1)(f:w1.heap[p]?=I (S (dM {x with e:=a} lb mb (X (g,off) a.length cap)) 136 (0,0)))=>
  (aEM FM w1.drew mb x.c m (hM.B8 b.B0 (λk r(e:k=p)=>q.a.2.2.1 (e▸r))) y z).mono (R':=λe w2=>(∃v,e=ai v)/\Keeps F w w2/\aG (Since F w w2) w2 p {x with e:=a,c:=eI x.c m} s toks) λe w2 ⟨T,c,l⟩=>by
   have j:Keeps FM w1 w2:=⟨c.os,c.tape,c.output,c.size,c.block⟩;have Q:Keeps F w w1:=b.mono λk e=>e▸q.a.1
   have:=kW (x:={x with e:=a}) (aF h b.size) q.N6 f (hL.B8 b (λk r e=>q.a.2.1 (e▸r))) (i.A0 b (λk r e=>q.a.2.2.2 (e▸r))) j (λk r=>a7 (hM.2.1 k r) b.size) l;exact⟨T,Q.C3 this.1,this.2.F7 b.size j.size h⟩)
 have Q:=A (λw2(r:aG (Since F w w2) w2 p {x with e:=a,c:=eI x.c m} s toks)=>pT _ w2 p _ s toks r (λm g8=>hm m (by rw[d];exact ly _ g8)) (by show a.length<=_;omega));have g9:O.wrap ((a.length:Int)+1-1)=(a.length:Int):=by rw[b9];omega
 obtain⟨n,hn⟩:∃n,a.length=n:=⟨_,rfl⟩;have c4:w.cell? ⟨p,4,N⟩=I (X (g,off) (n+1) cap):=by rw[aA W,<-hn];rfl
 have cf:∀o,w.frozen? ⟨p,o,N⟩=D:=free_at W;have j:=aB (o:=4) W (X (g,off) n cap);rw[hn]at g3 B g9 C HM;have h0:=A H;have T:=A P;have h1:=A h;have h4:(0:Int)<=(n:Int):=by omega
 have h5:(n:Int)<=(cap:Int):=by omega
 have l:=A j;clear h q W hL hM hP hQ H L i d y z hm g5 j g6;go_enter func148,ntmps148;go_wp2;go_region;go_wp2;go_region;have b:Keeps (λk=>k=p) w (w.setCell ⟨p,4,N⟩ (X (g,off) n cap)).drew.drew:=((ah (λk=>k=p) w).A3 (p:=⟨p,4,N⟩) (V rfl) _).B0.B0;have f:(w.setCell ⟨p,4,N⟩ (X (g,off) n cap)).drew.drew.heap[p]?=I (S (dM {x with e:=a} lb mb (X (g,off) n cap)) 136 (0,0)):=l.o;have d:=HM.o _ b f;obtain⟨i,h⟩:∃i,(w.setCell ⟨p,4,N⟩ (X (g,off) n cap)).drew.drew=i:=⟨_,rfl⟩;rw[h]at b f d⊢;obtain⟨-,-,-,y,-,-,-,-,-,-,-⟩:=b8 f;have q:i.cell? G=I (J O m):=aA (b.B4 h0.o T.o);have j:=A d;clear b f d h c4 cf B l;go_wp2
 go_region_with (go_at_call 173;refine(j.o).mono ?_;rintro e w2 ⟨⟨v,rfl⟩,c,b⟩)
 all_goals
  have d:=A c;have h:=A (Q.o w2 b);clear c b;go_wp2_with fail;refine(h.o).mono ?_;rintro e z ⟨rfl,b,c⟩;have f:=A b;have l:=A c;clear b c;go_wp2;go_end0;exact⟨rfl,d.o.C3 f.o,l.o.F7 d.o.size f.o.size h1.o⟩
def aFX(F:Nat->Prop)(w:U)(p:Nat)(x:Ps)(s:LS)(toks:List Tok)(a:List Fr)(h:List Oo)(z:aG F w p x s toks)(d:x.e=a++ [bh h])(C:∀t∈x.c,t.A9.B9=af)(G:x.c.length<=65536)(hm:∀m,bj m∈x.e->m<=1073741824)(g9:a.length<=1048576)(H:bK h)(L:h.Nodup)(P:bD h<=2097152):
 ac Z 148 #[Y p] w λe w'=>e=ai (aj #[])/\Keeps F w w'/\aG (Since F w w') w' p (bu {x with e:=a,c:=po x.c h}) s toks:=by
 obtain⟨i,FL,FM,FP,lb,mb,h0,h8,l,hb,hL,hM,hP⟩:=z;rw[d]at hP;obtain⟨g,off,cap,u,rfl,Q,h1,T,h2,a0,hQ,h3⟩:=o6 hP;obtain⟨B,mp,kV,rfl,W,g3,j,g4,-,-⟩:=h3;have h9:∀w:U,(au (ae 275 (Y B)) 281 272 af).run Z w=ao (aj #[Y N,ak D]) w:=λ_=>by kernel_rfl
 have i0:∀w:U,(au (ae 275 (Y B)) 281 275 af).run Z w=ao (aj #[Y B,ak af]) w:=λ_=>by kernel_rfl
 obtain⟨ka,kc,g5⟩:=j.1.A8;subst g5;have q:=hP.X8 rfl;have g6:B≠p:=λe=>l.a.2.2.2 (e▸(hQ B g3).1)
 have HM:=A (λ(w1:U)(b:Keeps (λk=>k=p) w w1)(f:w1.heap[p]?=I (S (dM {x with e:=a} lb mb (X (g,off) a.length cap)) 136 (0,0)))=>
  (aCc FM w1.drew mb h.length kc ka x.c h (hM.B8 b.B0 (λk z(e:k=p)=>l.a.2.2.1 (e▸z))) C G (j.1.A0 b.B0 (λk z(e:k=p)=>l.a.2.2.2 (e▸(hQ _ (j.2 k z)).1))) g4 H L P).mono (R':=λe w2=>(∃v,e=ai v)/\Keeps F w w2/\aG (Since F w w2) w2 p {x with e:=a,c:=po x.c h} s toks) λe w2 ⟨he,c,y⟩=>by
   have r:Keeps FM w1 w2:=⟨c.os,c.tape,c.output,c.size,c.block⟩;have g7:Keeps F w w1:=b.mono λk e=>e▸l.a.1
   have:=kW (x:={x with e:=a}) (aF i b.size) l.N6 f (hL.B8 b (λk z e=>l.a.2.1 (e▸z))) (q.A0 b (λk z e=>l.a.2.2.2 (e▸z))) r (λk z=>a7 (hM.2.1 k z) b.size) y;exact⟨he,g7.C3 this.1,this.2.F7 b.size r.size i⟩)
 have g7:=A (λw2(z:aG (Since F w w2) w2 p {x with e:=a,c:=po x.c h} s toks)=>pT _ w2 p _ s toks z (λm h4=>hm m (by rw[d];exact ly _ h4)) (by show a.length<=_;omega));have h5:O.wrap ((a.length:Int)+1-1)=(a.length:Int):=by rw[b9];omega
 obtain⟨n,hn⟩:∃n,a.length=n:=⟨_,rfl⟩;have c4:w.cell? ⟨p,4,N⟩=I (X (g,off) (n+1) cap):=by rw[aA hb,<-hn];rfl
 have cf:∀o,w.frozen? ⟨p,o,N⟩=D:=free_at hb;have r:=aB (o:=4) hb (X (g,off) n cap);rw[hn]at g9 Q h5 T HM;have h6:=A W;have g8:=A g6;have h7:=A i;have i1:(0:Int)<=(n:Int):=by omega
 have i2:(n:Int)<=(cap:Int):=by omega
 have y:=A r;clear i l hb hL hM hP hQ W g3 q d C G hm h1 r h2 j g4 H L P;go_enter func148,ntmps148;go_wp2;go_region;go_wp2;go_region;have b:Keeps (λk=>k=p) w (w.setCell ⟨p,4,N⟩ (X (g,off) n cap)).drew.drew:=((ah (λk=>k=p) w).A3 (p:=⟨p,4,N⟩) (V rfl) _).B0.B0;have f:(w.setCell ⟨p,4,N⟩ (X (g,off) n cap)).drew.drew.heap[p]?=I (S (dM {x with e:=a} lb mb (X (g,off) n cap)) 136 (0,0)):=y.o;have d:=HM.o _ b f;obtain⟨j,i⟩:∃j,(w.setCell ⟨p,4,N⟩ (X (g,off) n cap)).drew.drew=j:=⟨_,rfl⟩;rw[i]at b f d⊢;obtain⟨-,-,-,C,-,-,-,-,-,-,-⟩:=b8 f;have r:j.cell? B=I (X ka h.length kc):=aA (b.B4 h6.o g8.o);have l:=A d;clear b f d i c4 cf Q y;go_wp2
 go_region_with (go_at_call 174;refine(l.o).mono ?_;rintro e w2 ⟨⟨v,rfl⟩,c,b⟩)
 all_goals
  have d:=A c;have i:=A (g7.o w2 b);clear c b;go_wp2_with fail;refine(i.o).mono ?_;rintro e y ⟨rfl,b,c⟩;have f:=A b;have q:=A c;clear b c;go_wp2;go_end0;exact⟨rfl,d.o.C3 f.o,q.o.F7 d.o.size f.o.size h7.o⟩
def aFY{x:Ps}{c:List Fr}{k:List Oo}{l:Oo}{b:Nat}(a:x.e=c++ [bh k])(f:x.b=2\/x.b=3)(e:l∈k):x.E7 b l=.error (101,b):=by
 have d:fP x.e=k:=by unfold fP;rw[a];simp
 unfold fh;rw[py,d,pz e]
def aKw{x:Ps}{b:List Fr}{k:List Oo}{l:Oo}{c:Nat}(a:x.e=b++ [bh k])(g:x.b=2\/x.b=3)(f:l∉k):x.E7 c l=(dj {x with e:=b++ [bh (k++ [l])]} l c).map λp=>{p with b:=4}:=by
 have e:fP x.e=k:=by unfold fP;rw[a];simp
 have d:x.e.dropLast=b:=by rw[a];simp
 unfold fh;rw[py,e,py f,d]
def aIr{f:Nat->Prop}{w:U}{a:R}{b:List Fr}{o:Fr}{c:List R}(i:eO f w a (b++ [o]) c):
 ∃g off cap u,a=X (I ⟨g,off,N⟩) (b.length+1) cap/\w.cell? ⟨g,off+b.length,N⟩=I u/\f g/\b.length+1<=cap/\cap<=bz/\∃Q:Nat->Prop,(∀k,Q k->f k/\k≠g)/\jU Q w u o/\
  ∀(w':U)(G:Nat->Prop)(h:Fr),Keeps G w w'->(∀k,G k->f k->Q k)->jU (Since Q w w') w' u h->eO (Since f w w') w' a (b++ [h]) c:=by
 obtain⟨Q,u,m,s,j,l⟩:=i.M3;have d:c.length=b.length+1:=by rw[i.d];simp
 rcases i.a.1 with⟨rfl,p⟩|⟨g,off,cap,r,rfl,q,v,-,t,hi⟩
 .rw[p]at d;simp at d
 .refine⟨g,off,cap,u,by rw[d],?_,i.a.2 g rfl,by omega,t,Q,λk n=>⟨(m k n).1,λe=>(m k n).2 (by rw[e];rfl)⟩,j,l⟩;rw[aA q];exact hi _ u s
def aG.cells{G:Nat->Prop}{w:U}{p:Nat}{x:Ps}{s:LS}{toks:List Tok}(h:aG G w p x s toks):w.cell? ⟨p,8,N⟩=I dh/\w.cell? ⟨p,9,N⟩=I (ak D)/\(∀o,w.frozen? ⟨p,o,N⟩=D)/\w.cell? ⟨p,5,N⟩=I (J O x.b)/\w.cell? ⟨p,1,N⟩=I (J O x.a):=by
 obtain⟨-,i,l,k,lb,j,a,b,-,d,-,-,-⟩:=h;obtain⟨-,c1,-,-,-,g,-,-,c,e,f⟩:=b8 d;exact⟨c,e,f,g,c1⟩
def aKx(F:Nat->Prop)(w:U)(p:Nat)(x:Ps)(s:LS)(toks:List Tok)(i C:Nat)(l:Oo)(P:List Fr)(k:List Oo)(hl:l.length<=16777216)(L:aG F w p x s toks)(v:x.e=P++ [bh k])(m1:P.length<=1048576)(n5:k.length<=4194303)(m2:x.bytes<=1073741824)(hw:x.b=2\/x.b=3):
 ac Z 113 #[Y p,ar #[i,C,ag ⟨l.toArray⟩]] w λe w'=>cI e/\dL F w p s toks (x.E7 i l) e w':=by
 have j1:=L.lt;have h1:=boxed L (S #[i,C,ag ⟨l.toArray⟩] 241);have r:=aL w (S #[i,C,ag ⟨l.toArray⟩] 241);have k6:¬F w.heap.size:=λhf=>absurd (j1 _ hf) (ft _);have m3:=A j1;have m4:=A L.O5;have h3:Keeps F w (w.alloc (S #[i,C,ag ⟨l.toArray⟩] 241)):=(ah F w).A5 _;obtain⟨W,hW⟩:∃W,w.alloc (S #[i,C,ag ⟨l.toArray⟩] 241)=W:=⟨_,rfl⟩;rw[hW]at h1 r h3;have i0:=A h3;have k7:=A h1;obtain⟨h5,FL,FM,FP,lb,mb,m5,k8,hp,hb,hL,hM,hP⟩:=h1;rw[v]at hP;obtain⟨g,off,cap,u,rfl,k9,-,l0,-,a0,hQ,m6,k1⟩:=aIr hP;obtain⟨h,mp,kV,rfl,Q,j2,T,i1,i2,j3⟩:=m6;have n6:∀w:U,(au (ae 275 (Y h)) 281 275 D).run Z w=ao (Y h) w:=λ_=>by kernel_rfl
 have i3:l.length<=bz:=by unfold bz;omega
 have m7:O.wrap ((P.length:Int)+1-1)=(P.length:Int):=by rw[b9];omega
 obtain⟨n,hn⟩:∃n,P.length=n:=⟨_,rfl⟩;have c4:W.cell? ⟨p,4,N⟩=I (X (g,off) (n+1) cap):=by rw[aA hb,<-hn];rfl
 rw[hn]at m1 k9 m7 l0;have b0:W.cell? ⟨w.heap.size,0,N⟩=I (J O i):=aA r;have b2:W.cell? ⟨w.heap.size,2,N⟩=I (ag ⟨l.toArray⟩):=aA r;have f0:W.cell? h=I kV:=aA Q;have f1:W.cell? ⟨h,1,N⟩=I (bs (I mp)):=aA Q;have c5:W.cell? ⟨p,5,N⟩=I (J O x.b):=by rw[aA hb];rfl
 have f:=ga (w:=W.drew.drew) (show eY W.drew.drew mp k.reverse from i2) i3;have H:Keeps (λ_=>False) W (W.alloc (S #[] 101)):=(ah _ W).A5 _;have d:=ga (w:=(W.alloc (S #[] 101)).drew.drew) (show eY (W.alloc (S #[] 101)).drew.drew mp k.reverse from i2.A0 H.B0.B0 id) i3;have m8:(W.alloc (S #[] 101)).cell? ⟨w.heap.size,0,N⟩=I (J O i):=H.B6 b0 id;have k2:(W.alloc (S #[] 101)).cell? ⟨w.heap.size,2,N⟩=I (ag ⟨l.toArray⟩):=H.B6 b2 id;have m9:(W.alloc (S #[] 101)).cell? ⟨h,1,N⟩=I (bs (I mp)):=H.B6 f1 id;have n0:=A (λw=>gZ w 101 i);by_cases G:l∈k
 .rw[aFY v hw G];have hd:decide (l∈k.reverse)=af:=by simpa using G
  rw[hd]at f d;unfold encS at f d;obtain⟨sv,j4⟩:∃sv:ByteArray,(⟨l.toArray⟩:ByteArray)=sv:=⟨_,rfl⟩;rw[j4]at hW f d b2 k2⊢;have a:=A H;clear j1 r hb hL hM hP hp hQ Q j2 T i1 i2 j3 hd G v L i3 j4 k6 k1 H h3 h5;rcases hw with hw|hw
  all_goals
   rw[hw]at c5;clear hw;go_enter dw,dx;go_wp2;go_region;go_wp2;go_region
   all_goals
    go_wp2_with fail;refine(n0.o _).mono ?_;rintro e w2 ⟨he,rfl⟩;unfold bT at he;subst he;go_wp2_with fail;exact⟨rfl,K ⟨_,_,rfl⟩,i0.o.trans a.o.B0.B0 (λ_ L=>L.elim),rfl,k7.o.H8.A0 a.o.B0.B0 id⟩
 .rw[aKw v hw G];have hd:decide (l∈k.reverse)=D:=by simpa using G
  rw[hd]at f d;obtain⟨z,k3,j8,i4⟩:=eY.C5 (w:=(W.alloc (S #[] 101)).drew.drew.drew) (show eY (W.alloc (S #[] 101)).drew.drew.drew mp k.reverse from i2.A0 H.B0.B0.B0 id) (by rw[List.length_reverse];omega) i3;have h8:Keeps (λq=>q=mp) W z:=(H.B0.B0.B0.mono (λ_ L=>L.elim)).same (mW i4);obtain⟨es,n1,j5,_⟩:=i2;have i5:h≠mp:=λe=>by subst e;rw[j5]at Q;cases Q
  have l1:w.heap.size≠mp:=λe=>by rw[e,j5]at r;cases r
  have i6:kV.ownBlock≠I mp:=by
   intro e;obtain⟨c,hc⟩:=T.1.D5 e;rw[j5]at hc;cases hc
  have i7:kV.ownBlock≠I h:=by
   intro e;obtain⟨c,hc⟩:=T.1.D5 e;rw[Q]at hc;cases hc
  have h6:=h8.B4 Q i5;have m:=h8.B4 r l1;have i8:Win 9 encS z kV k:=T.1.A0 h8 (λq e hq=>i6 (by rw[e,hq]));obtain⟨ka,kc,l2⟩:=T.1.A8;have h0:Keeps (λ_=>False) z (z.drew.alloc (S #[ag ⟨l.toArray⟩] 9)):=((ah _ z).B0).A5 _;have l3:=(i8.A0 h0 (λ_ _=>id)).Q3
  have i9:∀j u,([ag ⟨l.toArray⟩]:List R)[j]?=I u->(z.drew.alloc (S #[ag ⟨l.toArray⟩] 9)).cell? ((⟨z.heap.size,0,N⟩:ct).add j)=I u:=by
   intro j u a;have hp:=vO z.heap.size j;rw[hp];show(z.drew.alloc _).cell? ⟨z.drew.heap.size,j,N⟩=_;rw[aA (aL z.drew _)];simpa using a
  have l4:∀u∈([ag ⟨l.toArray⟩]:List R),u.oneCell'=af:=λu hu=>by simp at hu;subst hu;rfl
  have l5:(k.length+1)*16<=140737488355328:=by omega
  have j9:k.length+1<=bz:=by unfold bz;omega
  have d0:z.cell? h=I kV:=aA h6;have l6:(z.alloc (S #[ag ⟨l.toArray⟩] 9)).cell? h=I kV:=((ah (λ_=>False) z).A5 _).B6 d0 id;have e1:z.cell? ⟨w.heap.size,2,N⟩=I (ag ⟨l.toArray⟩):=aA m;have l7:(z.alloc (S #[ag ⟨l.toArray⟩] 9)).cell? ⟨w.heap.size,2,N⟩=I (ag ⟨l.toArray⟩):=((ah (λ_=>False) z).A5 _).B6 e1 id;have k4:=A (h0.B4 h6 id)
  have k0:∀(B a b:Nat)(w':U),aQ 1 9 w' (X (B,a) (k.length+1) b) (k.length+1) (k.map encS++ [ag ⟨l.toArray⟩])->(kV.ownBlock=I B\/((z.drew.alloc (S #[ag ⟨l.toArray⟩] 9)).heap.size<=B/\B<w'.heap.size))->Keeps (λq=>kV.ownBlock=I q) (z.drew.alloc (S #[ag ⟨l.toArray⟩] 9)) w'->
   Keeps F W (w'.setCell h (X (B,a) (k.length+1) b))/\aG (Since F W (w'.setCell h (X (B,a) (k.length+1) b))) (w'.setCell h (X (B,a) (k.length+1) b)) p {x with e:=P++ [bh (k++ [l])]} s toks:=by
   intro B a b w' h7 j6 t;have h9:=t.B4 k4.o i7;have j0:Keeps (λq=>q=h) w' (w'.setCell h (X (B,a) (k.length+1) b)):=(ah (λq=>q=h) w').A3 (p:=h) (V rfl) _
   have h2:Keeps (λq=>q=mp\/kV.ownBlock=I q\/q=h) W (w'.setCell h (X (B,a) (k.length+1) b)):=
    (((h8.mono (λq e=>V e)).trans h0 (λ_ L=>L.elim)).trans t (λq e=>V (K (V e)))).trans j0 (λq e=>V (K (K e)))
   have k5:∀q,(q=mp\/kV.ownBlock=I q\/q=h)->a0 q:=λq e=>by
    rcases e with e|e|e
    .exact e▸j3
    .exact T.2 q e
    .exact e▸j2
   have j7:∀q,(q=mp\/kV.ownBlock=I q\/q=h)->FP q:=λq e=>(hQ q (k5 q e)).1;have l8:Keeps F W (w'.setCell h (X (B,a) (k.length+1) b)):=h2.mono (λq e=>hp.e q (j7 q e))
   have m0:Win 9 encS (w'.setCell h (X (B,a) (k.length+1) b)) (X (B,a) (k.length+1) b) (k++ [l]):=by
    have h1:Win 9 encS w' (X (B,a) (k.length+1) b) (k++ [l]):=aQ.I4 (n:=k.length+1) (by rw[List.map_append];exact h7);exact h1.A0 j0 (λq e hq=>h1.ne h9 (by decide) (e.trans (congrArg I hq)))
   have n2:eY (w'.setCell h (X (B,a) (k.length+1) b)) mp (k++ [l]).reverse:=by
    rw[List.reverse_append];exact((j8.A0 h0 id).A0 t i6).A0 j0 (λe=>i5 e.symm)
   have l9:W.heap.size<=(z.drew.alloc (S #[ag ⟨l.toArray⟩] 9)).heap.size:=bo h8.size h0.size;refine⟨l8,aF h5 l8.size,FL,FM,Since FP W (w'.setCell h (X (B,a) (k.length+1) b)),lb,mb,_,k8,hp.L6 (h5 p hp.a.1) hL.lt hM.2.1,h2.B4 hb (λe=>hp.a.2.2.2 (j7 p e)),hL.B8 h2 (λq hq e=>hp.f q hq (j7 q e)),hM.B8 h2 (λq hq e=>hp.c q hq (j7 q e)),?_⟩;refine k1 _ _ (bh (k++ [l])) h2 (λq hg _=>k5 q hg) ⟨h,mp,_,rfl,aB h9 _,V j2,⟨m0,?_⟩,λe=>by simp at e,n2,V j3⟩;intro q e;cases e;rcases j6 with L|L
   .exact V (T.2 _ L)
   .exact K ⟨bo l9 L.1,a7 L.2 j0.size⟩
  have h2:∀(B a b:Nat)(w':U),Keeps (λq=>kV.ownBlock=I q) (z.drew.alloc (S #[ag ⟨l.toArray⟩] 9)) w'->(w'.setCell h (X (B,a) (k.length+1) b)).heap[w.heap.size]?=I (S #[i,C,ag ⟨l.toArray⟩] 241 (0,0)):=by
   intro B a b w' t;refine(aE _ ?_).trans (t.B4 (h0.B4 m id) ?_)
   .intro e;rw[e,h6]at m;cases m
   .intro e;obtain⟨c,hc⟩:=i8.D5 e;rw[m]at hc;cases hc
  have j7:=A k0;have j0:=A h2;have l8:=A l3;have l9:=A i9;have m0:=A l4;have n2:=A l5;have n3:=A j9;have n4:=A i7;have k5:=A (λ(w4:U)(h4:aG (Since F W w4) w4 p {x with e:=P++ [bh (k++ [l])]} s toks)=>aBd (Since F W w4) w4 p _ s toks l i h4 (by exact m2) (by omega));obtain⟨o,ho⟩:∃o,dj {x with e:=P++ [bh (k++ [l])]} l i=o:=⟨_,rfl⟩;rw[ho]at k5⊢;clear ho;subst l2;unfold encS at f d k3;obtain⟨sv,j4⟩:∃sv:ByteArray,(⟨l.toArray⟩:ByteArray)=sv:=⟨_,rfl⟩;rw[j4]at hW f d k3 b2 k2 l6 e1 l7 k4 j7 j0 l8 l9 m0 k5⊢;have n7:=A h0;clear j1 r hb hL hM hP hp hQ Q j2 T i1 j5 j3 hd G v L i3 k6 k1 H h3 h5 k0 h2 l3 i9 l4 l5 j9 i7 i6 i8 m h6 l1 i5 h8 j8 i4 h0;rcases hw with hw|hw
  all_goals
   rw[hw]at c5;clear hw;go_enter dw,dx;go_wp2;go_region;go_wp2;go_region
   all_goals
    go_wp2;go_region;go_wp2
    go_region_law (refine bP sX rfl _ _ rfl rfl l8.o z 1 1 [ag sv] rfl rfl l9.o m0.o (by decide) n2.o n3.o ?_;intro B a b w' h7 j6 t;have t:Keeps (λq=>(X ka k.length kc).ownBlock=I q) (z.drew.alloc (S #[sv] 9)) w':=t;have h9:=t.B4 k4.o n4.o;have r:w'.cell? h=I (X ka k.length kc):=aA h9;have v:=free_at h9)
    all_goals
     have f1:=j7.o B a b w' h7 j6 t;have m:=j0.o B a b w' t;clear h7 j6 t h9 r v d0 l6 e1 l7 b0 b2 m8 k2 m9 f d k3 c4 c5 k9 f0;obtain⟨w4,G⟩:∃w4,w'.setCell h (X (B,a) (k.length+1) b)=w4:=⟨_,rfl⟩;rw[G]at f1 m;have x0:w4.cell? ⟨w.heap.size,0,N⟩=I (J O i):=aA m;have x2:w4.cell? ⟨w.heap.size,2,N⟩=I (ag sv):=aA m;have H:=A (k5.o w4 f1.2);have v:=A f1.1;clear f1 m;go_wp2_with fail;refine(H.o).mono ?_;rintro e T ⟨-,r,d⟩;have m:Keeps F w T:=(i0.o.same v.o).trans r (λq L=>L.elim V (λL=>K (bo i0.o.size L.1)));have f:=A m;have Q:=A r.size;clear r m;cases o with
     | error r=>
      obtain⟨no,a2⟩:=r;obtain⟨he,m⟩:=d;have HD:=A m;clear m;unfold bT at he;subst he;go_wp2_with fail;exact⟨rfl,K ⟨_,_,rfl⟩,f.o,rfl,HD.o⟩
     | ok y=>
      obtain⟨he,m⟩:=d;subst he;obtain⟨-,-,yf,y5,-⟩:=m.cells;have r:=A (o7 m 4);clear m x0 x2;go_wp2;go_end0;have i1:Keeps F w (T.setCell ⟨p,5,N⟩ (J O 4)):=f.o.A3 (p:=⟨p,5,N⟩) (V m4.o) _;refine⟨V rfl,i1,rfl,r.o.2.mono ?_ (aF m3.o i1.size)⟩;intro q L;rcases L with L|L
      .rcases L with L|L
       .rcases L with L|L
        .exact V L
        .exact K ⟨bo i0.o.size L.1,by have:=Q.o;have:=L.2;simp[gc];omega⟩
       .exact K ⟨bo i0.o.size (bo v.o.size L.1),by have:=L.2;simp[gc];omega⟩
      .exact K ⟨bo f.o.size L.1,L.2⟩
